import PyProof.Rows.All
import Wide.All
import OpenK.AllK
import Wide.FinOn
import HandS.ForMost
import HandS.Walk
import HandS.TupAny
import HandS.SortKw
import KE.DataMinMax
import KE.DataFind
import KE.KIndexOf
import HandS.IsInst
import HandS.Deep
import HandS.Zip
import KE.GoesNew
import HandS.Wide
import HandS.Gcd
import HandS.TupMul
import HandS.TryOnly
import HandS.Defaults
import PyProof.Rows.BitMore
import HandS.Head0
import HandS.Head1
import HandS.Head2
import HandS.Head3
import HandS.HeadEnd
import HandS.HeadHook4
import PySem.Challenge.RW_eachsmove_k78_whole_best_sharings_and_fr
set_option Elab.async false
set_option Elab.async false
set_option linter.all false
set_option maxHeartbeats 4000000
set_option autoImplicit false
namespace Ev
open PySem PySem.Spec PyProof.Rows L2 HT

/-! ### tuples whose object is known -/
def TObj (o : Obj) : Prop := o.cls = .type "tuple" ∧ o.dict = none
def TupD (K : PySem.W.Frag) (H : Hp) (a : Addr) : Prop := (∃ o u, H a = some (.frz o u) ∧ TObj o) ∨ ∃ o, K.lookup a = some o ∧ TObj o
/-- wished for of any new tuple -/
def NewT (H : Hp) (xs : List V) (Q : VK) : Prop := ∀ p o, TObj o → H p = none → Q (.ref p) (upd H p (.frz o (.tup xs)))
section
variable {X : Cx} {pins : List (Addr × Obj)} {σ : L2.St} {H : Hp} {s : Shared}
theorem tupD_is {a : Addr} {u : Value} (I : Inv X pins σ H s) (t : TupD X.K H a) (r : RelV (.ref a) u) : s.TypeIs u "tuple" ∧ ∀ b, u = .ref b → ∃ ob, s.heap.get? b = some ob ∧ ob.dict = none := by
  cases r
  rcases t with ⟨o, w, e, c, d⟩ | ⟨o, e, c, d⟩
  · have g := (show ObjOk X.prog X.w H s.heap a (.frz o w) from I.hok a _ e).1
    exact ⟨⟨o, g, c⟩, fun b q => by cases q; exact ⟨o, g, d⟩⟩
  · exact ⟨⟨o, I.kIn a o e, c⟩, fun b q => by cases q; exact ⟨o, I.kIn _ o e, d⟩⟩
theorem laidT {its : List Value} {ys : List V} {n : Nat} (I : Inv X pins σ H s) (r : Vals ys its) (z : ys.length ≤ sizeLine) :
    Inv X pins σ (upd H s.heap.objs.size (.frz { cls := .type "tuple", data := .seq its.toArray n } (.tup ys))) { s with heap := s.heap.push { cls := .type "tuple", data := .seq its.toArray n } } :=
  I.laid (t' := s.toks) (fun _ _ e => Heap.get?_push_of_some _ e) (Nat.le_refl _) ⟨Heap.get?_push_size _ rfl, z, its, r, _, Heap.get?_push_size _ rfl, rfl, _, rfl⟩
theorem NewT.use {xs : List V} {Q : VK} (q : NewT H xs Q) (I : Inv X pins σ H s) {its : List Value} {n : Nat} : Q (.ref s.heap.objs.size) (upd H s.heap.objs.size (.frz { cls := .type "tuple", data := .seq its.toArray n } (.tup xs))) :=
  q _ _ ⟨rfl, rfl⟩ (I.hok.fresh (Nat.le_refl _))
end
section
variable {X : Cx} {es : List Expr} {t : TA} {pos : Pos}
/-- (e1, e2, ..) -/
def tTupD (t : TA) : TE := fun σ H Q => t σ H fun xs H1 => xs.length ≤ sizeLine ∧ NewT H1 xs Q
theorem pe_tupD {k} (h : PA X es t) : PE X (.Tuple es k pos) (tTupD t) :=
  ⟨fun pins s σ H Q I hq => wpAny_Tuple_spliced (thn (h.run pos pins s σ H _ I hq) fun us s1 ⟨xs, H1, I1, r, z, q⟩ =>
    ⟨by rw [← r.length]; exact z, ⟨.ref s1.heap.objs.size, _, laidT I1 r z, rfl, q.use I1⟩⟩)⟩
/-- t + u -/
def rCatD (K : PySem.W.Frag) : R2 := fun x y H Q => ∃ a b xs ys, (x = .ref a ∧ y = .ref b) ∧ (SqT K H a xs ∧ SqT K H b ys) ∧ xs.length + ys.length ≤ sizeLine ∧
  (xs = [] → Q (.ref b) H) ∧ (xs ≠ [] → ys = [] → Q (.ref a) H) ∧ (xs ≠ [] → ys ≠ [] → NewT H (xs ++ ys) Q)
theorem op_catD : OpR X (binaryOp .Add) (rCatD X.K) := fun pins s σ H x y v u Q I rx ry h => by
  obtain ⟨a, b, xs, ys, ⟨ex, ey⟩, ⟨ha, hb⟩, hz, q0, q1, q2⟩ := h
  subst ex; subst ey
  cases rx; cases ry
  obtain ⟨l1, r1, p1, _⟩ := I.tuple ha
  obtain ⟨l2, r2, p2, _⟩ := I.tuple hb
  by_cases hx : xs = []
  · subst hx
    cases r1
    exact cat_tup0 p1 p2 ⟨.ref b, H, I, rfl, q0 rfl⟩
  · have n1 : l1 ≠ [] := fun z => hx (r1.nil_iff.mp z)
    have zz : l1.length + l2.length ≤ sizeLine := by rw [← r1.length, ← r2.length]; exact hz
    refine HT.cat_tup p1 p2 n1 (fun z => ⟨.ref a, H, I, rfl, q1 hx (r2.nil_iff.mp z)⟩) (fun z => ?_) zz
    exact ⟨.ref s.heap.objs.size, _, laidT I (r1.append r2) (by rw [List.length_append]; exact hz), rfl, (q2 hx fun w => z (r2.nil_iff.mpr w)).use I⟩
/-- t[lo:hi] -/
def rSlD (K : PySem.W.Frag) : V → Option Int → Option Int → Hp → VK → Prop := fun x lo hi H Q => ∃ a xs, x = .ref a ∧ SqT K H a xs ∧
  ((HT.sIx xs.length 0 lo = 0 ∧ HT.sIx xs.length xs.length hi = xs.length → Q (.ref a) H) ∧ (¬ (HT.sIx xs.length 0 lo = 0 ∧ HT.sIx xs.length xs.length hi = xs.length) → NewT H (cutV xs lo hi) Q))
theorem sl_tupD : SlR X (rSlD X.K) := fun pins s σ H x v vl vu lo hi sl Q I rx hs pl pu h => by
  obtain ⟨a, xs, ex, hx, q1, q2⟩ := h
  subst ex
  cases rx
  obtain ⟨l, r, ht, hz⟩ := I.tuple hx
  have hl : l.toArray.size = xs.length := r.length.symm ▸ List.size_toArray
  refine ⟨"tuple", _, PyProof.Rows.slot_tuple_getitem.lookup, ht.typeIs, ?_⟩
  by_cases hw : HT.sIx xs.length 0 lo = 0 ∧ HT.sIx xs.length xs.length hi = xs.length
  · exact getItem_tuple_whole ht hs pl pu (hl ▸ hw) ⟨.ref a, H, I, rfl, q1 hw⟩
  · refine HT.getItem_tuple_cut ht hs pl pu (fun z => hw (hl ▸ z)) ?_ (hl.symm ▸ hz)
    rw [hl]
    have rr := (r.drop (HT.sIx xs.length 0 lo)).take (HT.sIx xs.length xs.length hi - HT.sIx xs.length 0 lo)
    exact ⟨.ref s.heap.objs.size, _, laidT I rr (Nat.le_trans (cutV_length xs lo hi) hz), rfl, (q2 hw).use I⟩
/-- tuple(x) -/
def rTupOf (K : PySem.W.Frag) : List V → Hp → VK → Prop := fun xs H Q => ∃ p ys, xs = [.ref p] ∧ ((SqL K H p ys ∧ NewT H ys Q) ∨ (SqT K H p ys ∧ Q (.ref p) H))
theorem call_tupD : CallR X (.type "tuple") (rTupOf X.K) := fun pins s σ H xs us Q I r h => by
  obtain ⟨p, ys, ex, h⟩ := h
  subst ex
  obtain ⟨u, eu, rx⟩ := vals1 r
  subst eu
  cases rx
  rcases h with ⟨hq, q⟩ | ⟨hq, q⟩
  · obtain ⟨l, r', pl, hz⟩ := I.list hq
    refine call_tuple_list pl.isList (fun h' kp => ?_) (by rw [List.size_toArray, ← r'.length]; exact hz)
    have I1 : Inv X pins σ H { s with heap := h' } := I.kept (t' := s.toks) kp
    have q' : NewT H ys Q := q
    exact ⟨.ref h'.objs.size, _, laidT I1 r' hz, rfl, q'.use I1⟩
  · obtain ⟨l, r', pl, hz⟩ := I.tuple hq
    exact call_tuple_same pl ⟨.ref p, H, I, rfl, q⟩
end
/-! ### o.m(..) of tuples and of lists -/
section
variable {X : Cx} {o e : Expr} {es : List Expr} {to : TE} {t : TA} {name : Str} {apos cpos : Pos} {id : String} {r : V → List V → Hp → VK → Prop}
def tBMD (K : PySem.W.Frag) (r : V → List V → Hp → VK → Prop) (to : TE) (t : TA) : TE := fun σ H Q => to σ H fun x H1 => (∃ a, x = .ref a ∧ TupD K H1 a) ∧ t σ H1 fun xs H2 => r x xs H2 Q
theorem pe_bmD (slot : Slot "tuple" name id) (hty : typeOf (.builtin id) = pure (.type "method_descriptor")) (hm : MtR X id r) (ho : PE X o to) (ha : PA X (e :: es) t)
    (hb : attributeBase o name X.env (eval o X.env) = eval o X.env) (hl : (apos.endLine == cpos.line) = true) (hn : (e :: es).all (fun e => match e with | .Starred _ _ => false | _ => true) = true) (hk : (e :: es).length < 30)
    (hs : starEach (e :: es) X.env = (false, eval e X.env) :: starEach es X.env) (hp : (backTo cpos (starEach es X.env)).any (·.1) = false)
    (hf : (backTo cpos (starEach (e :: es) X.env)).all (fun x => !x.1) = true) :
    PE X (.Call (.Attribute o name apos) (e :: es) [] cpos) (tBMD X.K r to t) := ⟨fun pins s σ H Q I h => by
  have few : ((backTo cpos (starEach (e :: es) X.env)).all (fun x => !x.1) && (backToKw cpos (keywordEach [] X.env)).all (fun x => x.1.isSome)
      && decide ((e :: es).length + ([] : List Keyword).length + (if ([] : List Keyword).isEmpty then 0 else 1) < 30)) = true := by
    rw [hf]
    have : decide ((e :: es).length + ([] : List Keyword).length + (if ([] : List Keyword).isEmpty then 0 else 1) < 30) = true := by
      rw [decide_eq_true_eq]
      simp only [List.isEmpty_nil, if_true, List.length_nil]
      exact hk
    rw [this]; rfl
  refine wpAny_Call_method_late hb few hl rfl (thn (ho.run pins s σ H _ I h) fun v s1 ⟨x, H1, I1, r1, ⟨a, ex, ta⟩, q1⟩ => ?_)
  subst ex
  obtain ⟨h1, h2⟩ := tupD_is I1 ta r1
  have z := ha.run cpos pins s1 σ H1 _ I1 q1
  refine ⟨"tuple", id, PySem.F.plainAttrs_tuple, slot, hty, h1, h2, ?_⟩
  rw [hs] at z ⊢
  have pl : ((false, eval e X.env) :: backTo cpos (starEach es X.env)).any (·.1) = false := by rw [List.any_cons, hp]; rfl
  exact Calls.callWith_builtin pl (Calls.evalArgs_plain (thn z fun us s2 ⟨vs, H2, I2, r2, q2⟩ => hm pins s2 σ H2 _ vs v us Q I2 r1 r2 q2))⟩
end
end Ev

set_option Elab.async false
set_option linter.all false
set_option maxRecDepth 100000
set_option maxHeartbeats 4000000
set_option autoImplicit false
namespace Ev
open PySem PySem.Spec PyProof.Rows L2

/-! ### numbers as data -/
theorem dpInts {K : PySem.W.Frag} {H : Hp} : ∀ ns : List Int, DpAll K H (ns.map V.int) (ns.map PyData.int)
  | [] => .nil
  | n :: ns => .cons (.int n) (dpInts ns)
theorem depthInts : ∀ ns : List Int, PyData.depthAll (ns.map PyData.int) = 0
  | [] => rfl
  | n :: ns => by
    show max (PyData.depth (.int n)) (PyData.depthAll (ns.map PyData.int)) = 0
    rw [depthInts ns]; rfl
theorem plainInts : ∀ ns : List Int, PyData.plainAll (ns.map PyData.int) = true
  | [] => rfl
  | n :: ns => by
    show (PyData.plain (.int n) && PyData.plainAll (ns.map PyData.int)) = true
    rw [plainInts ns]; rfl
theorem alikeInts (ns : List Int) : PySem.W.AlikeAll (ns.map PyData.int) := by
  refine ⟨fun x hx y hy => ?_, fun x hx => ?_⟩
  · obtain ⟨i, _, e⟩ := List.mem_map.mp hx
    obtain ⟨j, _, e2⟩ := List.mem_map.mp hy
    rw [← e, ← e2]; rfl
  · obtain ⟨i, _, e⟩ := List.mem_map.mp hx
    rw [← e]; exact fun z => nomatch z
theorem countInts (ns : List Int) (k : Int) : (ns.map PyData.int).countP (fun y => PyData.eqv y (.int k)) = ns.count k := by
  rw [List.countP_map]; rfl
def big (mx : Bool) (n : Int) (ns : List Int) : Int := if mx = true then ns.foldl max n else ns.foldl min n
def bigN (mx : Bool) : String := if mx = true then "max" else "min"
/-- a list's or a tuple's numbers -/
def NumsAt (K : PySem.W.Frag) (H : Hp) (a : Addr) (ns : List Int) : Prop := SqL K H a (ns.map V.int) ∨ SqT K H a (ns.map V.int)
def rBig (mx : Bool) (K : PySem.W.Frag) : List V → Hp → VK → Prop := fun xs H Q => ∃ a n ns, xs = [.ref a] ∧ NumsAt K H a (n :: ns) ∧ Q (.int (big mx n ns)) H
section
variable {X : Cx} {pins : List (Addr × Obj)} {σ : L2.St} {H : Hp} {s : Shared}
theorem readNum {h : Heap} {v : Value} {i : Int} {as : List Addr} (r : Reads h v (.int i) as) : ∃ t, v = .int i t := by
  cases r; exact ⟨_, rfl⟩
theorem cr_big (mx : Bool) (hc : X.calm = true) (hu : X.A.units + 65 < cLine) : CallR X (.builtin (bigN mx)) (rBig mx X.K) := fun pins s σ H xs us Q I r h => by
  obtain ⟨a, n, ns, ex, hs, q⟩ := h
  subst ex
  rw [Vals.ref1 r]
  have hd := I.ok.hd hc
  have du : X.A.units + 1 + PyData.depthAll (.int n :: ns.map PyData.int) < cLine := by
    have := depthInts (n :: ns)
    rw [List.map_cons] at this
    omega
  have al := alikeInts (n :: ns)
  rw [List.map_cons] at al
  have fin : ∀ (e : PyData) (he : e = .int (big mx n ns)) (i : Nat) v h' tk bs, Reads h' v e bs → (∀ b o, s.heap.get? b = some o → h'.get? b = some o) → EP X pins σ Q v { s with heap := h', toks := tk } := fun e he i v h' tk bs rd kp => by
    rw [he] at rd
    obtain ⟨t, ev⟩ := readNum rd
    exact ⟨.int (big mx n ns), H, I.kept kp, ⟨t, ev⟩, q⟩
  rcases hs with hs | hs
  · obtain ⟨its, rv, hl, _⟩ := I.list hs
    obtain ⟨as, ra⟩ := Dp.readsAll I _ _ its (dpInts (n :: ns)) rv
    cases mx
    · exact PySem.W.min_list_data hd hl.isList (by simpa using ra) al du fun i v h' tk bs _ rd kp => fin _ (PySem.W.minD_ints n ns) i v h' tk bs rd kp
    · exact PySem.W.max_list_data hd hl.isList (by simpa using ra) al du fun i v h' tk bs _ rd kp => fin _ (PySem.W.maxD_ints n ns) i v h' tk bs rd kp
  · obtain ⟨its, rv, hl, _⟩ := I.tuple hs
    obtain ⟨as, ra⟩ := Dp.readsAll I _ _ its (dpInts (n :: ns)) rv
    cases mx
    · exact PySem.W.min_tuple_data hd hl (by simpa using ra) al du fun i v h' tk bs _ rd kp => fin _ (PySem.W.minD_ints n ns) i v h' tk bs rd kp
    · exact PySem.W.max_tuple_data hd hl (by simpa using ra) al du fun i v h' tk bs _ rd kp => fin _ (PySem.W.maxD_ints n ns) i v h' tk bs rd kp
def bigD (mx : Bool) (d : Int) (ns : List Int) : Int := match ns with
  | [] => d
  | n :: ns => big mx n ns
def rBigD (mx : Bool) (K : PySem.W.Frag) : List V → List V → Hp → VK → Prop := fun xs zs H Q => ∃ a d ns, xs = [.ref a] ∧ zs = [.int d] ∧ NumsAt K H a ns ∧ Q (.int (bigD mx d ns)) H
theorem cr_bigD (mx : Bool) (hc : X.calm = true) (hu : X.A.units + 65 < cLine) : CallRK X (.builtin (bigN mx)) [Str.ofString "default"] (rBigD mx X.K) := fun pins s σ H xs zs us ws Q I r rz h => by
  obtain ⟨a, d, ns, ex, ez, hs, q⟩ := h
  subst ex; subst ez
  rw [Vals.ref1 r]
  obtain ⟨w, ew, rw0⟩ := vals1 rz
  subst ew
  obtain ⟨t, ew⟩ := (show ∃ t, w = Value.int d t from rw0)
  subst ew
  have hd := I.ok.hd hc
  have du : X.A.units + 1 + PyData.depthAll (ns.map PyData.int) < cLine := by
    have := depthInts ns
    omega
  have al := alikeInts ns
  have f0 : ns.map PyData.int = [] → ∀ h' tk, (∀ b o, s.heap.get? b = some o → h'.get? b = some o) → EP X pins σ Q (.int d t) { s with heap := h', toks := tk } := fun e h' tk kp => by
    have e' : ns = [] := List.map_eq_nil_iff.mp e
    subst e'
    exact ⟨.int d, H, I.kept kp, ⟨t, rfl⟩, q⟩
  have f1 : ∀ (y : PyData) (ys : List PyData) (e : PyData) (i : Nat) v h' tk bs, ns.map PyData.int = y :: ys → (∀ n m, y = .int n → ys = m.map .int → e = .int (big mx n m)) → Reads h' v e bs → (∀ b o, s.heap.get? b = some o → h'.get? b = some o) → EP X pins σ Q v { s with heap := h', toks := tk } := fun y ys e i v h' tk bs el he rd kp => by
    cases ns with
    | nil => cases el
    | cons n ns =>
      rw [List.map_cons] at el
      injection el with e1 e2
      rw [he n ns e1.symm e2.symm] at rd
      obtain ⟨t, ev⟩ := readNum rd
      exact ⟨.int (big mx n ns), H, I.kept kp, ⟨t, ev⟩, q⟩
  rcases hs with hs | hs
  · obtain ⟨its, rv, hl, _⟩ := I.list hs
    obtain ⟨as, ra⟩ := Dp.readsAll I _ _ its (dpInts ns) rv
    cases mx
    · exact PySem.W.min_list_default hd hl.isList (by simpa using ra) al du f0 fun y ys i v h' tk bs el _ rd kp => f1 y ys _ i v h' tk bs el (fun n m a1 a2 => by rw [a1, a2]; exact PySem.W.minD_ints n m) rd kp
    · exact PySem.W.max_list_default hd hl.isList (by simpa using ra) al du f0 fun y ys i v h' tk bs el _ rd kp => f1 y ys _ i v h' tk bs el (fun n m a1 a2 => by rw [a1, a2]; exact PySem.W.maxD_ints n m) rd kp
  · obtain ⟨its, rv, hl, _⟩ := I.tuple hs
    obtain ⟨as, ra⟩ := Dp.readsAll I _ _ its (dpInts ns) rv
    cases mx
    · exact PySem.W.min_tuple_default hd hl (by simpa using ra) al du f0 fun y ys i v h' tk bs el _ rd kp => f1 y ys _ i v h' tk bs el (fun n m a1 a2 => by rw [a1, a2]; exact PySem.W.minD_ints n m) rd kp
    · exact PySem.W.max_tuple_default hd hl (by simpa using ra) al du f0 fun y ys i v h' tk bs el _ rd kp => f1 y ys _ i v h' tk bs el (fun n m a1 a2 => by rw [a1, a2]; exact PySem.W.maxD_ints n m) rd kp

/-! ### t.index(k), t.count(k) -/
def rIxT (K : PySem.W.Frag) : V → List V → Hp → VK → Prop := fun x xs H Q => ∃ (a : Addr) (k : Int) (ns : List Int), x = .ref a ∧ xs = [.int k] ∧ SqT K H a (ns.map V.int) ∧ k ∈ ns ∧ Q (.int (ns.idxOf k : Nat)) H
theorem mt_ixT : MtR X "tuple.index" (rIxT X.K) := fun pins s σ H x xs v us Q I rx rxs h => by
  obtain ⟨a, k, ns, ex, exs, hs, hk, q⟩ := h
  subst ex; subst exs
  cases rx
  obtain ⟨w, ew, r0⟩ := vals1 rxs
  subst ew
  obtain ⟨t, ew⟩ := (show ∃ t, w = Value.int k t from r0)
  subst ew
  obtain ⟨its, rv, hl, _⟩ := I.tuple hs
  exact SeqAt.tuple_index_ints hl rv.ints hk ⟨.int _, H, I.tok _, ⟨_, rfl⟩, q⟩
def rCnt (tup : Bool) (K : PySem.W.Frag) : V → List V → Hp → VK → Prop := fun x xs H Q => ∃ (a : Addr) (k : Int) (ns : List Int), x = .ref a ∧ xs = [.int k] ∧ (if tup = true then SqT K H a (ns.map V.int) else SqL K H a (ns.map V.int)) ∧ Q (.int (ns.count k : Nat)) H
theorem mt_cnt (tup : Bool) (hu : X.A.units + 65 < cLine) : MtR X (if tup = true then "tuple.count" else "list.count") (rCnt tup X.K) := fun pins s σ H x xs v us Q I rx rxs h => by
  obtain ⟨a, k, ns, ex, exs, hs, q⟩ := h
  subst ex; subst exs
  cases rx
  obtain ⟨w, ew, r0⟩ := vals1 rxs
  subst ew
  obtain ⟨t, ew⟩ := (show ∃ t, w = Value.int k t from r0)
  subst ew
  have du : X.A.units + 1 + min (PyData.depthAll (ns.map PyData.int)) (PyData.depth (.int k)) < cLine := by
    rw [depthInts, Nat.zero_min]; omega
  have fin : EP X pins σ Q (.int (((ns.map PyData.int).countP fun y => PyData.eqv y (.int k) : Nat) : Int) s.toks) { s with toks := s.toks + 1 } := by
    rw [countInts]; exact ⟨.int _, H, I.tok _, ⟨_, rfl⟩, q⟩
  cases tup
  · obtain ⟨its, rv, hl, _⟩ := I.list hs
    obtain ⟨as, ra⟩ := Dp.readsAll I _ _ its (dpInts ns) rv
    exact PySem.SeqAt.count_list_data hl.isList (by simpa using ra) (.int k t) (plainInts ns) rfl du fin
  · obtain ⟨its, rv, hl, _⟩ := I.tuple hs
    obtain ⟨as, ra⟩ := Dp.readsAll I _ _ its (dpInts ns) rv
    exact PySem.SeqAt.count_tuple_data hl (by simpa using ra) (.int k t) (plainInts ns) rfl du fin
end
end Ev

set_option Elab.async false
set_option linter.all false
set_option maxRecDepth 100000
set_option maxHeartbeats 4000000
set_option autoImplicit false
namespace Ev
open PySem PySem.Spec PyProof.Rows L2 RZ

/-! ### enumerate over a tuple -/
theorem enum1_meets {v : Value} {o : Obj} {Hc : Heap → Prop} (B : Begins v o Hc) :
    Meets (Builtin.«enumerate.__new__» ⟨[.type "enumerate", v], []⟩) (fun _ R s => Hc s.heap ∧
      R (.ok (.ret (.ref (s.heap.push o).objs.size))) { s with heap := (s.heap.push o).push ⟨.type "enumerate", none, .fields #[.none, .bool false, .ref s.heap.objs.size, rawInt 0, .none, .none], #[]⟩ }) :=
  .of_wp fun prog w A R s h => by
    obtain ⟨hp, g, d, tk, os⟩ := s
    have hsub := sub_enumerate
    have go : ∀ {A' : Around} {E : Value → Shared → Prop} {Q : Value → Shared → Prop}, Q (.ref hp.objs.size) ⟨hp.push o, g, d, tk, os⟩ → wpAny (model prog w) A' (pyIter v) Q E ⟨hp, g, d, tk, os⟩ :=
      fun q => B.iter prog w _ _ ⟨hp, g, d, tk, os⟩ _ h.1 q
    replace h := h.2
    wp_walk using go
    refine wpAny_stack_any fun _ => wpAny_pure ?_
    split
    · rename_i c _ _ _ _ _
      cases (c == Value.type "enumerate") <;> (wp_walk using go; exact ⟨_, rfl, h⟩)
    · wp_walk using go
      exact ⟨_, rfl, h⟩
section
variable {prog : Program} {w : World} {A : Around} {E : Value → Shared → Prop} {s : Shared}
theorem enum1_call {v : Value} {o : Obj} {Hc : Heap → Prop} {Q : Value → Shared → Prop} (B : Begins v o Hc) (hv : Hc s.heap)
    (h : ∀ h', IsEnum h' (s.heap.objs.size + 1) s.heap.objs.size 0 .none → h'.get? s.heap.objs.size = some o → (∀ b u, s.heap.get? b = some u → h'.get? b = some u) → Q (.ref (s.heap.objs.size + 1)) { s with heap := h' }) :
    wpAny (model prog w) A (call (.type "enumerate") [v]) Q E s := by
  refine callType_new F.called_enumerate (by decide) (F.typeCall_enumerate_1 _) (F.newCall_enumerate_1 _) (fun ob => F.args_object_init_2 ob _) F.entry_enumerate_new (enum1_meets B) ⟨hv, ?_⟩
  have z : (s.heap.push o).objs.size = s.heap.objs.size + 1 := Heap.size_push ..
  have e := Heap.get?_push_size (s.heap.push o) (o := ⟨.type "enumerate", none, .fields #[.none, .bool false, .ref s.heap.objs.size, rawInt 0, .none, .none], #[]⟩) rfl
  show _ ∧ _
  rw [z] at e ⊢
  exact ⟨⟨_, e, rfl⟩, h _ e (Heap.get?_push_of_some _ (Heap.get?_push_size _ B.free)) fun b u x => Heap.get?_push_of_some _ (Heap.get?_push_of_some _ x)⟩
end
/-- a pair of new values, by a walk of the library that hands out new tuples -/
def IteT (K : PySem.W.Frag) (a : Addr) : It :=
  ⟨fun i H => ∃ (xs : List V) (x : V), SqT K H a xs ∧ xs[i]? = some x,
   fun i H v H' => ∃ T x, v = .ref T ∧ H T = none ∧ H' = upd H T (.tup [.int (i : Nat), x]) ∧ ∀ xs, SqT K H a xs → xs[i]? = some x,
   fun i H => ∃ xs : List V, SqT K H a xs ∧ xs.length ≤ i⟩
theorem turn_enumT {P : Program} {w : World} {K : PySem.W.Frag} {elts : List Expr} {kk : Nat} {tpos : Pos} (a e it : Addr) (h1 : e ≠ it) (h2 : e ≠ a) (h3 : a ≠ it) :
    Turn P w K (.Tuple elts kk tpos) (IteT K a) [e, it] e (fun i h => (∃ old, IsEnum h e it ((0 : Int) + (i : Int)) old) ∧ h.IsTupleIter it a i) where
  mem := List.mem_cons_self ..
  obj := fun i h ⟨⟨_, he⟩, ⟨o, ho, _, hd⟩⟩ b hb => by
    rcases List.mem_cons.mp hb with z | z
    · subst z; exact ⟨_, he, fun _ q => nomatch q⟩
    · rw [List.mem_singleton.mp z]; exact ⟨o, ho, fun _ q => by rw [hd] at q; cases q⟩
  keep := fun i h h' ⟨⟨old, he⟩, hi⟩ k => ⟨⟨old, k e (by simp) _ he⟩, hi.at fun o q => k it (by simp) o q⟩
  item := fun X eP ew eK hc i pins s σ H E I hf st hg => by
    subst eP; subst ew; subst eK
    obtain ⟨xs, x, hq, hx⟩ := hg
    obtain ⟨us, rv, p, _⟩ := I.tuple hq
    obtain ⟨u, hu, ru⟩ := rv.get hx
    have G := GoesN.enumFrom (elts := elts) (x1 := kk) (pos := tpos) 0 (Draws.tuple (prog := X.prog) (w := X.w) (A := X.A.in1) (I.ok.hd hc) it a h3 us.toArray) e h1 (by simp [h1, h2]) (by simp)
    have hi : i < us.toArray.size := by
      have := (List.getElem?_eq_some_iff.mp hu).1
      simpa using this
    refine G.goes i s _ E hi ⟨st.1, st.2, p⟩ fun v h' tk hY st' hk _ => ?_
    obtain ⟨T, t, y, e1, e2, e3, e4⟩ := hY
    subst e1
    have ey : y = u := by
      have e3' : us[i]? = some y := by simpa using e3
      rw [hu] at e3'; exact (Option.some.inj e3').symm
    subst ey
    have e5 : (0 : Int) + (i : Int) = (i : Int) := by omega
    rw [e5] at e4
    obtain ⟨o, o1, o2, n, o3⟩ := e4
    have nw : ObjOk X.prog X.w (upd H T (.tup [.int (i : Nat), x])) h' T (.tup [.int (i : Nat), x]) := ⟨by show 2 ≤ sizeLine; decide, [.int i t, y], .cons ⟨_, rfl⟩ (.cons ru .nil), o, o1, o2, n, o3⟩
    refine ⟨.ref T, _, I.turnedNew (ch := [e, it]) (t' := tk) (fun b u hb q => hk b u hb q) hf e2 nw, rfl, ⟨T, x, rfl, I.hok.fresh e2, rfl, fun ys hy => by rw [I.tuple_inj hy hq]; exact hx⟩, ⟨st'.1, st'.2.1⟩, fun b hb => ?_⟩
    have lt : b < s.heap.objs.size := by
      obtain ⟨⟨_, he⟩, ⟨o, ho, _⟩⟩ := st
      rcases List.mem_cons.mp hb with z | z
      · subst z; exact Heap.lt_size he
      · rw [List.mem_singleton.mp z]; exact Heap.lt_size ho
    rw [upd_ne (Nat.ne_of_lt (Nat.lt_of_lt_of_le lt e2))]
    exact (hf b hb).1
  done := fun X eP ew eK hc i pins s σ H E I hf st hg => by
    subst eP; subst ew; subst eK
    obtain ⟨xs, hq, hx⟩ := hg
    obtain ⟨us, rv, p, _⟩ := I.tuple hq
    obtain ⟨⟨old, he⟩, hi⟩ := st
    have hl := rv.length
    have hT : s.TypeIs (.ref e) "enumerate" := ⟨_, he, rfl⟩
    unfold pyNext
    refine wpAny_bind (wpAny_attempt (wpAny_callSpecial?_slot (name := Str.ofString "__next__") hT F.slot_enumerate_next (wpAny_call_entry F.slot_enumerate_next hT F.entry_enumerate_next ?_ (F.args_enumerate_next_1 _))))
    show wpAny _ _ (field (.ref e) 2 >>= _) _ _ _
    refine wpAny_bind (wpAny_field he rfl (x := .ref it) rfl ?_)
    refine wpAny_bind (wpAny_nextOf_tuple_end (I.ok.hd hc) hi p (by simp; omega) fun h' x he' hx' => ?_)
    obtain ⟨o, ho, hcc⟩ := hx'
    refine wpAny_bind (wpAny_isInstance (T := "StopIteration") (b := true) ⟨o, ho, hcc⟩ isSubtype_stop (wpAny_pure ⟨rfl, ?_⟩))
    exact I.turnedL (t' := s.toks) (ch := [e, it]) (fun b o hb q => he' b o (fun z => hb (by simp [z])) q) hf
  self := fun A i s Q E ⟨⟨_, he⟩, _⟩ h => wpAny_pyIter_enum he h
def iEnumA (K : PySem.W.Frag) (ta : TA) : TI := fun σ H R => ta σ H fun vs H1 => ∃ a xs, vs = [.ref a] ∧ ((SqL K H1 a xs ∧ R (Ite K a) H1) ∨ (SqT K H1 a xs ∧ R (IteT K a) H1))
theorem pi_enumT {X : Cx} {e : Expr} {ta : TA} {p pos tpos : Pos} {elts : List Expr} {kk : Nat} (hg : Gl X "enumerate") (hm : X.mg "enumerate" = none) (ha : PA X [e] ta) (hs : starEach [e] X.env = [(false, eval e X.env)]) :
    PI X (.Tuple elts kk tpos) (.Call (.Name "enumerate" p) [e] [] pos) (fun σ H R => ta σ H fun vs H1 => ∃ a xs, vs = [.ref a] ∧ SqT X.K H1 a xs ∧ R (IteT X.K a) H1) :=
  ⟨fun pins s σ H R I h => Call_ (ld_blt I hg hm boot_enumerate (PyProof.Rows.callWith_type1 (thn (ha.run pos pins s σ H _ I h) fun us s1 ⟨vs, H1, I1, r1, q1⟩ => by
    obtain ⟨a, xs, ex, hq, q⟩ := q1
    subst ex
    obtain ⟨u, eu, ru⟩ := vals1 r1
    subst eu
    cases ru
    obtain ⟨its, rv, pt, _⟩ := I1.tuple hq
    have la : a < s1.heap.objs.size := by obtain ⟨o, ho, _⟩ := pt; exact Heap.lt_size ho
    have n1 : (s1.heap.objs.size + 1 : Addr) ≠ s1.heap.objs.size := Nat.succ_ne_self _
    have n2 : (s1.heap.objs.size + 1 : Addr) ≠ a := Nat.ne_of_gt (Nat.lt_succ_of_lt la)
    refine enum1_call (begins_tuple a its.toArray) pt fun h' he hit hk => wpAny_pyIter_enum he ?_
    refine ⟨s1.heap.objs.size + 1, _, _, _, H1, rfl, I1.kept (t' := s1.toks) hk, turn_enumT a (s1.heap.objs.size + 1) s1.heap.objs.size n1 n2 (Nat.ne_of_lt la), ⟨⟨.none, he⟩, ⟨_, hit, rfl, rfl⟩⟩, fun b hb => ?_, q⟩
    have hle : s1.heap.objs.size ≤ b := by
      rcases List.mem_cons.mp hb with z | z
      · rw [z]; exact Nat.le_add_right _ _
      · rw [List.mem_singleton.mp z]; exact Nat.le_refl _
    exact I1.fpOk hle (I1.hok.fresh hle)) hs rfl))⟩
theorem walk_enumT {K : PySem.W.Frag} {a : Addr} {xs : List V} : Walk (IteT K a) xs.length (fun H => SqT K H a xs) (YPair (fun i => some (.int (i : Nat))) (fun i => xs[i]?)) :=
  ⟨fun i _ hi q => ⟨xs, xs[i], q, List.getElem?_eq_getElem hi⟩, fun _ q => ⟨xs, q, Nat.le_refl _⟩, fun i H v H' _ q ⟨T, x, k1, k2, k3, k4⟩ => ⟨T, .int (i : Nat), x, k1, k2, k3, rfl, k4 xs q⟩⟩
end Ev

set_option Elab.async false
set_option linter.all false
set_option maxHeartbeats 4000000
set_option autoImplicit false
namespace Ev
open PySem PySem.Spec PyProof.Rows L2

inductive PV where
  | non | bl (b : Bool) | int (i : Int) | str (x : Str)
  | tup (l : List PV)
  | wtp (l : List PV)
  | lst (w : Bool) (l : List PV)
  | rng (lo hi : Int)
  | scr (l : List Int)
  | ins (w : Bool) (c : Nat) (fs : List Str) (l : List PV)

structure RC where
  K : PySem.W.Frag
  cl : Nat → Addr
abbrev Mt := Addr → Prop
/-- a list that nobody changes -/
def FrzL (R : RC) (H : Hp) (M : Mt) (a : Addr) (xs : List V) : Prop := H a = some (.lst xs) ∧ ¬ M a

/-- the script's list -/
def ScrL (R : RC) (H : Hp) (M : Mt) (a : Addr) (xs : List V) : Prop := (Rd H a (.lst xs) ∧ ¬ M a) ∨ SqL R.K (fun _ => none) a xs

def SqD (K : PySem.W.Frag) (H : Hp) (a : Addr) (xs : List V) : Prop := SqT K H a xs ∧ TupD K H a
mutual
def Rep (R : RC) (H : Hp) (M : Mt) : PV → V → List Addr → Prop
  | .non, v, f => v = .non ∧ f = []
  | .bl b, v, f => v = .bl b ∧ f = []
  | .int i, v, f => v = .int i ∧ f = []
  | .str x, v, f => v = .str x ∧ f = []
  | .tup l, v, f => (∃ a xs, v = .ref a ∧ SqD R.K H a xs ∧ Reps R H M l xs []) ∧ f = []
  | .wtp l, v, f => (∃ a xs, v = .ref a ∧ SqT R.K H a xs ∧ Reps R H M l xs []) ∧ f = []
  | .lst false l, v, f => (∃ a xs, v = .ref a ∧ FrzL R H M a xs ∧ Reps R H M l xs []) ∧ f = []
  | .lst true l, v, f => ∃ a xs g, v = .ref a ∧ H a = some (.lst xs) ∧ M a ∧ Reps R H M l xs g ∧ f = a :: g
  | .rng lo hi, v, f => (∃ a, v = .ref a ∧ H a = some (.rng lo hi)) ∧ f = []
  | .scr l, v, f => (∃ a, v = .ref a ∧ ScrL R H M a (l.map V.int)) ∧ f = []
  | .ins false c ns l, v, f => (∃ a dx xs, v = .ref a ∧ H a = some (.ins (R.cl c) dx (ns.zip xs)) ∧ ¬ M a ∧ ns.length = l.length ∧ Reps R H M l xs []) ∧ f = []
  | .ins true c ns l, v, f => ∃ a dx xs g, v = .ref a ∧ H a = some (.ins (R.cl c) dx (ns.zip xs)) ∧ M a ∧ ns.length = l.length ∧ Reps R H M l xs g ∧ f = a :: g
def Reps (R : RC) (H : Hp) (M : Mt) : List PV → List V → List Addr → Prop
  | [], xs, f => xs = [] ∧ f = []
  | p :: l, xs, f => ∃ x r f1 f2, xs = x :: r ∧ Rep R H M p x f1 ∧ Reps R H M l r f2 ∧ f = f1 ++ f2
end
mutual
/-- no owned node -/
def PV.pure : PV → Bool
  | .non => true | .bl _ => true | .int _ => true | .str _ => true | .rng _ _ => true | .scr _ => true
  | .tup l => pures l
  | .wtp l => pures l
  | .lst w l => !w && pures l
  | .ins w _ _ l => !w && pures l
def pures : List PV → Bool
  | [] => true
  | p :: l => p.pure && pures l
end
mutual
def PV.frz : PV → PV
  | .tup l => .tup (frzs l)
  | .wtp l => .wtp (frzs l)
  | .lst _ l => .lst false (frzs l)
  | .ins _ c ns l => .ins false c ns (frzs l)
  | .non => .non | .bl b => .bl b | .int i => .int i | .str x => .str x | .rng a b => .rng a b | .scr l => .scr l
def frzs : List PV → List PV
  | [] => []
  | p :: l => p.frz :: frzs l
end

section
variable {R : RC} {H H' : Hp} {M M' : Mt}

theorem reps_nil {xs : List V} {f : List Addr} (h : Reps R H M [] xs f) : xs = [] ∧ f = [] := by unfold Reps at h; exact h
theorem reps_cons {p : PV} {l : List PV} {xs : List V} {f : List Addr} (h : Reps R H M (p :: l) xs f) :
    ∃ x r f1 f2, xs = x :: r ∧ Rep R H M p x f1 ∧ Reps R H M l r f2 ∧ f = f1 ++ f2 := by unfold Reps at h; exact h
theorem Reps.nil : Reps R H M [] [] [] := by unfold Reps; exact ⟨rfl, rfl⟩
theorem Reps.cons {p : PV} {x : V} {l : List PV} {xs : List V} {f g : List Addr} (h : Rep R H M p x f) (t : Reps R H M l xs g) : Reps R H M (p :: l) (x :: xs) (f ++ g) := by
  unfold Reps; exact ⟨x, xs, f, g, rfl, h, t, rfl⟩

mutual
theorem rep_mem : ∀ {p : PV} {v : V} {f : List Addr}, Rep R H M p v f → ∀ a ∈ f, M a ∧ Mut (H a)
  | .non, v, f, h, a, ha => by unfold Rep at h; rw [h.2] at ha; cases ha
  | .bl _, v, f, h, a, ha => by unfold Rep at h; rw [h.2] at ha; cases ha
  | .int _, v, f, h, a, ha => by unfold Rep at h; rw [h.2] at ha; cases ha
  | .str _, v, f, h, a, ha => by unfold Rep at h; rw [h.2] at ha; cases ha
  | .rng _ _, v, f, h, a, ha => by unfold Rep at h; rw [h.2] at ha; cases ha
  | .scr _, v, f, h, a, ha => by unfold Rep at h; rw [h.2] at ha; cases ha
  | .tup _, v, f, h, a, ha => by unfold Rep at h; rw [h.2] at ha; cases ha
  | .wtp _, v, f, h, a, ha => by unfold Rep at h; rw [h.2] at ha; cases ha
  | .lst false _, v, f, h, a, ha => by unfold Rep at h; rw [h.2] at ha; cases ha
  | .ins false _ _ _, v, f, h, a, ha => by unfold Rep at h; rw [h.2] at ha; cases ha
  | .lst true l, v, f, h, a, ha => by
    unfold Rep at h
    obtain ⟨b, xs, g, e1, e2, e3, e5, e6⟩ := h
    rw [e6] at ha
    rcases List.mem_cons.mp ha with e | ha
    · rw [e]; exact ⟨e3, by rw [e2]; trivial⟩
    · exact reps_mem e5 a ha
  | .ins true _ _ l, v, f, h, a, ha => by
    unfold Rep at h
    obtain ⟨b, dx, xs, g, e1, e2, e3, e0, e5, e6⟩ := h
    rw [e6] at ha
    rcases List.mem_cons.mp ha with e | ha
    · rw [e]; exact ⟨e3, by rw [e2]; trivial⟩
    · exact reps_mem e5 a ha
theorem reps_mem : ∀ {l : List PV} {xs : List V} {f : List Addr}, Reps R H M l xs f → ∀ a ∈ f, M a ∧ Mut (H a)
  | [], xs, f, h, a, ha => by rw [(reps_nil h).2] at ha; cases ha
  | p :: l, xs, f, h, a, ha => by
    obtain ⟨x, r, f1, f2, e1, h1, h2, e2⟩ := reps_cons h
    rw [e2] at ha
    rcases List.mem_append.mp ha with ha | ha
    · exact rep_mem h1 a ha
    · exact reps_mem h2 a ha
end

mutual
theorem rep_pure : ∀ {p : PV} {v : V} {f : List Addr}, p.pure = true → Rep R H M p v f → f = []
  | .non, v, f, _, h => by unfold Rep at h; exact h.2
  | .bl _, v, f, _, h => by unfold Rep at h; exact h.2
  | .int _, v, f, _, h => by unfold Rep at h; exact h.2
  | .str _, v, f, _, h => by unfold Rep at h; exact h.2
  | .rng _ _, v, f, _, h => by unfold Rep at h; exact h.2
  | .scr _, v, f, _, h => by unfold Rep at h; exact h.2
  | .tup _, v, f, _, h => by unfold Rep at h; exact h.2
  | .wtp _, v, f, _, h => by unfold Rep at h; exact h.2
  | .lst false _, v, f, _, h => by unfold Rep at h; exact h.2
  | .ins false _ _ _, v, f, _, h => by unfold Rep at h; exact h.2
  | .lst true l, v, f, p, _ => by simp [PV.pure] at p
  | .ins true _ _ l, v, f, p, _ => by simp [PV.pure] at p
theorem reps_pure : ∀ {l : List PV} {xs : List V} {f : List Addr}, pures l = true → Reps R H M l xs f → f = []
  | [], xs, f, _, h => (reps_nil h).2
  | p :: l, xs, f, q, h => by
    obtain ⟨x, r, f1, f2, e1, h1, h2, e2⟩ := reps_cons h
    simp only [pures, Bool.and_eq_true] at q
    rw [e2, rep_pure q.1 h1, reps_pure q.2 h2]; rfl
end

theorem ScrL.sq {a : Addr} {xs : List V} (h : ScrL R H M a xs) : SqL R.K H a xs := by
  rcases h with h | (h | ⟨o, h⟩) | h
  · exact .inl h.1
  · cases h
  · cases h
  · exact .inr h
theorem ScrL.weak {a : Addr} {xs : List V} (h : ScrL R H M a xs) (m : ∀ b, M' b → M b) : ScrL R H M' a xs := by
  rcases h with h | h
  · exact .inl ⟨h.1, fun z => h.2 (m a z)⟩
  · exact .inr h
theorem FrzL.sq {a : Addr} {xs : List V} (h : FrzL R H M a xs) : SqL R.K H a xs := SqL.of h.1
theorem FrzL.weak {a : Addr} {xs : List V} (h : FrzL R H M a xs) (m : ∀ b, M' b → M b) : FrzL R H M' a xs := ⟨h.1, fun z => h.2 (m a z)⟩
theorem FrzL.ref {a : Addr} {xs : List V} {f : List Addr} (e : H a = some (.lst xs)) (m : ∀ b, M' b → M b ∧ b ∉ f) (h : a ∈ f) : FrzL R H M' a xs := ⟨e, fun z => (m a z).2 h⟩

mutual
theorem rep_frz : ∀ {p : PV} {v : V} {f : List Addr}, Rep R H M p v f → (∀ b, M' b → M b ∧ b ∉ f) → Rep R H M' p.frz v []
  | .non, v, f, h, m => by unfold Rep at h; unfold PV.frz Rep; exact ⟨h.1, rfl⟩
  | .bl _, v, f, h, m => by unfold Rep at h; unfold PV.frz Rep; exact ⟨h.1, rfl⟩
  | .int _, v, f, h, m => by unfold Rep at h; unfold PV.frz Rep; exact ⟨h.1, rfl⟩
  | .str _, v, f, h, m => by unfold Rep at h; unfold PV.frz Rep; exact ⟨h.1, rfl⟩
  | .rng _ _, v, f, h, m => by unfold Rep at h; unfold PV.frz Rep; exact ⟨h.1, rfl⟩
  | .scr _, v, f, h, m => by
    unfold Rep at h; unfold PV.frz Rep
    obtain ⟨⟨a, e, h⟩, _⟩ := h
    exact ⟨⟨a, e, h.weak fun b q => (m b q).1⟩, rfl⟩
  | .tup l, v, f, h, m => by
    unfold Rep at h; unfold PV.frz Rep
    obtain ⟨⟨a, xs, e1, e2, e3⟩, e4⟩ := h
    exact ⟨⟨a, xs, e1, e2, reps_frz e3 fun b q => ⟨(m b q).1, by simp⟩⟩, rfl⟩
  | .wtp l, v, f, h, m => by
    unfold Rep at h; unfold PV.frz Rep
    obtain ⟨⟨a, xs, e1, e2, e3⟩, e4⟩ := h
    exact ⟨⟨a, xs, e1, e2, reps_frz e3 fun b q => ⟨(m b q).1, by simp⟩⟩, rfl⟩
  | .lst false l, v, f, h, m => by
    unfold Rep at h; unfold PV.frz Rep
    obtain ⟨⟨a, xs, e1, e2, e3⟩, e4⟩ := h
    exact ⟨⟨a, xs, e1, e2.weak fun b q => (m b q).1, reps_frz e3 fun b q => ⟨(m b q).1, by simp⟩⟩, rfl⟩
  | .ins false c ns l, v, f, h, m => by
    unfold Rep at h; unfold PV.frz Rep
    obtain ⟨⟨a, dx, xs, e1, e2, e0, e5, e3⟩, e4⟩ := h
    refine ⟨⟨a, dx, xs, e1, e2, fun z => e0 (m a z).1, ?_, reps_frz e3 fun b q => ⟨(m b q).1, by simp⟩⟩, rfl⟩
    rw [e5]; clear e1 e2 e0 e5 e3 e4; induction l with
    | nil => rfl
    | cons p l ih => simp [frzs, ← ih]
  | .lst true l, v, f, h, m => by
    unfold Rep at h; unfold PV.frz Rep
    obtain ⟨a, xs, g, e1, e2, e3, e5, e6⟩ := h
    exact ⟨⟨a, xs, e1, FrzL.ref e2 m (by rw [e6]; simp), reps_frz e5 fun b q => ⟨(m b q).1, fun z => (m b q).2 (by rw [e6]; simp [z])⟩⟩, rfl⟩
  | .ins true c ns l, v, f, h, m => by
    unfold Rep at h; unfold PV.frz Rep
    obtain ⟨a, dx, xs, g, e1, e2, e3, e0, e5, e6⟩ := h
    refine ⟨⟨a, dx, xs, e1, e2, fun z => (m a z).2 (by rw [e6]; simp), ?_, reps_frz e5 fun b q => ⟨(m b q).1, fun z => (m b q).2 (by rw [e6]; simp [z])⟩⟩, rfl⟩
    rw [e0]; clear e1 e2 e0 e5 e3 e6; induction l with
    | nil => rfl
    | cons p l ih => simp [frzs, ← ih]
theorem reps_frz : ∀ {l : List PV} {xs : List V} {f : List Addr}, Reps R H M l xs f → (∀ b, M' b → M b ∧ b ∉ f) → Reps R H M' (frzs l) xs []
  | [], xs, f, h, m => by rw [(reps_nil h).1]; unfold frzs; exact .nil
  | p :: l, xs, f, h, m => by
    obtain ⟨x, r, f1, f2, e1, h1, h2, e2⟩ := reps_cons h
    rw [e1]; unfold frzs
    exact .cons (f := []) (g := []) (rep_frz h1 fun b q => ⟨(m b q).1, fun z => (m b q).2 (by rw [e2]; simp [z])⟩) (reps_frz h2 fun b q => ⟨(m b q).1, fun z => (m b q).2 (by rw [e2]; simp [z])⟩)
end

/-- how the heap moves; G: what may be written -/
structure Mv (H : Hp) (M : Mt) (G : Addr → Prop) (H' : Hp) (M' : Mt) : Prop where
  keep : ∀ a o, H a = some o → ¬ G a → H' a = some o
  mm : ∀ a, M a → ¬ G a → M' a
  mn : ∀ a, M' a → M a ∨ H a = none
  th : ∀ a, H a ≠ none → H' a ≠ none
end
section
variable {R : RC} {H H' : Hp} {M M' : Mt}
theorem Mv.refl {G : Addr → Prop} : Mv H M G H M := ⟨fun _ _ h _ => h, fun _ h _ => h, fun _ h => .inl h, fun _ h => h⟩
theorem Mv.trans {G G1 : Addr → Prop} {H1 H2 : Hp} {M1 M2 : Mt} (a : Mv H M G H1 M1) (b : Mv H1 M1 G1 H2 M2) (g : ∀ x, G1 x → G x ∨ H x = none) (tr : ∀ x, M x → H x ≠ none) : Mv H M G H2 M2 where
  keep := fun x o h n => b.keep x o (a.keep x o h n) fun q => (g x q).elim n fun z => by rw [h] at z; cases z
  mm := fun x h n => b.mm x (a.mm x h n) fun q => (g x q).elim n fun z => tr x h z
  mn := fun x h => (b.mn x h).elim (a.mn x) fun z => by
    by_cases q : H x = none
    · exact .inr q
    · exact absurd z (a.th x q)
  th := fun x h => b.th x (a.th x h)
theorem Mv.mono {G G1 : Addr → Prop} (a : Mv H M G H' M') (g : ∀ x, G x → G1 x) : Mv H M G1 H' M' :=
  ⟨fun x o h n => a.keep x o h fun q => n (g x q), fun x h n => a.mm x h fun q => n (g x q), a.mn, a.th⟩
abbrev NoG : Addr → Prop := fun _ => False

theorem sqT_stay {G : Addr → Prop} {a : Addr} {xs : List V} (h : SqT R.K H a xs) (m : Mv H M G H' M') (gm : ∀ b, G b → Mut (H b)) : SqT R.K H' a xs := by
  rcases h with (h | ⟨o, h⟩) | h
  · exact .inl (.inl (m.keep a _ h fun q => by have := gm a q; rw [h] at this; exact this))
  · exact .inl (.inr ⟨o, m.keep a _ h fun q => by have := gm a q; rw [h] at this; exact this⟩)
  · exact .inr h
theorem sqD_stay {G : Addr → Prop} {a : Addr} {xs : List V} (h : SqD R.K H a xs) (m : Mv H M G H' M') (gm : ∀ b, G b → Mut (H b)) : SqD R.K H' a xs :=
  ⟨sqT_stay h.1 m gm, h.2.elim (fun ⟨o, u, e, t⟩ => .inl ⟨o, u, m.keep a _ e fun q => by have := gm a q; rw [e] at this; exact this, t⟩) .inr⟩
theorem frzL_stay {G : Addr → Prop} {a : Addr} {xs : List V} (h : FrzL R H M a xs) (m : Mv H M G H' M') (gM : ∀ b, G b → M b) : FrzL R H' M' a xs := by
  obtain ⟨h, n⟩ := h
  refine ⟨m.keep a _ h fun z => n (gM a z), fun z => ?_⟩
  rcases m.mn a z with y | y
  · exact n y
  · rw [h] at y; cases y

theorem scrL_stay {G : Addr → Prop} {a : Addr} {xs : List V} (h : ScrL R H M a xs) (m : Mv H M G H' M') (gM : ∀ b, G b → M b) : ScrL R H' M' a xs := by
  rcases h with ⟨h, n⟩ | h
  · refine .inl ⟨?_, fun z => ?_⟩
    · rcases h with h | ⟨o, h⟩
      · exact .inl (m.keep a _ h fun z => n (gM a z))
      · exact .inr ⟨o, m.keep a _ h fun z => n (gM a z)⟩
    · rcases m.mn a z with y | y
      · exact n y
      · rcases h with h | ⟨o, h⟩
        · rw [h] at y; cases y
        · rw [h] at y; cases y
  · exact .inr h

mutual
theorem rep_stay {G : Addr → Prop} (m : Mv H M G H' M') (gM : ∀ b, G b → M b) (gm : ∀ b, G b → Mut (H b)) : ∀ {p : PV} {v : V} {f : List Addr}, Rep R H M p v f → (∀ a ∈ f, ¬ G a) → Rep R H' M' p v f
  | .non, v, f, h, n => by unfold Rep at h ⊢; exact h
  | .bl _, v, f, h, n => by unfold Rep at h ⊢; exact h
  | .int _, v, f, h, n => by unfold Rep at h ⊢; exact h
  | .str _, v, f, h, n => by unfold Rep at h ⊢; exact h
  | .rng _ _, v, f, h, n => by
    unfold Rep at h ⊢
    obtain ⟨⟨a, e, h⟩, e2⟩ := h
    exact ⟨⟨a, e, m.keep a _ h fun q => by have := gm a q; rw [h] at this; exact this⟩, e2⟩
  | .scr l, v, f, h, n => by
    unfold Rep at h ⊢
    obtain ⟨⟨a, e, h⟩, e2⟩ := h
    exact ⟨⟨a, e, scrL_stay h m gM⟩, e2⟩
  | .tup l, v, f, h, n => by
    unfold Rep at h ⊢
    obtain ⟨⟨a, xs, e1, e2, e3⟩, e4⟩ := h
    exact ⟨⟨a, xs, e1, sqD_stay e2 m gm, reps_stay m gM gm e3 (by simp)⟩, e4⟩
  | .wtp l, v, f, h, n => by
    unfold Rep at h ⊢
    obtain ⟨⟨a, xs, e1, e2, e3⟩, e4⟩ := h
    exact ⟨⟨a, xs, e1, sqT_stay e2 m gm, reps_stay m gM gm e3 (by simp)⟩, e4⟩
  | .lst false l, v, f, h, n => by
    unfold Rep at h ⊢
    obtain ⟨⟨a, xs, e1, e2, e3⟩, e4⟩ := h
    exact ⟨⟨a, xs, e1, frzL_stay e2 m gM, reps_stay m gM gm e3 (by simp)⟩, e4⟩
  | .ins false c ns l, v, f, h, n => by
    unfold Rep at h ⊢
    obtain ⟨⟨a, dx, xs, e1, e2, e0, e5, e3⟩, e4⟩ := h
    refine ⟨⟨a, dx, xs, e1, m.keep a _ e2 fun q => e0 (gM a q), fun z => ?_, e5, reps_stay m gM gm e3 (by simp)⟩, e4⟩
    rcases m.mn a z with y | y
    · exact e0 y
    · rw [e2] at y; cases y
  | .lst true l, v, f, h, n => by
    unfold Rep at h ⊢
    obtain ⟨a, xs, g, e1, e2, e3, e5, e6⟩ := h
    have na : ¬ G a := n a (by rw [e6]; simp)
    exact ⟨a, xs, g, e1, m.keep a _ e2 na, m.mm a e3 na, reps_stay m gM gm e5 fun b hb => n b (by rw [e6]; simp [hb]), e6⟩
  | .ins true c ns l, v, f, h, n => by
    unfold Rep at h ⊢
    obtain ⟨a, dx, xs, g, e1, e2, e3, e0, e5, e6⟩ := h
    have na : ¬ G a := n a (by rw [e6]; simp)
    exact ⟨a, dx, xs, g, e1, m.keep a _ e2 na, m.mm a e3 na, e0, reps_stay m gM gm e5 fun b hb => n b (by rw [e6]; simp [hb]), e6⟩
theorem reps_stay {G : Addr → Prop} (m : Mv H M G H' M') (gM : ∀ b, G b → M b) (gm : ∀ b, G b → Mut (H b)) : ∀ {l : List PV} {xs : List V} {f : List Addr}, Reps R H M l xs f → (∀ a ∈ f, ¬ G a) → Reps R H' M' l xs f
  | [], xs, f, h, n => by rw [(reps_nil h).1, (reps_nil h).2]; exact .nil
  | p :: l, xs, f, h, n => by
    obtain ⟨x, r, f1, f2, e1, h1, h2, e2⟩ := reps_cons h
    rw [e1, e2]
    exact .cons (rep_stay m gM gm h1 fun a ha => n a (by rw [e2]; simp [ha])) (reps_stay m gM gm h2 fun a ha => n a (by rw [e2]; simp [ha]))
end

/-! ### the slots -/
abbrev Fp := Nat → List Addr
abbrev Env := List (Option PV)
structure EnvOk (R : RC) (H : Hp) (M : Mt) (σ : L2.St) (ρ : Env) (F : Fp) : Prop where
  len : ρ.length = σ.length
  at' : ∀ i p, ρ[i]? = some (some p) → ∃ v, σ[i]? = some (some v) ∧ Rep R H M p v (F i)
  no : ∀ i, (∀ p, ρ[i]? ≠ some (some p)) → F i = []
  dj : ∀ i j a, a ∈ F i → a ∈ F j → i = j
  nd : ∀ i, (F i).Nodup
  tr : ∀ a, M a → H a ≠ none
abbrev Fp.any (F : Fp) : Addr → Prop := fun a => ∃ i, a ∈ F i
theorem EnvOk.mem {σ : L2.St} {ρ : Env} {F : Fp} (e : EnvOk R H M σ ρ F) : ∀ a, F.any a → M a ∧ Mut (H a) := fun a ⟨i, ha⟩ => by
  by_cases h : ∃ p, ρ[i]? = some (some p)
  · obtain ⟨p, h⟩ := h
    obtain ⟨v, _, r⟩ := e.at' i p h
    exact rep_mem r a ha
  · rw [e.no i fun p q => h ⟨p, q⟩] at ha; cases ha

/-- an expression has given p at v -/
structure Post (R : RC) (H : Hp) (M : Mt) (F : Fp) (σ : L2.St) (q vw : Bool) (ρ ρ' : Env) (p : PV) (v : V) (H' : Hp) (M' : Mt) (F' : Fp) (f : List Addr) : Prop where
  env : EnvOk R H' M' σ ρ' F'
  rep : Rep R H' M' p v f
  own : vw = false → f.Nodup ∧ ∀ a ∈ f, ¬ F'.any a
  mv : Mv H M F.any H' M'
  fnew : ∀ a, F'.any a → F.any a ∨ H a = none
  ffr : ∀ a ∈ f, F.any a ∨ H a = none
  qt : q = true → ρ' = ρ ∧ F' = F ∧ Mv H M NoG H' M'
/-- each is pure, or no view -/
def ownOk : List Bool → List PV → Bool
  | v :: vs, p :: ps => (!v || p.pure) && ownOk vs ps
  | _, _ => true
structure PostA (R : RC) (H : Hp) (M : Mt) (F : Fp) (σ : L2.St) (q : Bool) (vs : List Bool) (ρ ρ' : Env) (p : List PV) (v : List V) (H' : Hp) (M' : Mt) (F' : Fp) (f : List Addr) : Prop where
  env : EnvOk R H' M' σ ρ' F'
  rep : Reps R H' M' p v f
  len : vs.length = p.length
  own : ownOk vs p = true → f.Nodup ∧ ∀ a ∈ f, ¬ F'.any a
  mv : Mv H M F.any H' M'
  fnew : ∀ a, F'.any a → F.any a ∨ H a = none
  ffr : ∀ a ∈ f, F.any a ∨ H a = none
  qt : q = true → ρ' = ρ ∧ F' = F ∧ Mv H M NoG H' M'

inductive Res (α : Type) where
  | stuck | ok (a : α) (ρ : Env) | exn (c : Nat) (l : List PV) (ρ : Env)
def Res.bind {α β : Type} (x : Res α) (g : α → Env → Res β) : Res β := match x with
  | .ok a ρ => g a ρ
  | .stuck => .stuck
  | .exn c l ρ => .exn c l ρ
abbrev Ev (α : Type) := Env → Res α

/-- an expression's reading, by its function -/
def tE (R : RC) (q vw : Bool) (g : Ev PV) : TE := fun σ H Q => ∃ M ρ F, EnvOk R H M σ ρ F ∧ ∃ p ρ', g ρ = .ok p ρ' ∧ ∀ v H' M' F' f, Post R H M F σ q vw ρ ρ' p v H' M' F' f → Q v H'
def tA (R : RC) (q : Bool) (vs : List Bool) (g : Ev (List PV)) : TA := fun σ H Q => ∃ M ρ F, EnvOk R H M σ ρ F ∧ ∃ p ρ', g ρ = .ok p ρ' ∧ ∀ v H' M' F' f, PostA R H M F σ q vs ρ ρ' p v H' M' F' f → Q v H'
/-- a test's reading -/
structure PostT (R : RC) (H : Hp) (M : Mt) (F : Fp) (σ : L2.St) (q : Bool) (ρ ρ' : Env) (H' : Hp) (M' : Mt) (F' : Fp) : Prop where
  env : EnvOk R H' M' σ ρ' F'
  mv : Mv H M F.any H' M'
  fnew : ∀ a, F'.any a → F.any a ∨ H a = none
  qt : q = true → ρ' = ρ ∧ F' = F ∧ Mv H M NoG H' M'
def tT (R : RC) (q : Bool) (g : Ev PV) : TT := fun σ H Q => ∃ M ρ F, EnvOk R H M σ ρ F ∧ ∃ b ρ', g ρ = .ok (.bl b) ρ' ∧ ∀ H' M' F', PostT R H M F σ q ρ ρ' H' M' F' → Q b H'

end
end Ev

set_option Elab.async false
set_option linter.all false
set_option maxHeartbeats 4000000
set_option autoImplicit false
namespace Ev
open PySem PySem.Spec PyProof.Rows L2
section
variable {R : RC} {H H' H1 : Hp} {M M' M1 : Mt} {X : Cx} {σ : L2.St} {ρ ρ1 : Env} {F F1 : Fp}

theorem imp_e {e : Expr} {t u : TE} (h : PE X e t) (w : ∀ σ H Q, u σ H Q → t σ H Q) : PE X e u := ⟨fun pins s σ H Q I q => h.run pins s σ H Q I (w σ H Q q)⟩
theorem imp_a {e : List Expr} {t u : TA} (h : PA X e t) (w : ∀ σ H Q, u σ H Q → t σ H Q) : PA X e u := ⟨fun pos pins s σ H Q I q => h.run pos pins s σ H Q I (w σ H Q q)⟩
theorem imp_t {e : Expr} {t u : TT} (h : PT X e t) (w : ∀ σ H Q, u σ H Q → t σ H Q) : PT X e u := ⟨fun pins s σ H Q I q => h.run pins s σ H Q I (w σ H Q q)⟩

theorem gM_of {σ : L2.St} {ρ : Env} {F : Fp} (e : EnvOk R H M σ ρ F) : ∀ b, F.any b → M b := fun b h => (e.mem b h).1
theorem gm_of {σ : L2.St} {ρ : Env} {F : Fp} (e : EnvOk R H M σ ρ F) : ∀ b, F.any b → Mut (H b) := fun b h => (e.mem b h).2

/-- nothing has changed -/
theorem Post.same {p : PV} {v : V} {q vw : Bool} (e : EnvOk R H M σ ρ F) (r : Rep R H M p v []) : Post R H M F σ q vw ρ ρ p v H M F [] :=
  ⟨e, r, fun _ => ⟨List.nodup_nil, fun _ h => (nomatch h)⟩, .refl, fun _ h => .inl h, fun _ h => (nomatch h), fun _ => ⟨rfl, rfl, .refl⟩⟩

/-- the frame moves by NoG: the slots stay -/
theorem EnvOk.stay (e : EnvOk R H M σ ρ F) (m : Mv H M NoG H1 M1) (tr : ∀ a, M1 a → H1 a ≠ none) : EnvOk R H1 M1 σ ρ F where
  len := e.len
  at' := fun i p h => let ⟨v, h1, h2⟩ := e.at' i p h; ⟨v, h1, rep_stay m (fun _ z => z.elim) (fun _ z => z.elim) h2 fun _ _ z => z⟩
  no := e.no
  dj := e.dj
  nd := e.nd
  tr := tr

theorem fresh_of {f : List Addr} {p : PV} {v : V} (r : Rep R H M p v f) (tr : ∀ a, M a → H a ≠ none) : ∀ a ∈ f, H a ≠ none := fun a h => tr a (rep_mem r a h).1
theorem freshs_of {f : List Addr} {p : List PV} {v : List V} (r : Reps R H M p v f) (tr : ∀ a, M a → H a ≠ none) : ∀ a ∈ f, H a ≠ none := fun a h => tr a (reps_mem r a h).1
theorem Fp.tracked (e : EnvOk R H M σ ρ F) : ∀ a, F.any a → H a ≠ none := fun a h => e.tr a (e.mem a h).1

/-! ### two in a row -/
def nilEv : Ev (List PV) := fun ρ => .ok [] ρ
def consEv (ok va : Bool) (ga : Ev PV) (gs : Ev (List PV)) : Ev (List PV) := fun ρ => (ga ρ).bind fun p ρ1 => if (ok || !va || p.pure) = true then (gs ρ1).bind fun ps ρ2 => .ok (p :: ps) ρ2 else .stuck

theorem Res.bind_ok {α β : Type} {x : Res α} {g : α → Env → Res β} {b : β} {ρ' : Env} (h : x.bind g = .ok b ρ') : ∃ a ρ1, x = .ok a ρ1 ∧ g a ρ1 = .ok b ρ' := by
  cases x with
  | ok a ρ1 => exact ⟨a, ρ1, rfl, h⟩
  | stuck => cases h
  | exn c l ρ => cases h

theorem ta_nil {Q : List V → Hp → Prop} {q : Bool} (h : tA R q [] nilEv σ H Q) : Q [] H := by
  obtain ⟨M, ρ, F, e, p, ρ', e1, q⟩ := h
  cases e1
  exact q [] H M F [] ⟨e, .nil, rfl, fun _ => ⟨List.nodup_nil, fun _ z => (nomatch z)⟩, .refl, fun _ z => .inl z, fun _ z => (nomatch z), fun _ => ⟨rfl, rfl, .refl⟩⟩

/-- what stays of an earlier value when more is done -/
theorem stays {p : PV} {v : V} {f : List Addr} {q va : Bool} (e1 : EnvOk R H1 M1 σ ρ1 F1) (r : Rep R H1 M1 p v f) (own : va = false → f.Nodup ∧ ∀ a ∈ f, ¬ F1.any a)
    (c : (q || !va || p.pure) = true) (m : Mv H1 M1 F1.any H' M') (mq : q = true → Mv H1 M1 NoG H' M') : Rep R H' M' p v f := by
  cases q with
  | true => exact rep_stay (mq rfl) (fun _ z => z.elim) (fun _ z => z.elim) r fun _ _ z => z
  | false =>
    cases va with
    | false => exact rep_stay m (gM_of e1) (gm_of e1) r fun a ha => (own rfl).2 a ha
    | true =>
      have pp : p.pure = true := by simpa using c
      have ef := rep_pure pp r
      subst ef
      exact rep_stay m (gM_of e1) (gm_of e1) r fun _ z => (nomatch z)

theorem ta_cons_at {p : PV} {pt : List PV} {ρ2 : Env} {ga : Ev PV} {gs : Ev (List PV)} {qa va qs : Bool} {vs : List Bool} {Q : List V → Hp → Prop} (e : EnvOk R H M σ ρ F) (es : gs ρ1 = .ok pt ρ2) (c : (qs || !va || p.pure) = true)
    (h2 : ∀ v H' M' F' f, PostA R H M F σ (qa && qs) (va :: vs) ρ ρ2 (p :: pt) v H' M' F' f → Q v H') {v : V} {H1 : Hp} {M1 : Mt} {F1 : Fp} {f1 : List Addr} (P1 : Post R H M F σ qa va ρ ρ1 p v H1 M1 F1 f1) : tA R qs vs gs σ H1 fun xs H2 => Q (v :: xs) H2 := by
  refine ⟨M1, ρ1, F1, P1.env, pt, ρ2, es, fun vs' H2 M2 F2 f2 P2 => ?_⟩
  have r1 : Rep R H2 M2 p v f1 := stays P1.env P1.rep P1.own c P2.mv fun z => (P2.qt z).2.2
  have tr1 := fresh_of P1.rep P1.env.tr
  refine h2 (v :: vs') H2 M2 F2 (f1 ++ f2) ⟨P2.env, .cons r1 P2.rep, by simp [P2.len], fun ho => ?_, P1.mv.trans P2.mv P1.fnew e.tr, fun a ha => ?_, fun a ha => ?_, fun hq => ?_⟩
  · simp only [ownOk, Bool.and_eq_true] at ho
    obtain ⟨o1, o2⟩ := ho
    have own1 : f1.Nodup ∧ ∀ a ∈ f1, ¬ F1.any a := by
      cases va with
      | false => exact P1.own rfl
      | true =>
        have ef := rep_pure (by simpa using o1) P1.rep
        subst ef
        exact ⟨List.nodup_nil, fun _ z => (nomatch z)⟩
    obtain ⟨n2, d2⟩ := P2.own o2
    refine ⟨List.nodup_append.mpr ⟨own1.1, n2, fun a ha b hb z => ?_⟩, fun a ha => ?_⟩
    · subst z
      rcases P2.ffr a hb with y | y
      · exact own1.2 a ha y
      · exact tr1 a ha y
    · rcases List.mem_append.mp ha with ha | ha
      · intro z
        rcases P2.fnew a z with y | y
        · exact own1.2 a ha y
        · exact tr1 a ha y
      · exact d2 a ha
  · rcases P2.fnew a ha with y | y
    · exact P1.fnew a y
    · by_cases z : H a = none
      · exact .inr z
      · exact absurd y (P1.mv.th a z)
  · rcases List.mem_append.mp ha with ha | ha
    · exact P1.ffr a ha
    · rcases P2.ffr a ha with y | y
      · exact P1.fnew a y
      · by_cases z : H a = none
        · exact .inr z
        · exact absurd y (P1.mv.th a z)
  · simp only [Bool.and_eq_true] at hq
    obtain ⟨a1, a2, a3⟩ := P1.qt hq.1
    obtain ⟨b1, b2, b3⟩ := P2.qt hq.2
    exact ⟨b1.trans a1, b2.trans a2, a3.trans b3 (fun _ z => z.elim) e.tr⟩
theorem ta_cons {ga : Ev PV} {gs : Ev (List PV)} {qa va qs : Bool} {vs : List Bool} {Q : List V → Hp → Prop} (h : tA R (qa && qs) (va :: vs) (consEv qs va ga gs) σ H Q) :
    tE R qa va ga σ H fun x H1 => tA R qs vs gs σ H1 fun xs H2 => Q (x :: xs) H2 := by
  obtain ⟨M, ρ, F, e, ps, ρ', h1, h2⟩ := h
  obtain ⟨p, ρ1, ea, h1⟩ := Res.bind_ok h1
  split at h1
  · rename_i c
    obtain ⟨pt, ρ2, es, h1⟩ := Res.bind_ok h1
    cases h1
    exact ⟨M, ρ, F, e, p, ρ1, ea, fun v H1 M1 F1 f1 P1 => ta_cons_at (ga := ga) e es c h2 P1⟩
  · cases h1
/-! ### operations on values -/
/-- the operation with the reading r gives g -/
def OpOk (R : RC) (r : List V → Hp → VK → Prop) (g : List PV → Option PV) : Prop :=
  ∀ (H : Hp) (M : Mt) (xs : List V) (ps : List PV) (f : List Addr) (res : PV) (Q : VK), (∀ a, M a → H a ≠ none) → Reps R H M ps xs f → g ps = some res →
    (∀ v H' M' f', Mv H M NoG H' M' → (∀ a, M' a → H' a ≠ none) → Rep R H' M' res v f' → f'.Nodup → (∀ a ∈ f', H a = none) → Q v H') → r xs H Q
def opEv (g : List PV → Option PV) (ga : Ev (List PV)) : Ev PV := fun ρ => (ga ρ).bind fun ps ρ1 => match g ps with
  | some p => .ok p ρ1
  | none => .stuck
theorem op_post {r : List V → Hp → VK → Prop} {g : List PV → Option PV} {q : Bool} {vs : List Bool} {Q : VK} {ps : List PV} {ρ' : Env} {p : PV} (o : OpOk R r g) (e : EnvOk R H M σ ρ F) (eg : g ps = some p)
    (h2 : ∀ v H' M' F' f, Post R H M F σ q false ρ ρ' p v H' M' F' f → Q v H') (xs : List V) (H1 : Hp) (M1 : Mt) (F1 : Fp) (f1 : List Addr) (P1 : PostA R H M F σ q vs ρ ρ' ps xs H1 M1 F1 f1) : r xs H1 Q := by
  refine o H1 M1 xs ps f1 p Q P1.env.tr P1.rep eg fun v H2 M2 f2 m tr2 r2 n2 fr2 => ?_
  have e2 := P1.env.stay m tr2
  have m2 : Mv H M F.any H2 M2 := P1.mv.trans m (fun _ z => z.elim) e.tr
  refine h2 v H2 M2 F1 f2 ⟨e2, r2, fun _ => ⟨n2, fun a ha z => ?_⟩, m2, P1.fnew, fun a ha => ?_, fun hq => ?_⟩
  · exact Fp.tracked P1.env a z (fr2 a ha)
  · by_cases z : H a = none
    · exact .inr z
    · exact absurd (fr2 a ha) (P1.mv.th a z)
  · obtain ⟨a1, a2, a3⟩ := P1.qt hq
    exact ⟨a1, a2, a3.trans m (fun _ z => z.elim) e.tr⟩
theorem te_op {r : List V → Hp → VK → Prop} {g : List PV → Option PV} {ga : Ev (List PV)} {q : Bool} {vs : List Bool} {Q : VK} (o : OpOk R r g) (h : tE R q false (opEv g ga) σ H Q) : tA R q vs ga σ H fun xs H1 => r xs H1 Q := by
  obtain ⟨M, ρ, F, e, p, ρ', h1, h2⟩ := h
  obtain ⟨ps, ρ1, ea, h1⟩ := Res.bind_ok h1
  split at h1
  · rename_i res eg
    cases h1
    exact ⟨M, ρ, F, e, ps, ρ', ea, op_post o e eg h2⟩
  · cases h1
/-- the first one with what is known of all -/
theorem te_opC {r : List V → Hp → VK → Prop} {g : List PV → Option PV} {ga : Ev PV} {gs : Ev (List PV)} {qa va qs : Bool} {vs : List Bool} {Q : VK} (o : OpOk R r g) (h : tE R (qa && qs) false (opEv g (consEv qs va ga gs)) σ H Q) :
    ∃ M ρ F, EnvOk R H M σ ρ F ∧ ∃ p ρ1 pt res, ga ρ = .ok p ρ1 ∧ g (p :: pt) = some res ∧ ∀ x H1 M1 F1 f1, Post R H M F σ qa va ρ ρ1 p x H1 M1 F1 f1 → tA R qs vs gs σ H1 fun xs H2 => r (x :: xs) H2 Q := by
  obtain ⟨M, ρ, F, e, res, ρ', h1, h2⟩ := h
  obtain ⟨ps, ρ9, h1, h3⟩ := Res.bind_ok h1
  split at h3
  · rename_i res' eg
    cases h3
    obtain ⟨p, ρ1, ea, h1⟩ := Res.bind_ok h1
    split at h1
    · rename_i c
      obtain ⟨pt, ρ2, es, h1⟩ := Res.bind_ok h1
      cases h1
      exact ⟨M, ρ, F, e, p, ρ1, pt, res, ea, eg, fun x H1 M1 F1 f1 P1 => ta_cons_at (ga := ga) (Q := fun xs H1 => r xs H1 Q) e es c (op_post o e eg h2) P1⟩
    · cases h1
  · cases h3
end
end Ev

set_option Elab.async false
set_option linter.all false
set_option maxHeartbeats 4000000
set_option autoImplicit false
namespace Ev
open PySem PySem.Spec PyProof.Rows L2

/-! ### operations on values -/
def PV.isN : PV → Bool
  | .non => true
  | _ => false
mutual
def PV.dat : PV → Option PyData
  | .non => some .none | .bl b => some (.bool b) | .int i => some (.int i) | .str x => some (.str x)
  | .tup l => (dats l).map .tuple
  | .wtp _ => none
  | .lst _ l => (dats l).map .list
  | .rng _ _ => none | .scr _ => none | .ins _ _ _ _ => none
def dats : List PV → Option (List PyData)
  | [] => some []
  | p :: l => match p.dat, dats l with
    | some d, some ds => some (d :: ds)
    | _, _ => none
end
def asInts : List PV → Option (List Int)
  | [] => some []
  | .int i :: l => (asInts l).map (i :: ·)
  | _ :: _ => none
def asBls : List PV → Option (List Bool)
  | [] => some []
  | .bl i :: l => (asBls l).map (i :: ·)
  | _ :: _ => none
def need {α : Type} (c : Bool) (x : Option α) : Option α := if c = true then x else none
def smallI (i : Int) : Bool := decide (i.natAbs < 2 ^ 64)
def mulOk (i j : Int) : Bool := smallI i || smallI j || decide (i.natAbs.log2 + j.natAbs.log2 < 1000000)
def opMulI (i j : Int) : Option PV := need (mulOk i j) (some (.int (i * j)))
def divI (i j : Int) : Int := if 0 < j then i / j else i.fdiv j
def modI (i j : Int) : Int := if 0 < j then i % j else i.fmod j
def opDivI (i j : Int) : Option PV := need (!decide (j = 0) && decide (j.natAbs.log2 < 9000)) (some (.int (divI i j)))
def opModI (i j : Int) : Option PV := need (!decide (j = 0)) (some (.int (modI i j)))
def powOk (i j : Int) : Bool := decide (0 ≤ j) && decide (j ≤ 1000000) && decide (i.natAbs < 2 ^ 64)
def lenOk (n : Nat) : Bool := decide (n ≤ sizeLine)
def opBin (o : Operator) (l : List PV) : Option PV := match l with
  | [.int i, .int j] => match o with
    | .Add => some (.int (i + j))
    | .Sub => some (.int (i - j))
    | .Mult => opMulI i j
    | .FloorDiv => opDivI i j
    | .Mod => opModI i j
    | .Pow => need (powOk i j) (some (.int (i ^ j.toNat)))
    | .LShift => need (powOk i j) (some (.int (i * 2 ^ j.toNat)))
    | .RShift => need (decide (0 ≤ j)) (some (.int (i / 2 ^ j.toNat)))
    | .BitAnd => some (.int (Builtin.bitAnd i j))
    | .BitOr => some (.int (Builtin.bitOr i j))
    | .BitXor => some (.int (Builtin.bitXor i j))
    | _ => none
  | [.lst _ a, .lst _ b] => match o with
    | .Add => need (pures a && pures b && lenOk (a.length + b.length)) (some (.lst true (a ++ b)))
    | _ => none
  | [.tup a, .tup b] => match o with
    | .Add => need (lenOk (a.length + b.length)) (some (.tup (a ++ b)))
    | _ => none
  | _ => none
def opUn (o : UnaryOp) (l : List PV) : Option PV := match l with
  | [.int i] => match o with
    | .USub => some (.int (-i))
    | _ => none
  | _ => none
def opEq (p q : PV) : Option Bool := match p.dat, q.dat with
  | some d, some e => need (SeqAt.shaped d && SeqAt.shaped e) (some (PyData.eqv d e))
  | _, _ => none
def opCmp (o : CmpOp) (l : List PV) : Option PV := match l with
  | [p, q] => match o with
    | .Eq => (opEq p q).map .bl
    | .NotEq => (opEq p q).map fun b => .bl (!b)
    | .Lt => match p, q with
      | .int i, .int j => some (.bl (decide (i < j)))
      | _, _ => none
    | .LtE => match p, q with
      | .int i, .int j => some (.bl (decide (i ≤ j)))
      | _, _ => none
    | .Gt => match p, q with
      | .int i, .int j => some (.bl (decide (j < i)))
      | _, _ => none
    | .GtE => match p, q with
      | .int i, .int j => some (.bl (decide (j ≤ i)))
      | _, _ => none
    | .Is => match q with
      | .non => some (.bl p.isN)
      | _ => none
    | .IsNot => match q with
      | .non => some (.bl (!p.isN))
      | _ => none
    | .In => match q with
      | .lst _ l => match p.dat, (PV.lst true l).dat with
        | some d, some (.list ds) => need (SeqAt.shaped d && SeqAt.shaped (.list ds)) (some (.bl (ds.any fun z => PyData.eqv z d)))
        | _, _ => none
      | _ => none
    | .NotIn => match q with
      | .lst _ l => match p.dat, (PV.lst true l).dat with
        | some d, some (.list ds) => need (SeqAt.shaped d && SeqAt.shaped (.list ds)) (some (.bl (!ds.any fun z => PyData.eqv z d)))
        | _, _ => none
      | _ => none
  | _ => none
def opSub (l : List PV) : Option PV := match l with
  | [.tup l, .int i] => atI l i
  | [.lst false l, .int i] => atI l i
  | [.lst true l, .int i] => (atI l i).bind fun p => need p.pure (some p)
  | _ => none
def cutP (xs : List PV) (lo hi : Option Int) : List PV := (xs.drop (HT.sIx xs.length 0 lo)).take (HT.sIx xs.length xs.length hi - HT.sIx xs.length 0 lo)
def optI (h : Bool) (p : PV) : Option (Option Int) := match h, p with
  | false, _ => some none
  | true, .int i => some (some i)
  | _, _ => none
/-- a[lo:hi]; a missing end's value is not looked at -/
def opSlc (hl hu : Bool) (l : List PV) : Option PV := match l with
  | [p, lo, hi] => match optI hl lo, optI hu hi with
    | some a, some b => match p with
      | .tup xs => some (.tup (cutP xs a b))
      | .lst _ xs => need (pures xs) (some (.lst true (cutP xs a b)))
      | _ => none
    | _, _ => none
  | _ => none

/-- a list's or a tuple's numbers -/
def numsOf (p : PV) : Option (List Int) := match p with
  | .lst _ l => asInts l
  | .tup l => asInts l
  | _ => none
inductive OB where
  | len | int | abs | max2 | min2 | max | min | sum | list | tuple | any | all | gcd
def obSem (o : OB) (l : List PV) : Option PV := match o with
  | .len => match l with
    | [.lst _ l] => some (.int l.length)
    | [.tup l] => some (.int l.length)
    | _ => none
  | .int => match l with
    | [.int i] => some (.int i)
    | [.bl b] => some (.int (if b then 1 else 0))
    | _ => none
  | .abs => match l with
    | [.int i] => some (.int (if i < 0 then -i else i))
    | _ => none
  | .max2 => match l with
    | [.int i, .int j] => some (.int (if j > i then j else i))
    | _ => none
  | .min2 => match l with
    | [.int i, .int j] => some (.int (if j < i then j else i))
    | _ => none
  | .max => match l with
    | [p] => match numsOf p with
      | some (n :: ns) => some (.int (big true n ns))
      | _ => none
    | _ => none
  | .min => match l with
    | [p] => match numsOf p with
      | some (n :: ns) => some (.int (big false n ns))
      | _ => none
    | _ => none
  | .sum => match l with
    | [.lst _ l] => (asInts l).map fun ns => .int ns.sum
    | _ => none
  | .list => match l with
    | [.lst _ l] => need (pures l) (some (.lst true l))
    | [.tup l] => some (.lst true l)
    | _ => none
  | .tuple => match l with
    | [.lst _ l] => need (pures l) (some (.tup l))
    | [.tup l] => some (.tup l)
    | _ => none
  | .any => match l with
    | [.lst _ l] => (asBls l).map fun ns => .bl (ns.any id)
    | _ => none
  | .all => match l with
    | [.lst _ l] => (asBls l).map fun ns => .bl (ns.all id)
    | _ => none
  | .gcd => match l with
    | [.int i, .int j] => some (.int ((Nat.gcd i.natAbs j.natAbs : Nat) : Int))
    | _ => none

inductive BM where
  | index | count
def bmSem (o : BM) (l : List PV) : Option PV := match l with
  | [p, q] => match p with
    | .tup l => match q, asInts l with
      | .int k, some ns => match o with
        | .index => need (decide (k ∈ ns)) (some (.int (ns.idxOf k : Nat)))
        | .count => some (.int (ns.count k : Nat))
      | _, _ => none
    | .lst _ l => match o with
      | .index => match q.dat, dats l with
        | some d, some ds => need (SeqAt.shaped d && SeqAt.shaped (.list ds)) ((ds.findIdx? fun z => PyData.eqv z d).map fun j => .int (j : Nat))
        | _, _ => none
      | .count => match q, asInts l with
        | .int k, some ns => some (.int (ns.count k : Nat))
        | _, _ => none
    | _ => none
  | _ => none
def bkSem (mx : Bool) (l : List PV) : Option PV := match l with
  | [p, q] => match q, numsOf p with
    | .int d, some ns => some (.int (bigD mx d ns))
    | _, _ => none
  | _ => none

/-! ### the text -/
mutual
inductive T where
  | nm (i : Nat)
  | tp (ts : Ts)
inductive Ts where
  | nil | cons (t : T) (ts : Ts)
end
def Ts.len : Ts → Nat
  | .nil => 0
  | .cons _ ts => ts.len + 1

inductive OMu where
  | append | pop | popAt | reverse | extend
inductive Ty where
  | tuple | list | bool | int | str
  deriving DecidableEq

mutual
inductive E where
  | lit (p : PV)
  | rd (i : Nat) | vw (i : Nat) | fz (i : Nat) | mv (i : Nat)
  | glob (k : Nat)
  | bin (o : Operator) (a b : E)
  | un (o : UnaryOp) (a : E)
  | not (a : E)
  | cmp (o : CmpOp) (a b : E)
  | bop (isAnd : Bool) (es : Es)
  | ite (c a b : E)
  | tup (es : Es) | lst (es : Es)
  | sub (a i : E)
  | slc (a : E) (hl hu : Bool) (lo hi : E)
  | bi (o : OB) (es : Es)
  | isi (ts : List Ty) (br : Bool) (a : E)
  | mu (o : OMu) (i : Nat) (es : Es)
  | frz (a : E)
  | bm (o : BM) (a : E) (es : Es)
  | bk (mx : Bool) (a d : E)
  | call (f : Nat) (as : As)
  | lc (e : E) (t : T) (it : I) (cs : Es) (own : List Nat)
  | lc2 (e : E) (t : T) (it : I) (cs : Es) (t2 : T) (it2 : I) (cs2 : Es) (own own2 : List Nat)
inductive Es where
  | nil | cons (e : E) (es : Es)
inductive As where
  | nil | io (i : Nat) (as : As) | dat (e : E) (as : As)
inductive I where
  | seq (e : E) | range1 (a : E) | range2 (a b : E) | enum (e : E) | zip (a b : E)
end

mutual
/-- it leaves the slots as they are -/
def E.q : E → Bool
  | .lit _ => true | .rd _ => true | .vw _ => true | .fz _ => false | .mv _ => false | .glob _ => true
  | .bin _ a b => a.q && b.q
  | .un _ a => a.q
  | .not a => a.q
  | .cmp _ a b => a.q && b.q
  | .bop _ es => es.q
  | .ite c a b => c.q && (a.q && b.q)
  | .tup es => es.q | .lst es => es.q
  | .sub a i => a.q && i.q
  | .slc a _ _ lo hi => a.q && (lo.q && hi.q)
  | .bi _ es => es.q
  | .isi _ _ a => a.q
  | .mu _ _ _ => false
  | .frz a => a.q
  | .bm _ a es => a.q && es.q
  | .bk _ a d => a.q && d.q
  | .call _ as => as.q
  | .lc e _ it cs _ => it.q && (cs.q && e.q)
  | .lc2 e _ it cs _ it2 cs2 _ _ => it.q && (cs.q && (it2.q && (cs2.q && e.q)))
def Es.q : Es → Bool
  | .nil => true
  | .cons e es => e.q && es.q
def As.q : As → Bool
  | .nil => true
  | .io _ _ => false
  | .dat e as => e.q && as.q
def I.q : I → Bool
  | .seq e => e.q | .range1 a => a.q | .range2 a b => a.q && b.q | .enum e => e.q | .zip a b => a.q && b.q
end
/-- its value may be a slot's -/
def E.v : E → Bool
  | .vw _ => true
  | .ite _ a b => a.v || b.v
  | _ => false
def Es.vs : Es → List Bool
  | .nil => []
  | .cons e es => e.v :: es.vs

inductive CRes where
  | stuck | ok (p : PV) (args : List PV) | exn (c : Nat) (l : List PV) (args : List PV)
abbrev CS := Nat → List PV → CRes

def getE (i : Nat) (ρ : Env) : Option PV := (ρ[i]?).bind id
def unpk (p : PV) : Option (List PV) := match p with
  | .tup l => some l
  | .wtp l => some l
  | .lst _ l => need (pures l) (some l)
  | _ => none
mutual
def asgT : T → PV → Env → Option Env
  | .nm i, p, ρ => if i < ρ.length then some (ρ.set i (some p)) else none
  | .tp ts, p, ρ => match unpk p with
    | some l => asgTs ts l ρ
    | none => none
def asgTs : Ts → List PV → Env → Option Env
  | .nil, l, ρ => match l with
    | [] => some ρ
    | _ :: _ => none
  | .cons t ts, l, ρ => match l with
    | p :: l => match asgT t p ρ with
      | some ρ1 => asgTs ts l ρ1
      | none => none
    | [] => none
end
def wipeE (ρ : Env) (own : List Nat) : Env := match own with
  | [] => ρ
  | v :: vs => (wipeE ρ vs).set v none
/-- the own slots as they were -/
def backE (ρ0 ρ : Env) (own : List Nat) : Env := match own with
  | [] => ρ
  | v :: vs => (backE ρ0 ρ vs).set v ((ρ0[v]?).bind id)
def plainOwn (ρ : Env) (own : List Nat) : Bool := own.all fun i => match getE i ρ with
  | some p => p.pure
  | none => true
def itemsOf (p : PV) : Option (List PV) := match p with
  | .lst _ l => need (pures l) (some l)
  | .tup l => some l
  | .scr ns => some (ns.map .int)
  | _ => none
def rangeP (lo : Int) (n : Nat) : List PV := (List.range n).map fun i => .int (lo + (i : Nat))
def bnd62 (i : Int) : Bool := decide (i.natAbs < 2 ^ 62)
def enumP (k : Nat) : List PV → List PV
  | [] => []
  | p :: l => .wtp [.int k, p] :: enumP (k + 1) l
def zipP : List PV → List PV → List PV
  | p :: l, q :: m => .wtp [p, q] :: zipP l m
  | _, _ => []
def itemsZ (p q : PV) : Option (List PV) := match p, q with
  | .tup l, .tup m => some (zipP l m)
  | .lst _ l, .lst _ m => some (zipP l m)
  | _, _ => none
def resO {α : Type} (x : Option α) (ρ : Env) : Res α := match x with
  | some p => .ok p ρ
  | none => .stuck
def lcLoop (own : List Nat) (asg : PV → Env → Option Env) (cnd : Ev PV) (elt : Ev (List PV)) : List PV → Ev (List PV)
  | [], ρ => .ok [] ρ
  | x :: xs, ρ => match asg x (wipeE ρ own) with
    | none => .stuck
    | some ρ1 => (cnd ρ1).bind fun b ρ2 => match b with
      | .bl true => (elt ρ2).bind fun p ρ3 => (lcLoop own asg cnd elt xs ρ3).bind fun ps ρ4 => .ok (p ++ ps) ρ4
      | .bl false => lcLoop own asg cnd elt xs ρ2
      | _ => .stuck
def eltEv (v : Bool) (g : Ev PV) : Ev (List PV) := fun ρ => (g ρ).bind fun p ρ1 => if (!v || p.pure) = true then .ok [p] ρ1 else .stuck
def fillAs (ps : List PV) (as : As) (ρ : Env) : Option (List PV) := match as, ps with
  | .nil, [] => some []
  | .io i as, _ :: ps => match getE i ρ, fillAs ps as ρ with
    | some p, some l => some (p :: l)
    | _, _ => none
  | .dat _ as, p :: ps => (fillAs ps as ρ).map (p :: ·)
  | _, _ => none
def backAs (ps : List PV) (as : As) (ρ : Env) : Env := match as, ps with
  | .io i as, p :: ps => (backAs ps as ρ).set i (some p)
  | .dat _ as, _ :: ps => backAs ps as ρ
  | _, _ => ρ
def tyIs (p : PV) (t : Ty) : Option Bool := match p with
  | .non => some false
  | .bl _ => some (t = .bool || t = .int)
  | .int _ => some (t = .int)
  | .str _ => some (t = .str)
  | .tup _ => some (t = .tuple)
  | .lst _ _ => some (t = .list)
  | _ => none
def opIsi (ts : List Ty) (l : List PV) : Option PV := match l with
  | [p] => match p with
    | .non => some (.bl false)
    | .bl _ => some (.bl (ts.any fun t => t = .bool || t = .int))
    | .int _ => some (.bl (ts.any fun t => t = .int))
    | .str _ => some (.bl (ts.any fun t => t = .str))
    | .tup _ => some (.bl (ts.any fun t => t = .tuple))
    | .lst _ _ => some (.bl (ts.any fun t => t = .list))
    | _ => none
  | _ => none
/-- a list of one's own that is changed: what comes, what it is then -/
def muSem (o : OMu) (l ps : List PV) : Option (PV × List PV) := match o, ps with
  | .append, [p] => need (decide (l.length < sizeLine)) (some (.non, l ++ [p]))
  | .extend, [.lst _ m] => need (pures m && lenOk (l.length + m.length)) (some (.non, l ++ m))
  | .pop, [] => (l[l.length - 1]?).bind fun p => need p.pure (some (p, l.dropLast))
  | .popAt, [.int i] => match ixN l.length i with
    | some k => (l[k]?).bind fun p => need (p.pure && decide (i.natAbs < 2 ^ 63)) (some (p, l.eraseIdx k))
    | none => none
  | .reverse, [] => some (.non, l.reverse)
  | _, _ => none
def isLst (p : Option PV) : Bool := match p with
  | some (.lst _ _) => true
  | _ => false
def opTup (l : List PV) : Option PV := need (lenOk l.length) (some (.tup (frzs l)))

section
variable (gl : Nat → PV) (cs : CS)
mutual
def ev : E → Ev PV
  | .lit p => fun ρ => .ok p ρ
  | .rd i => fun ρ => match getE i ρ with
    | some p => if p.pure = true then .ok p ρ else .stuck
    | none => .stuck
  | .vw i => fun ρ => match getE i ρ with
    | some p => .ok p ρ
    | none => .stuck
  | .fz i => fun ρ => match getE i ρ with
    | some p => .ok p.frz (ρ.set i (some p.frz))
    | none => .stuck
  | .mv i => fun ρ => match getE i ρ with
    | some p => .ok p (ρ.set i none)
    | none => .stuck
  | .glob k => fun ρ => .ok (gl k) ρ
  | .bin o a b => opEv (opBin o) (consEv (b.q && true) a.v (ev a) (consEv true b.v (ev b) nilEv))
  | .un o a => opEv (opUn o) (consEv true a.v (ev a) nilEv)
  | .not a => fun ρ => (ev a ρ).bind fun p ρ1 => match p with
    | .bl b => .ok (.bl (!b)) ρ1
    | _ => .stuck
  | .cmp o a b => opEv (opCmp o) (consEv (b.q && true) a.v (ev a) (consEv true b.v (ev b) nilEv))
  | .bop isAnd es => evB isAnd es
  | .ite c a b => fun ρ => (ev c ρ).bind fun p ρ1 => match p with
    | .bl true => ev a ρ1
    | .bl false => ev b ρ1
    | _ => .stuck
  | .tup es => fun ρ => (evs es ρ).bind fun ps ρ1 => if (ownOk es.vs ps && lenOk ps.length) = true then .ok (.tup (frzs ps)) ρ1 else .stuck
  | .lst es => fun ρ => (evs es ρ).bind fun ps ρ1 => if (ownOk es.vs ps && lenOk ps.length) = true then .ok (.lst true ps) ρ1 else .stuck
  | .sub a i => opEv opSub (consEv (i.q && true) a.v (ev a) (consEv true i.v (ev i) nilEv))
  | .slc a hl hu lo hi => opEv (opSlc hl hu) (consEv (lo.q && (hi.q && true)) a.v (ev a) (consEv (hi.q && true) lo.v (ev lo) (consEv true hi.v (ev hi) nilEv)))
  | .bi o es => opEv (obSem o) (evs es)
  | .isi ts _ a => opEv (opIsi ts) (consEv true a.v (ev a) nilEv)
  | .mu o i es => fun ρ => if isLst (getE i ρ) = true then (evs es ρ).bind fun ps ρ1 => if ownOk es.vs ps = true then (match getE i ρ1 with
    | some (.lst true l) => match muSem o l ps with
      | some (r, l') => .ok r (ρ1.set i (some (.lst true l')))
      | none => .stuck
    | _ => .stuck) else .stuck else .stuck
  | .frz a => fun ρ => (ev a ρ).bind fun p ρ1 => if (!a.v || p.pure) = true then .ok p.frz ρ1 else .stuck
  | .bm o a es => opEv (bmSem o) (consEv es.q a.v (ev a) (evs es))
  | .bk mx a d => opEv (bkSem mx) (consEv (d.q && true) a.v (ev a) (consEv true d.v (ev d) nilEv))
  | .call f as => fun ρ => (evAs as ρ).bind fun ps ρ1 => match fillAs ps as ρ1 with
    | none => .stuck
    | some l => match cs f l with
      | .ok p l' => .ok p (backAs l' as ρ1)
      | .exn c d l' => .exn c d (backAs l' as ρ1)
      | .stuck => .stuck
  | .lc e t it cs own => fun ρ => (evI it ρ).bind fun xs ρ1 => if (plainOwn ρ1 own && lenOk xs.length) = true then
      (lcLoop own (asgT t) (evC cs) (eltEv e.v (ev e)) xs ρ1).bind fun ps ρ2 => .ok (.lst true ps) (backE ρ1 ρ2 own) else .stuck
  | .lc2 e t it cs t2 it2 cs2 own own2 => fun ρ => (evI it ρ).bind fun xs ρ1 => if plainOwn ρ1 own = true then
      (lcLoop own (asgT t) (evC cs) (fun ρ => (evI it2 ρ).bind fun ys ρ2 => lcLoop own2 (asgT t2) (evC cs2) (eltEv e.v (ev e)) ys ρ2) xs ρ1).bind fun ps ρ2 => if lenOk ps.length = true then .ok (.lst true ps) (backE ρ1 ρ2 own) else .stuck else .stuck
def evs : Es → Ev (List PV)
  | .nil => nilEv
  | .cons e es => consEv es.q e.v (ev e) (evs es)
def evAs : As → Ev (List PV)
  | .nil => nilEv
  | .io i as => fun ρ => if (getE i ρ).isSome = true then (evAs as ρ).bind fun ps ρ1 => .ok (.non :: ps) ρ1 else .stuck
  | .dat e as => fun ρ => (ev e ρ).bind fun p ρ1 => if (!e.v || p.pure) = true then (evAs as ρ1).bind fun ps ρ2 => .ok (p.frz :: ps) ρ2 else .stuck
def evB (isAnd : Bool) : Es → Ev PV
  | .nil => fun _ => .stuck
  | .cons e es => fun ρ => match es with
    | .nil => (ev e ρ).bind fun p ρ1 => match p with
      | .bl b => .ok (.bl b) ρ1
      | _ => .stuck
    | .cons _ _ => (ev e ρ).bind fun p ρ1 => match p with
      | .bl b => if b = isAnd then evB isAnd es ρ1 else .ok (.bl b) ρ1
      | _ => .stuck
/-- a clause's test: none or one -/
def evC : Es → Ev PV
  | .nil => fun ρ => .ok (.bl true) ρ
  | .cons e es => fun ρ => match es with
    | .nil => ev e ρ
    | .cons _ _ => .stuck
def evI : I → Ev (List PV)
  | .seq e => fun ρ => (ev e ρ).bind fun p ρ1 => if (!e.v || p.pure) = true then resO (itemsOf p) ρ1 else .stuck
  | .range1 a => fun ρ => (ev a ρ).bind fun p ρ1 => match p with
    | .int j => if bnd62 j = true then .ok (rangeP 0 j.toNat) ρ1 else .stuck
    | _ => .stuck
  | .range2 a b => fun ρ => (ev a ρ).bind fun p ρ1 => (ev b ρ1).bind fun q ρ2 => match p, q with
    | .int i, .int j => if (bnd62 i && bnd62 j) = true then .ok (rangeP i (j - i).toNat) ρ2 else .stuck
    | _, _ => .stuck
  | .enum e => fun ρ => (ev e ρ).bind fun p ρ1 => if (!e.v || p.pure) = true then match itemsOf p with
      | some l => .ok (enumP 0 l) ρ1
      | none => .stuck
    else .stuck
  | .zip a b => fun ρ => (ev a ρ).bind fun p ρ1 => (ev b ρ1).bind fun q ρ2 => if (p.pure && q.pure) = true then match itemsZ p q with
      | some l => .ok l ρ2
      | none => .stuck
    else .stuck
end
end

mutual
inductive S where
  | set (t : T) (e : E)
  | setAt (i : Nat) (ix e : E)
  | par (i j : Nat) (a b : E)
  | aug (i : Nat) (o : Operator) (e : E)
  | expr (e : E)
  | ite (c : E) (a b : Ss)
  | for (t : T) (it : I) (b : Ss)
  | while (c : E) (b : Ss)
  | ret (e : E) | retN | brk | cont | pass
inductive Ss where
  | nil | cons (s : S) (ss : Ss)
end
inductive SRes where
  | stuck | nx (ρ : Env) | rt (p : PV) (ρ : Env) | bk (ρ : Env) | ct (ρ : Env) | exn (c : Nat) (l : List PV) (ρ : Env)
def SRes.seq (x : SRes) (g : Env → SRes) : SRes := match x with
  | .nx ρ => g ρ
  | .stuck => .stuck | .rt p ρ => .rt p ρ | .bk ρ => .bk ρ | .ct ρ => .ct ρ | .exn c l ρ => .exn c l ρ
def Res.to {α : Type} (x : Res α) (g : α → Env → SRes) : SRes := match x with
  | .ok a ρ => g a ρ
  | .stuck => .stuck
  | .exn c l ρ => .exn c l ρ
/-- behind a loop's turn -/
def SRes.turn (x : SRes) (g : Env → SRes) : SRes := match x with
  | .nx ρ => g ρ | .ct ρ => g ρ | .bk ρ => .nx ρ
  | .stuck => .stuck | .rt p ρ => .rt p ρ | .exn c l ρ => .exn c l ρ
def forLoop (asg : PV → Env → Option Env) (b : Env → SRes) : List PV → Env → SRes
  | [], ρ => .nx ρ
  | x :: xs, ρ => match asg x ρ with
    | none => .stuck
    | some ρ1 => (b ρ1).turn (forLoop asg b xs)
def whileLoop (c : Ev PV) (b : Env → SRes) : Nat → Env → SRes
  | 0, _ => .stuck
  | n + 1, ρ => (c ρ).to fun p ρ1 => match p with
    | .bl true => (b ρ1).turn (whileLoop c b n)
    | .bl false => .nx ρ1
    | _ => .stuck
def augOp (o : Operator) (p q : PV) : Option PV := match p, q with
  | .int i, .int j => match o with
    | .Add => some (.int (i + j))
    | .Sub => some (.int (i - j))
    | _ => none
  | _, _ => none
section
variable (gl : Nat → PV) (cs : CS) (fu : Nat)
mutual
def evS : S → Env → SRes
  | .set t e => fun ρ => (ev gl cs e ρ).to fun p ρ1 => if (!e.v || p.pure) = true then match asgT t p ρ1 with
      | some ρ2 => .nx ρ2
      | none => .stuck
    else .stuck
  | .setAt i ix e => fun ρ => (ev gl cs e ρ).to fun p ρ1 => if ((!e.v || p.pure) && isLst (getE i ρ1)) = true then (ev gl cs ix ρ1).to fun q ρ2 => match q, getE i ρ2 with
      | .int k, some (.lst true l) => match ixN l.length k with
        | some j => .nx (ρ2.set i (some (.lst true (l.set j p.frz))))
        | none => .stuck
      | _, _ => .stuck
    else .stuck
  | .par i j a b => fun ρ => (ev gl cs a ρ).to fun p ρ1 => if p.pure = true then (ev gl cs b ρ1).to fun q ρ2 => if (q.pure && decide (i ≠ j) && decide (i < ρ2.length) && decide (j < ρ2.length)) = true then .nx ((ρ2.set i (some p)).set j (some q)) else .stuck else .stuck
  | .aug i o e => fun ρ => (ev gl cs e ρ).to fun q ρ1 => match getE i ρ with
    | some p => match augOp o p q with
      | some r => .nx (ρ1.set i (some r))
      | none => .stuck
    | none => .stuck
  | .expr e => fun ρ => (ev gl cs e ρ).to fun _ ρ1 => .nx ρ1
  | .ite c a b => fun ρ => (ev gl cs c ρ).to fun p ρ1 => match p with
    | .bl true => evSs a ρ1
    | .bl false => evSs b ρ1
    | _ => .stuck
  | .for t it b => fun ρ => (evI gl cs it ρ).to fun xs ρ1 => forLoop (asgT t) (evSs b) xs ρ1
  | .while c b => fun ρ => whileLoop (ev gl cs c) (evSs b) fu ρ
  | .ret e => fun ρ => (ev gl cs e ρ).to fun p ρ1 => if (!e.v || p.pure) = true then .rt p ρ1 else .stuck
  | .retN => fun ρ => .rt .non ρ
  | .brk => fun ρ => .bk ρ
  | .cont => fun ρ => .ct ρ
  | .pass => fun ρ => .nx ρ
def evSs : Ss → Env → SRes
  | .nil => fun ρ => .nx ρ
  | .cons s ss => fun ρ => match ss with
    | .nil => evS s ρ
    | .cons _ _ => (evS s ρ).seq (evSs ss)
end
end
end Ev

set_option Elab.async false
set_option linter.all false
set_option maxHeartbeats 4000000
set_option autoImplicit false
namespace Ev
open PySem PySem.Spec PyProof.Rows L2
section
variable {R : RC} {H H' H1 : Hp} {M M' M1 : Mt} {X : Cx} {σ : L2.St} {ρ ρ1 : Env} {F F1 : Fp} {v : V} {f : List Addr}

theorem rep_int {i : Int} (h : Rep R H M (.int i) v f) : v = .int i ∧ f = [] := by unfold Rep at h; exact h
theorem rep_bl {i : Bool} (h : Rep R H M (.bl i) v f) : v = .bl i ∧ f = [] := by unfold Rep at h; exact h
theorem rep_str {i : Str} (h : Rep R H M (.str i) v f) : v = .str i ∧ f = [] := by unfold Rep at h; exact h
theorem rep_non (h : Rep R H M .non v f) : v = .non ∧ f = [] := by unfold Rep at h; exact h
theorem Rep.int {i : Int} : Rep R H M (.int i) (.int i) [] := by unfold Rep; exact ⟨rfl, rfl⟩
theorem Rep.bl {i : Bool} : Rep R H M (.bl i) (.bl i) [] := by unfold Rep; exact ⟨rfl, rfl⟩
theorem Rep.str {i : Str} : Rep R H M (.str i) (.str i) [] := by unfold Rep; exact ⟨rfl, rfl⟩
theorem Rep.non : Rep R H M .non .non [] := by unfold Rep; exact ⟨rfl, rfl⟩
theorem rep_tup {l : List PV} (h : Rep R H M (.tup l) v f) : ∃ a xs, v = .ref a ∧ SqT R.K H a xs ∧ Reps R H M l xs [] ∧ f = [] := by
  unfold Rep at h; obtain ⟨⟨a, xs, h1, h2, h3⟩, h4⟩ := h; exact ⟨a, xs, h1, h2.1, h3, h4⟩
theorem rep_tupD {l : List PV} {a : Addr} (h : Rep R H M (.tup l) v f) (e : v = .ref a) : TupD R.K H a := by
  unfold Rep at h; obtain ⟨⟨b, xs, h1, h2, h3⟩, h4⟩ := h; rw [e] at h1; cases h1; exact h2.2
theorem rep_wtp {l : List PV} (h : Rep R H M (.wtp l) v f) : ∃ a xs, v = .ref a ∧ SqT R.K H a xs ∧ Reps R H M l xs [] ∧ f = [] := by
  unfold Rep at h; obtain ⟨⟨a, xs, h1, h2, h3⟩, h4⟩ := h; exact ⟨a, xs, h1, h2, h3, h4⟩
theorem Rep.tup {l : List PV} {a : Addr} {xs : List V} (h : SqT R.K H a xs) (d : TupD R.K H a) (r : Reps R H M l xs []) : Rep R H M (.tup l) (.ref a) [] := by unfold Rep; exact ⟨⟨a, xs, rfl, ⟨h, d⟩, r⟩, rfl⟩
theorem Rep.wtp {l : List PV} {a : Addr} {xs : List V} (h : SqT R.K H a xs) (r : Reps R H M l xs []) : Rep R H M (.wtp l) (.ref a) [] := by unfold Rep; exact ⟨⟨a, xs, rfl, h, r⟩, rfl⟩
/-- a list, owned or not -/
theorem rep_lst {l : List PV} {w : Bool} (h : Rep R H M (.lst w l) v f) : ∃ a xs g, v = .ref a ∧ H a = some (.lst xs) ∧ Reps R H M l xs g ∧ (w = true → M a ∧ f = a :: g) ∧ (w = false → ¬ M a ∧ f = [] ∧ g = []) := by
  cases w with
  | true =>
    unfold Rep at h
    obtain ⟨a, xs, g, h1, h2, h3, h5, h6⟩ := h
    exact ⟨a, xs, g, h1, h2, h5, fun _ => ⟨h3, h6⟩, (fun z => nomatch z)⟩
  | false =>
    unfold Rep at h
    obtain ⟨⟨a, xs, h1, h2, h3⟩, h4⟩ := h
    exact ⟨a, xs, [], h1, h2.1, h3, (fun z => nomatch z), fun _ => ⟨h2.2, h4, rfl⟩⟩
theorem Rep.lstO {l : List PV} {a : Addr} {xs : List V} {g : List Addr} (h : H a = some (.lst xs)) (m : M a) (r : Reps R H M l xs g) : Rep R H M (.lst true l) (.ref a) (a :: g) := by unfold Rep; exact ⟨a, xs, g, rfl, h, m, r, rfl⟩
theorem rep_scr {l : List Int} (h : Rep R H M (.scr l) v f) : ∃ a, v = .ref a ∧ SqL R.K H a (l.map V.int) ∧ f = [] := by
  unfold Rep at h; obtain ⟨⟨a, h1, h2⟩, h3⟩ := h; exact ⟨a, h1, h2.sq, h3⟩

theorem reps_len : ∀ {l : List PV} {xs : List V} {f : List Addr}, Reps R H M l xs f → xs.length = l.length
  | [], xs, f, h => by rw [(reps_nil h).1]; rfl
  | p :: l, xs, f, h => by
    obtain ⟨x, r, f1, f2, e1, h1, h2, e2⟩ := reps_cons h
    rw [e1]; simp [reps_len h2]
theorem reps_ints : ∀ {l : List PV} {ns : List Int} {xs : List V} {f : List Addr}, asInts l = some ns → Reps R H M l xs f → xs = ns.map V.int ∧ f = []
  | [], ns, xs, f, e, h => by
    cases e
    exact reps_nil h
  | p :: l, ns, xs, f, e, h => by
    obtain ⟨x, r, f1, f2, e1, h1, h2, e2⟩ := reps_cons h
    cases p <;> simp only [asInts] at e <;> try cases e
    rename_i i
    cases q : asInts l with
    | none => rw [q] at e; cases e
    | some ms =>
      rw [q] at e; cases e
      obtain ⟨a1, a2⟩ := reps_ints q h2
      obtain ⟨b1, b2⟩ := rep_int h1
      rw [e1, e2, a1, a2, b1, b2]; exact ⟨rfl, rfl⟩
theorem reps_bls : ∀ {l : List PV} {ns : List Bool} {xs : List V} {f : List Addr}, asBls l = some ns → Reps R H M l xs f → xs = ns.map V.bl ∧ f = []
  | [], ns, xs, f, e, h => by
    cases e
    exact reps_nil h
  | p :: l, ns, xs, f, e, h => by
    obtain ⟨x, r, f1, f2, e1, h1, h2, e2⟩ := reps_cons h
    cases p <;> simp only [asBls] at e <;> try cases e
    rename_i i
    cases q : asBls l with
    | none => rw [q] at e; cases e
    | some ms =>
      rw [q] at e; cases e
      obtain ⟨a1, a2⟩ := reps_bls q h2
      obtain ⟨b1, b2⟩ := rep_bl h1
      rw [e1, e2, a1, a2, b1, b2]; exact ⟨rfl, rfl⟩
theorem reps_append : ∀ {l m : List PV} {xs ys : List V} {f g : List Addr}, Reps R H M l xs f → Reps R H M m ys g → Reps R H M (l ++ m) (xs ++ ys) (f ++ g)
  | [], m, xs, ys, f, g, h, k => by rw [(reps_nil h).1, (reps_nil h).2]; exact k
  | p :: l, m, xs, ys, f, g, h, k => by
    obtain ⟨x, r, f1, f2, e1, h1, h2, e2⟩ := reps_cons h
    rw [e1, e2, List.append_assoc]
    exact .cons h1 (reps_append h2 k)
theorem nil_of_append {α : Type} {a b : List α} (h : [] = a ++ b) : a = [] ∧ b = [] := by
  cases a with
  | nil => exact ⟨rfl, h.symm⟩
  | cons x a => cases h
theorem reps_at : ∀ {l : List PV} {xs : List V} {f : List Addr} {i : Nat} {p : PV}, Reps R H M l xs f → l[i]? = some p → ∃ x g, xs[i]? = some x ∧ Rep R H M p x g ∧ g.Sublist f
  | [], xs, f, i, p, h, e => by simp at e
  | q :: l, xs, f, 0, p, h, e => by
    obtain ⟨x, r, f1, f2, e1, h1, h2, e2⟩ := reps_cons h
    simp at e; subst e
    exact ⟨x, f1, by rw [e1]; rfl, h1, by rw [e2]; exact List.sublist_append_left _ _⟩
  | q :: l, xs, f, i + 1, p, h, e => by
    obtain ⟨x, r, f1, f2, e1, h1, h2, e2⟩ := reps_cons h
    obtain ⟨y, g, a1, a2, a3⟩ := reps_at (i := i) (p := p) h2 (by simpa using e)
    exact ⟨y, g, by rw [e1]; simpa using a1, a2, by rw [e2]; exact a3.trans (List.sublist_append_right _ _)⟩
theorem reps_take : ∀ {l : List PV} {xs : List V} (n : Nat), Reps R H M l xs [] → Reps R H M (l.take n) (xs.take n) []
  | _, xs, 0, h => by simp; exact .nil
  | [], xs, n + 1, h => by rw [(reps_nil h).1]; simp; exact .nil
  | p :: l, xs, n + 1, h => by
    obtain ⟨x, r, f1, f2, e1, h1, h2, e2⟩ := reps_cons h
    obtain ⟨z1, z2⟩ := nil_of_append e2
    subst z1; subst z2
    rw [e1]
    exact .cons (f := []) (g := []) h1 (reps_take n h2)
theorem reps_drop : ∀ {l : List PV} {xs : List V} (n : Nat), Reps R H M l xs [] → Reps R H M (l.drop n) (xs.drop n) []
  | _, xs, 0, h => by simpa using h
  | [], xs, n + 1, h => by rw [(reps_nil h).1]; simp; exact .nil
  | p :: l, xs, n + 1, h => by
    obtain ⟨x, r, f1, f2, e1, h1, h2, e2⟩ := reps_cons h
    obtain ⟨z1, z2⟩ := nil_of_append e2
    subst z1; subst z2
    rw [e1]
    exact reps_drop n h2
theorem reps_cut {l : List PV} {xs : List V} {lo hi : Option Int} (h : Reps R H M l xs []) : Reps R H M (cutP l lo hi) (cutV xs lo hi) [] := by
  unfold cutP cutV
  rw [reps_len h]
  exact reps_take _ (reps_drop _ h)
mutual
theorem rep_dat : ∀ {p : PV} {v : V} {f : List Addr} {d : PyData}, p.dat = some d → Rep R H M p v f → Dp R.K H v d
  | .non, v, f, d, e, h => by cases e; rw [(rep_non h).1]; exact .non
  | .bl _, v, f, d, e, h => by cases e; rw [(rep_bl h).1]; exact .bl _
  | .int _, v, f, d, e, h => by cases e; rw [(rep_int h).1]; exact .int _
  | .str _, v, f, d, e, h => by cases e; rw [(rep_str h).1]; exact .str _
  | .rng _ _, v, f, d, e, h => by cases e
  | .wtp _, v, f, d, e, h => by cases e
  | .scr _, v, f, d, e, h => by cases e
  | .ins _ _ _ _, v, f, d, e, h => by cases e
  | .tup l, v, f, d, e, h => by
    obtain ⟨a, xs, h1, h2, h3, h4⟩ := rep_tup h
    simp only [PV.dat, Option.map_eq_some_iff] at e
    obtain ⟨ds, e1, e2⟩ := e
    rw [← e2, h1]
    exact .tup h2 (reps_dats e1 h3)
  | .lst w l, v, f, d, e, h => by
    obtain ⟨a, xs, g, h1, h2, h3, _⟩ := rep_lst h
    simp only [PV.dat, Option.map_eq_some_iff] at e
    obtain ⟨ds, e1, e2⟩ := e
    rw [← e2, h1]
    exact .lst (SqL.of h2) (reps_dats e1 h3)
theorem reps_dats : ∀ {l : List PV} {xs : List V} {f : List Addr} {ds : List PyData}, dats l = some ds → Reps R H M l xs f → DpAll R.K H xs ds
  | [], xs, f, ds, e, h => by cases e; rw [(reps_nil h).1]; exact .nil
  | p :: l, xs, f, ds, e, h => by
    obtain ⟨x, r, f1, f2, e1, h1, h2, e2⟩ := reps_cons h
    simp only [dats] at e
    split at e
    · rename_i d ds' q1 q2
      cases e
      rw [e1]
      exact .cons (rep_dat q1 h1) (reps_dats q2 h2)
    · cases e
end

/-! ### new things -/
theorem Mv.new {p : Addr} {o : HO} (h : H p = none) (m1 : ∀ b, M b → M' b) (m2 : ∀ b, M' b → M b ∨ b = p) : Mv H M NoG (upd H p o) M' where
  keep := fun a u e _ => by rw [upd_ne (ne_of_none e h)]; exact e
  mm := fun a q _ => m1 a q
  mn := fun a q => (m2 a q).elim .inl fun z => .inr (by rw [z]; exact h)
  th := fun a q => by
    by_cases e : a = p
    · rw [e, upd_same]; simp
    · rw [upd_ne e]; exact q
abbrev plusM (M : Mt) (p : Addr) : Mt := fun b => M b ∨ b = p
theorem tr_new {p : Addr} {o : HO} (tr : ∀ a, M a → H a ≠ none) (m2 : ∀ b, M' b → M b ∨ b = p) : ∀ a, M' a → upd H p o a ≠ none := fun a q => by
  by_cases e : a = p
  · rw [e, upd_same]; simp
  · rw [upd_ne e]; exact (m2 a q).elim (tr a) fun z => absurd z e
/-- a wish for any new value of that form -/
abbrev Want (R : RC) (H : Hp) (M : Mt) (res : PV) (Q : VK) : Prop := ∀ v H' M' f', Mv H M NoG H' M' → (∀ a, M' a → H' a ≠ none) → Rep R H' M' res v f' → f'.Nodup → (∀ a ∈ f', H a = none) → Q v H'
theorem Want.now {res : PV} {Q : VK} {v : V} (w : Want R H M res Q) (tr : ∀ a, M a → H a ≠ none) (r : Rep R H M res v []) : Q v H := w v H M [] .refl tr r List.nodup_nil fun _ z => (nomatch z)
theorem Want.lst {l : List PV} {xs : List V} {Q : VK} (w : Want R H M (.lst true l) Q) (tr : ∀ a, M a → H a ≠ none) (r : Reps R H M l xs []) : ∀ p, H p = none → Q (.ref p) (upd H p (.lst xs)) := fun p hp => by
  have m := Mv.new (M' := plusM M p) (o := .lst xs) hp (fun _ z => .inl z) (fun _ z => z)
  exact w (.ref p) _ (plusM M p) [p] m (tr_new tr fun _ z => z) (.lstO upd_same (.inr rfl) (reps_stay m (fun _ z => z.elim) (fun _ z => z.elim) r fun _ z => (nomatch z))) (by simp) (by simpa using hp)
theorem Want.tup {l : List PV} {xs : List V} {Q : VK} (w : Want R H M (.tup l) Q) (tr : ∀ a, M a → H a ≠ none) (r : Reps R H M l xs []) : NewT H xs Q := fun p o ho hp => by
  have m := Mv.new (M' := M) (o := .frz o (.tup xs)) hp (fun _ z => z) (fun _ z => .inl z)
  exact w (.ref p) _ M [] m (tr_new tr fun _ z => .inl z) (.tup (.inl (.inr ⟨o, upd_same⟩)) (.inl ⟨o, _, upd_same, ho⟩) (reps_stay m (fun _ z => z.elim) (fun _ z => z.elim) r fun _ z => (nomatch z))) List.nodup_nil (fun _ z => (nomatch z))

/-! ### two-place operations -/
def rr (r : R2) : List V → Hp → VK → Prop := fun xs H Q => ∃ x y, xs = [x, y] ∧ r x y H Q
theorem OpOk.none {r : List V → Hp → VK → Prop} {g : List PV → Option PV} (h : ∀ l, g l = none) : OpOk R r g := fun H M xs ps f res Q _ _ e => by rw [h] at e; cases e
theorem reps_two {p q : PV} {xs : List V} {f : List Addr} (h : Reps R H M [p, q] xs f) : ∃ x y f1 f2, xs = [x, y] ∧ Rep R H M p x f1 ∧ Rep R H M q y f2 ∧ f = f1 ++ f2 := by
  obtain ⟨x, r, f1, f2, e1, h1, h2, e2⟩ := reps_cons h
  obtain ⟨y, r', f3, f4, e3, h3, h4, e4⟩ := reps_cons h2
  obtain ⟨e5, e6⟩ := reps_nil h4
  exact ⟨x, y, f1, f3, by rw [e1, e3, e5], h1, h3, by rw [e2, e4, e6]; simp⟩
theorem reps_one {p : PV} {xs : List V} {f : List Addr} (h : Reps R H M [p] xs f) : ∃ x, xs = [x] ∧ Rep R H M p x f := by
  obtain ⟨x, r, f1, f2, e1, h1, h2, e2⟩ := reps_cons h
  obtain ⟨e5, e6⟩ := reps_nil h2
  exact ⟨x, by rw [e1, e5], by rw [e2, e6]; simpa using h1⟩
theorem need_some {α : Type} {c : Bool} {x : Option α} {y : α} (h : need c x = some y) : c = true ∧ x = some y := by
  unfold need at h
  split at h
  · rename_i e; exact ⟨e, h⟩
  · cases h
/-- ints in, an int out -/
theorem int2 {r : R2} {res : PV} {Q : VK} {i j : Int} {xs : List V} {f : List Addr} {g : V} (tr : ∀ a, M a → H a ≠ none) (h : Reps R H M [.int i, .int j] xs f) (w : Want R H M res Q) (rg : Rep R H M res g []) (hr : Q g H → r (.int i) (.int j) H Q) : rr r xs H Q := by
  obtain ⟨x, y, f1, f2, e1, h1, h2, e2⟩ := reps_two h
  rw [(rep_int h1).1, (rep_int h2).1] at e1
  exact ⟨_, _, e1, hr (w.now tr rg)⟩

def rBin (K : PySem.W.Frag) (o : Operator) : R2 := match o with
  | .Add => fun x y H Q => (rI0 (fun i j => .int (i + j)) x y H Q ∨ rCat x y H Q) ∨ rCatD K x y H Q
  | .Sub => rI0 fun i j => .int (i - j)
  | .Mult => fun x y H Q => rI CMul (fun i j => .int (i * j)) x y H Q ∨ rI CMulW (fun i j => .int (i * j)) x y H Q
  | .FloorDiv => rI (fun _ j => j ≠ 0 ∧ j.natAbs.log2 < 9000) fun i j => .int (divI i j)
  | .Mod => rI (fun _ j => j ≠ 0) fun i j => .int (modI i j)
  | .Pow => rI CPow fun i j => .int (i ^ j.toNat)
  | .LShift => rI CPow fun i j => .int (i * 2 ^ j.toNat)
  | .RShift => rI (fun _ j => 0 ≤ j) fun i j => .int (i / 2 ^ j.toNat)
  | .BitAnd => rI0 fun i j => .int (Builtin.bitAnd i j)
  | .BitOr => rI0 fun i j => .int (Builtin.bitOr i j)
  | .BitXor => rI0 fun i j => .int (Builtin.bitXor i j)
  | _ => fun _ _ _ _ => False
theorem divI_eq (i j : Int) : divI i j = i.fdiv j := by
  unfold divI
  split
  · rw [Int.fdiv_eq_ediv_of_nonneg i (by omega)]
  · rfl
theorem modI_eq (i j : Int) : modI i j = i.fmod j := by
  unfold modI
  split
  · rw [Int.fmod_eq_emod_of_nonneg i (by omega)]
  · rfl
theorem op_divI : OpR X (binaryOp .FloorDiv) (rI (fun _ j => j ≠ 0 ∧ j.natAbs.log2 < 9000) fun i j => .int (divI i j)) := opI fun i j _ _ _ _ _ hc q => floordiv_int hc.1 (by rw [← divI_eq]; exact q) (.inl (PyProof.noPylong_of_log2 hc.2))
theorem op_modI : OpR X (binaryOp .Mod) (rI (fun _ j => j ≠ 0) fun i j => .int (modI i j)) := opI fun i j _ _ _ _ _ hc q => mod_int' hc (by rw [← modI_eq]; exact q)
theorem op_never {fn : Value → Value → Sem Value} : OpR X fn (fun _ _ _ _ => False) := fun _ _ _ _ _ _ _ _ _ _ _ _ h => h.elim
theorem bin_op (o : Operator) : OpR X (binaryOp o) (rBin X.K o) := by
  cases o <;> first
    | exact (op_add.or op_cat).or op_catD
    | exact op_sub
    | exact op_mul.or op_mulW
    | exact op_divI
    | exact op_modI
    | exact op_pow
    | exact op_shl
    | exact op_shr
    | exact op_and
    | exact op_or
    | exact op_xor
    | exact op_never
theorem nil_append_self {a b : List V} : (a = [] → b = a ++ b) := fun h => by rw [h]; rfl
theorem bin_ok (o : Operator) : OpOk R (rr (rBin R.K o)) (opBin o) := by
  intro H M xs ps f res Q tr h e w
  unfold opBin at e
  split at e
  · rename_i i j
    cases o <;> simp only at e <;> try cases e
    · exact int2 tr h w .int fun q => .inl (.inl ⟨i, j, rfl, rfl, q⟩)
    · exact int2 tr h w .int fun q => ⟨i, j, rfl, rfl, q⟩
    · obtain ⟨c, e⟩ := need_some e
      cases e
      simp only [mulOk, Bool.or_eq_true, smallI, decide_eq_true_eq] at c
      refine int2 tr h w .int fun q => ?_
      rcases c with (c | c) | c
      · exact .inl ⟨i, j, rfl, rfl, .inl (by omega), q⟩
      · exact .inl ⟨i, j, rfl, rfl, .inr (by omega), q⟩
      · exact .inr ⟨i, j, rfl, rfl, c, q⟩
    · obtain ⟨c, e⟩ := need_some e
      cases e
      simp only [Bool.not_eq_true', decide_eq_false_iff_not] at c
      exact int2 tr h w .int fun q => ⟨i, j, rfl, rfl, c, q⟩
    · obtain ⟨c, e⟩ := need_some e
      cases e
      simp only [powOk, Bool.and_eq_true, decide_eq_true_eq] at c
      exact int2 tr h w .int fun q => ⟨i, j, rfl, rfl, ⟨c.1.1, c.1.2, c.2⟩, q⟩
    · obtain ⟨c, e⟩ := need_some e
      cases e
      simp only [powOk, Bool.and_eq_true, decide_eq_true_eq] at c
      exact int2 tr h w .int fun q => ⟨i, j, rfl, rfl, ⟨c.1.1, c.1.2, c.2⟩, q⟩
    · obtain ⟨c, e⟩ := need_some e
      cases e
      exact int2 tr h w .int fun q => ⟨i, j, rfl, rfl, of_decide_eq_true c, q⟩
    · exact int2 tr h w .int fun q => ⟨i, j, rfl, rfl, q⟩
    · exact int2 tr h w .int fun q => ⟨i, j, rfl, rfl, q⟩
    · exact int2 tr h w .int fun q => ⟨i, j, rfl, rfl, q⟩
    · obtain ⟨c, e⟩ := need_some e
      cases e
      simp only [Bool.and_eq_true, decide_eq_true_eq, Bool.not_eq_true', decide_eq_false_iff_not] at c
      exact int2 tr h w .int fun q => ⟨i, j, rfl, rfl, ⟨c.1, c.2⟩, q⟩
  · rename_i w1 l1 w2 l2
    cases o <;> simp only at e <;> try cases e
    obtain ⟨c, e⟩ := need_some e
    cases e
    simp only [Bool.and_eq_true, lenOk, decide_eq_true_eq] at c
    obtain ⟨x, y, f1, f2, e1, h1, h2, e2⟩ := reps_two h
    obtain ⟨a, xs1, g1, k1, k2, k3, _⟩ := rep_lst h1
    obtain ⟨b, xs2, g2, j1, j2, j3, _⟩ := rep_lst h2
    have z1 := reps_pure c.1.1 k3
    have z2 := reps_pure c.1.2 j3
    subst z1; subst z2
    refine ⟨x, y, e1, .inl (.inr ⟨a, b, xs1, xs2, k1, j1, k2, j2, by rw [reps_len k3, reps_len j3]; exact c.2, ?_⟩)⟩
    exact Want.lst w tr (reps_append (f := []) (g := []) k3 j3)
  · rename_i l1 l2
    cases o <;> simp only at e <;> try cases e
    obtain ⟨c, e⟩ := need_some e
    cases e
    simp only [lenOk, decide_eq_true_eq] at c
    obtain ⟨x, y, f1, f2, e1, h1, h2, e2⟩ := reps_two h
    obtain ⟨a, xs1, k1, k2, k3, _⟩ := rep_tup h1
    obtain ⟨b, xs2, j1, j2, j3, _⟩ := rep_tup h2
    have ap := reps_append (f := []) (g := []) k3 j3
    refine ⟨x, y, e1, .inr ⟨a, b, xs1, xs2, ⟨k1, j1⟩, ⟨k2, j2⟩, by rw [reps_len k3, reps_len j3]; exact c, fun z => ?_, fun _ z => ?_, fun _ _ => Want.tup w tr ap⟩⟩
    · rw [z] at ap
      exact Want.now w tr (.tup j2 (rep_tupD h2 j1) ap)
    · rw [z, List.append_nil] at ap
      exact Want.now w tr (.tup k2 (rep_tupD h1 k1) ap)
  · cases e
end
end Ev

set_option Elab.async false
set_option linter.all false
set_option maxHeartbeats 4000000
set_option autoImplicit false
namespace Ev
open PySem PySem.Spec PyProof.Rows L2
section
variable {R : RC} {H H' H1 : Hp} {M M' M1 : Mt} {X : Cx} {σ : L2.St} {ρ ρ1 : Env} {F F1 : Fp} {v : V} {f : List Addr}

/-! ### comparisons -/
def rCmp (K : PySem.W.Frag) (o : CmpOp) : R2 := match o with
  | .Eq => rEqD K
  | .NotEq => rNeD K
  | .Lt => rI0 fun i j => .bl (decide (i < j))
  | .LtE => rI0 fun i j => .bl (decide (i ≤ j))
  | .Gt => rI0 fun i j => .bl (decide (j < i))
  | .GtE => rI0 fun i j => .bl (decide (j ≤ i))
  | .Is => fun x y H Q => y = .non ∧ Q (.bl (decide (x = .non))) H
  | .IsNot => fun x y H Q => y = .non ∧ Q (.bl (!decide (x = .non))) H
  | .In => rInD K
  | .NotIn => rNotInD K
theorem cmp_op (hu : X.A.units + 65 < cLine) (o : CmpOp) : OpR X (compareOp o) (rCmp X.K o) := by
  cases o
  · exact op_eqD (by omega)
  · exact op_neD (by omega)
  · exact op_lt
  · exact op_le
  · exact op_gt
  · exact op_ge
  · exact op_isN
  · exact op_notN
  · exact op_inD hu
  · exact op_notInD hu
theorem rep_isN {p : PV} (h : Rep R H M p v f) : decide (v = .non) = p.isN := by
  cases p with
  | non => rw [(rep_non h).1]; rfl
  | bl b => rw [(rep_bl h).1]; rfl
  | int b => rw [(rep_int h).1]; rfl
  | str b => rw [(rep_str h).1]; rfl
  | tup l => obtain ⟨a, xs, e, _⟩ := rep_tup h; rw [e]; rfl
  | wtp l => obtain ⟨a, xs, e, _⟩ := rep_wtp h; rw [e]; rfl
  | lst w l => obtain ⟨a, xs, g, e, _⟩ := rep_lst h; rw [e]; rfl
  | rng a b => unfold Rep at h; obtain ⟨⟨a, e, _⟩, _⟩ := h; rw [e]; rfl
  | scr l => obtain ⟨a, e, _⟩ := rep_scr h; rw [e]; rfl
  | ins w c ns l =>
    cases w <;> unfold Rep at h
    · obtain ⟨⟨a, dx, xs, e, _⟩, _⟩ := h; rw [e]; rfl
    · obtain ⟨a, dx, xs, g, e, _⟩ := h; rw [e]; rfl
theorem eq_ok {p q : PV} {b : Bool} {x y : V} {f1 f2 : List Addr} (e : opEq p q = some b) (h1 : Rep R H M p x f1) (h2 : Rep R H M q y f2) :
    ∃ d e', Dp R.K H x d ∧ Dp R.K H y e' ∧ SeqAt.shaped d = true ∧ SeqAt.shaped e' = true ∧ PyData.eqv d e' = b := by
  unfold opEq at e
  split at e
  · rename_i d e' q1 q2
    obtain ⟨c, e⟩ := need_some e
    cases e
    simp only [Bool.and_eq_true] at c
    exact ⟨d, e', rep_dat q1 h1, rep_dat q2 h2, c.1, c.2, rfl⟩
  · cases e
theorem dp_lst {l : List PV} {w : Bool} {ds : List PyData} (h : Rep R H M (.lst w l) v f) (e : (PV.lst true l).dat = some (.list ds)) : Dp R.K H v (.list ds) := by
  have e2 : (PV.lst w l).dat = some (.list ds) := by simpa [PV.dat] using e
  exact rep_dat e2 h
theorem cmp_ok (o : CmpOp) : OpOk R (rr (rCmp R.K o)) (opCmp o) := by
  intro H M xs ps f res Q tr h e w
  unfold opCmp at e
  split at e
  · rename_i p q
    obtain ⟨x, y, f1, f2, e1, h1, h2, e2⟩ := reps_two h
    refine ⟨x, y, e1, ?_⟩
    cases o <;> simp only at e
    · obtain ⟨b, eb, e⟩ := Option.map_eq_some_iff.mp e
      obtain ⟨d, d', a1, a2, a3, a4, a5⟩ := eq_ok eb h1 h2
      subst e
      exact ⟨d, d', a1, a2, a3, a4, Want.now w tr (by rw [a5]; exact .bl)⟩
    · obtain ⟨b, eb, e⟩ := Option.map_eq_some_iff.mp e
      obtain ⟨d, d', a1, a2, a3, a4, a5⟩ := eq_ok eb h1 h2
      subst e
      exact ⟨d, d', a1, a2, a3, a4, Want.now w tr (by rw [a5]; exact .bl)⟩
    · split at e
      · cases e
        rw [(rep_int h1).1, (rep_int h2).1]
        exact ⟨_, _, rfl, rfl, Want.now w tr .bl⟩
      · cases e
    · split at e
      · cases e
        rw [(rep_int h1).1, (rep_int h2).1]
        exact ⟨_, _, rfl, rfl, Want.now w tr .bl⟩
      · cases e
    · split at e
      · cases e
        rw [(rep_int h1).1, (rep_int h2).1]
        exact ⟨_, _, rfl, rfl, Want.now w tr .bl⟩
      · cases e
    · split at e
      · cases e
        rw [(rep_int h1).1, (rep_int h2).1]
        exact ⟨_, _, rfl, rfl, Want.now w tr .bl⟩
      · cases e
    · cases q <;> simp only at e <;> try cases e
      refine ⟨(rep_non h2).1, Want.now w tr ?_⟩
      rw [rep_isN h1]; exact .bl
    · cases q <;> simp only at e <;> try cases e
      refine ⟨(rep_non h2).1, Want.now w tr ?_⟩
      rw [rep_isN h1]; exact .bl
    · split at e
      · rename_i l
        split at e
        · rename_i d ds q1 q2
          obtain ⟨c, e⟩ := need_some e
          cases e
          simp only [Bool.and_eq_true] at c
          exact ⟨d, ds, rep_dat q1 h1, dp_lst h2 q2, c.1, c.2, Want.now w tr .bl⟩
        · cases e
      · cases e
    · split at e
      · rename_i l
        split at e
        · rename_i d ds q1 q2
          obtain ⟨c, e⟩ := need_some e
          cases e
          simp only [Bool.and_eq_true] at c
          exact ⟨d, ds, rep_dat q1 h1, dp_lst h2 q2, c.1, c.2, Want.now w tr .bl⟩
        · cases e
      · cases e
  · cases e

/-! ### one-place operations -/
def r1 (r : V → Hp → VK → Prop) : List V → Hp → VK → Prop := fun xs H Q => ∃ x, xs = [x] ∧ r x H Q
def rUn (o : UnaryOp) : V → Hp → VK → Prop := match o with
  | .USub => rU fun i => .int (-i)
  | _ => fun _ _ _ => False
theorem un_op (o : UnaryOp) : UnR X (unaryOp o) (rUn o) := by
  cases o <;> first
    | exact un_neg
    | exact fun _ _ _ _ _ _ _ _ _ h => h.elim
theorem un_ok (o : UnaryOp) : OpOk R (r1 (rUn o)) (opUn o) := by
  intro H M xs ps f res Q tr h e w
  unfold opUn at e
  split at e
  · rename_i i
    obtain ⟨x, e1, h1⟩ := reps_one h
    cases o <;> simp only at e <;> try cases e
    rw [(rep_int h1).1] at e1
    exact ⟨_, e1, i, rfl, Want.now w tr .int⟩
  · cases e

/-! ### items, slices -/
theorem map_at {l : List PV} {xs : List V} {g : List Addr} {i : Int} {p : PV} (h : Reps R H M l xs g) (e : atI l i = some p) : ∃ x g', atI xs i = some x ∧ Rep R H M p x g' ∧ g'.Sublist g := by
  unfold atI at e ⊢
  rw [reps_len h]
  cases q : ixN l.length i with
  | none => rw [q] at e; cases e
  | some j =>
    rw [q] at e
    exact reps_at h e
theorem sub_ok : OpOk R (rr (rIx R.K)) opSub := by
  intro H M xs ps f res Q tr h e w
  unfold opSub at e
  split at e
  · obtain ⟨x, y, f1, f2, e1, h1, h2, e2⟩ := reps_two h
    obtain ⟨a, ys, k1, k2, k3, _⟩ := rep_tup h1
    obtain ⟨z, g', a1, a2, a3⟩ := map_at k3 e
    have eg : g' = [] := List.sublist_nil.mp a3
    subst eg
    exact ⟨x, y, e1, .inr (.inl ⟨a, ys, _, z, k1, (rep_int h2).1, k2, a1, Want.now w tr a2⟩)⟩
  · obtain ⟨x, y, f1, f2, e1, h1, h2, e2⟩ := reps_two h
    obtain ⟨a, ys, g, k1, k2, k3, _, k4⟩ := rep_lst h1
    obtain ⟨z, g', a1, a2, a3⟩ := map_at k3 e
    rw [(k4 rfl).2.2] at a3
    have eg : g' = [] := List.sublist_nil.mp a3
    subst eg
    exact ⟨x, y, e1, .inl ⟨a, ys, _, z, k1, (rep_int h2).1, SqL.of k2, a1, Want.now w tr a2⟩⟩
  · obtain ⟨x, y, f1, f2, e1, h1, h2, e2⟩ := reps_two h
    obtain ⟨a, ys, g, k1, k2, k3, _, k4⟩ := rep_lst h1
    obtain ⟨p, ep, e⟩ := Option.bind_eq_some_iff.mp e
    obtain ⟨c, e⟩ := need_some e
    cases e
    obtain ⟨z, g', a1, a2, a3⟩ := map_at k3 ep
    have eg := rep_pure c a2
    subst eg
    exact ⟨x, y, e1, .inl ⟨a, ys, _, z, k1, (rep_int h2).1, SqL.of k2, a1, Want.now w tr a2⟩⟩
  · cases e
def rS3 (hl hu : Bool) (r : V → Option Int → Option Int → Hp → VK → Prop) : List V → Hp → VK → Prop := fun xs H Q => ∃ x l u a b, xs = [x, l, u] ∧ (hl = true → ∃ i, l = .int i ∧ a = some i) ∧ (hl = false → a = none) ∧ (hu = true → ∃ i, u = .int i ∧ b = some i) ∧ (hu = false → b = none) ∧ r x a b H Q
def rSl (K : PySem.W.Frag) : V → Option Int → Option Int → Hp → VK → Prop := fun x lo hi H Q => rSlL K x lo hi H Q ∨ rSlD K x lo hi H Q
theorem sl_op : SlR X (rSl X.K) := sl_list.or sl_tupD
theorem optI_ok {h : Bool} {p : PV} {x : V} {f1 : List Addr} {a : Option Int} (e : optI h p = some a) (r : Rep R H M p x f1) : (h = true → ∃ i, x = .int i ∧ a = some i) ∧ (h = false → a = none) := by
  unfold optI at e
  split at e
  · cases e
    exact ⟨(fun z => nomatch z), fun _ => rfl⟩
  · cases e
    exact ⟨fun _ => ⟨_, (rep_int r).1, rfl⟩, (fun z => nomatch z)⟩
  · cases e
theorem cut_full {xs : List V} {lo hi : Option Int} (h : HT.sIx xs.length 0 lo = 0 ∧ HT.sIx xs.length xs.length hi = xs.length) : cutV xs lo hi = xs := by
  unfold cutV
  rw [h.1, h.2]
  simp
theorem slc_ok (hl hu : Bool) : OpOk R (rS3 hl hu (rSl R.K)) (opSlc hl hu) := by
  intro H M xs ps f res Q tr h e w
  unfold opSlc at e
  split at e
  · rename_i p lo hi
    split at e
    · rename_i a b ea eb
      obtain ⟨x, r, f1, f2, e1, h1, h2, e2⟩ := reps_cons h
      obtain ⟨l, u, f3, f4, e3, h3, h4, e4⟩ := reps_two h2
      obtain ⟨o1, o2⟩ := optI_ok ea h3
      obtain ⟨o3, o4⟩ := optI_ok eb h4
      refine ⟨x, l, u, a, b, by rw [e1, e3], o1, o2, o3, o4, ?_⟩
      split at e
      · cases e
        obtain ⟨c, ys, k1, k2, k3, _⟩ := rep_tup h1
        have rc := reps_cut (lo := a) (hi := b) k3
        refine .inr ⟨c, ys, k1, k2, fun z => ?_, fun _ => Want.tup w tr rc⟩
        rw [cut_full z] at rc
        exact Want.now w tr (.tup k2 (rep_tupD h1 k1) rc)
      · obtain ⟨cc, e⟩ := need_some e
        cases e
        obtain ⟨c, ys, g, k1, k2, k3, _, k4⟩ := rep_lst h1
        have eg := reps_pure cc k3
        subst eg
        exact .inl ⟨c, ys, k1, SqL.of k2, Want.lst w tr (reps_cut k3)⟩
      · cases e
    · cases e
  · cases e

/-! ### built-in functions -/
def obR (K : PySem.W.Frag) (o : OB) : List V → Hp → VK → Prop := match o with
  | .len => fun xs H Q => ∃ p ys, xs = [.ref p] ∧ (SqL K H p ys ∨ SqT K H p ys) ∧ Q (.int ys.length) H
  | .int => fun xs H Q => (∃ i, xs = [.int i] ∧ Q (.int i) H) ∨ ∃ k, xs = [.bl k] ∧ Q (.int (if k then 1 else 0)) H
  | .abs => fun xs H Q => ∃ i, xs = [.int i] ∧ Q (.int (if i < 0 then -i else i)) H
  | .max2 => fun xs H Q => ∃ i j, xs = [.int i, .int j] ∧ Q (.int (if j > i then j else i)) H
  | .min2 => fun xs H Q => ∃ i j, xs = [.int i, .int j] ∧ Q (.int (if j < i then j else i)) H
  | .max => rBig true K
  | .min => rBig false K
  | .sum => rSum K
  | .list => fun xs H Q => ∃ p ys, xs = [.ref p] ∧ (SqL K H p ys ∨ SqT K H p ys) ∧ ∀ l, H l = none → Q (.ref l) (upd H l (.lst ys))
  | .tuple => rTupOf K
  | .any => rAny K
  | .all => rAll K
  | .gcd => rGcd
def obV (o : OB) : Value := match o with
  | .len => .builtin "len" | .int => .type "int" | .abs => .builtin "abs" | .max2 => .builtin "max" | .min2 => .builtin "min" | .max => .builtin "max" | .min => .builtin "min"
  | .sum => .builtin "sum" | .list => .type "list" | .tuple => .type "tuple" | .any => .builtin "any" | .all => .builtin "all" | .gcd => .builtin "math.gcd"
theorem ob_call (hc : X.calm = true) (hu : X.A.units + 65 < cLine) (o : OB) : CallR X (obV o) (obR X.K o) := by
  cases o
  · exact call_len_seq
  · exact call_int1
  · exact call_abs
  · exact call_max2 hc
  · exact call_min2 hc
  · exact cr_big true hc hu
  · exact cr_big false hc hu
  · exact cr_sum hc
  · exact call_list_of
  · exact call_tupD
  · exact cr_any hc
  · exact cr_all hc
  · exact cr_gcd
theorem rep_nums {p : PV} {ns : List Int} (e : numsOf p = some ns) (r : Rep R H M p v f) : ∃ a, v = .ref a ∧ NumsAt R.K H a ns := by
  unfold numsOf at e
  split at e
  · obtain ⟨a, ys, g, k1, k2, k3, _⟩ := rep_lst r
    rw [(reps_ints e k3).1] at k2
    exact ⟨a, k1, .inl (SqL.of k2)⟩
  · obtain ⟨a, ys, k1, k2, k3, _⟩ := rep_tup r
    rw [(reps_ints e k3).1] at k2
    exact ⟨a, k1, .inr k2⟩
  · cases e
theorem ob_ok (o : OB) : OpOk R (obR R.K o) (obSem o) := by
  intro H M xs ps f res Q tr h e w
  unfold obSem at e
  cases o <;> simp only at e <;> (split at e <;> try cases e)
  -- len
  · obtain ⟨x, e1, h1⟩ := reps_one h
    obtain ⟨a, ys, g, k1, k2, k3, _⟩ := rep_lst h1
    refine ⟨a, ys, by rw [e1, k1], .inl (SqL.of k2), Want.now w tr ?_⟩
    rw [reps_len k3]; exact .int
  · obtain ⟨x, e1, h1⟩ := reps_one h
    obtain ⟨a, ys, k1, k2, k3, _⟩ := rep_tup h1
    refine ⟨a, ys, by rw [e1, k1], .inr k2, Want.now w tr ?_⟩
    rw [reps_len k3]; exact .int
  -- int
  · obtain ⟨x, e1, h1⟩ := reps_one h
    exact .inl ⟨_, by rw [e1, (rep_int h1).1], Want.now w tr .int⟩
  · obtain ⟨x, e1, h1⟩ := reps_one h
    exact .inr ⟨_, by rw [e1, (rep_bl h1).1], Want.now w tr .int⟩
  -- abs
  · obtain ⟨x, e1, h1⟩ := reps_one h
    exact ⟨_, by rw [e1, (rep_int h1).1], Want.now w tr .int⟩
  -- max2, min2
  · obtain ⟨x, y, f1, f2, e1, h1, h2, e2⟩ := reps_two h
    exact ⟨_, _, by rw [e1, (rep_int h1).1, (rep_int h2).1], Want.now w tr .int⟩
  · obtain ⟨x, y, f1, f2, e1, h1, h2, e2⟩ := reps_two h
    exact ⟨_, _, by rw [e1, (rep_int h1).1, (rep_int h2).1], Want.now w tr .int⟩
  -- max, min
  · obtain ⟨x, e1, h1⟩ := reps_one h
    split at e
    · rename_i n ns q
      cases e
      obtain ⟨a, k1, k2⟩ := rep_nums q h1
      exact ⟨a, n, ns, by rw [e1, k1], k2, Want.now w tr .int⟩
    · cases e
  · obtain ⟨x, e1, h1⟩ := reps_one h
    split at e
    · rename_i n ns q
      cases e
      obtain ⟨a, k1, k2⟩ := rep_nums q h1
      exact ⟨a, n, ns, by rw [e1, k1], k2, Want.now w tr .int⟩
    · cases e
  -- sum
  · obtain ⟨x, e1, h1⟩ := reps_one h
    obtain ⟨a, ys, g, k1, k2, k3, _⟩ := rep_lst h1
    obtain ⟨ns, q, e⟩ := Option.map_eq_some_iff.mp e
    subst e
    exact ⟨a, ns, by rw [e1, k1], by rw [← (reps_ints q k3).1]; exact SqL.of k2, Want.now w tr .int⟩
  -- list
  · obtain ⟨x, e1, h1⟩ := reps_one h
    obtain ⟨a, ys, g, k1, k2, k3, _⟩ := rep_lst h1
    obtain ⟨c, e⟩ := need_some e
    cases e
    have eg := reps_pure c k3
    subst eg
    exact ⟨a, ys, by rw [e1, k1], .inl (SqL.of k2), Want.lst w tr k3⟩
  · obtain ⟨x, e1, h1⟩ := reps_one h
    obtain ⟨a, ys, k1, k2, k3, _⟩ := rep_tup h1
    exact ⟨a, ys, by rw [e1, k1], .inr k2, Want.lst w tr k3⟩
  -- tuple
  · obtain ⟨x, e1, h1⟩ := reps_one h
    obtain ⟨a, ys, g, k1, k2, k3, _⟩ := rep_lst h1
    obtain ⟨c, e⟩ := need_some e
    cases e
    have eg := reps_pure c k3
    subst eg
    exact ⟨a, ys, by rw [e1, k1], .inl ⟨SqL.of k2, Want.tup w tr k3⟩⟩
  · obtain ⟨x, e1, h1⟩ := reps_one h
    obtain ⟨a, ys, k1, k2, k3, _⟩ := rep_tup h1
    exact ⟨a, ys, by rw [e1, k1], .inr ⟨k2, Want.now w tr (.tup k2 (rep_tupD h1 k1) k3)⟩⟩
  -- any, all
  · obtain ⟨x, e1, h1⟩ := reps_one h
    obtain ⟨a, ys, g, k1, k2, k3, _⟩ := rep_lst h1
    obtain ⟨ns, q, e⟩ := Option.map_eq_some_iff.mp e
    subst e
    exact ⟨a, ns, by rw [e1, k1], by rw [← (reps_bls q k3).1]; exact SqL.of k2, Want.now w tr .bl⟩
  · obtain ⟨x, e1, h1⟩ := reps_one h
    obtain ⟨a, ys, g, k1, k2, k3, _⟩ := rep_lst h1
    obtain ⟨ns, q, e⟩ := Option.map_eq_some_iff.mp e
    subst e
    exact ⟨a, ns, by rw [e1, k1], by rw [← (reps_bls q k3).1]; exact SqL.of k2, Want.now w tr .bl⟩
  -- gcd
  · obtain ⟨x, y, f1, f2, e1, h1, h2, e2⟩ := reps_two h
    exact ⟨_, _, by rw [e1, (rep_int h1).1, (rep_int h2).1], Want.now w tr .int⟩

/-! ### methods that look -/
def rOf (r : V → List V → Hp → VK → Prop) : List V → Hp → VK → Prop := fun xs H Q => ∃ x ys, xs = x :: ys ∧ r x ys H Q
def bmT (o : BM) (l : List PV) : Option PV := match l with
  | .tup t :: q => bmSem o (.tup t :: q)
  | _ => none
def bmL (o : BM) (l : List PV) : Option PV := match l with
  | .lst w t :: q => bmSem o (.lst w t :: q)
  | _ => none
theorem bm_or {o : BM} {l : List PV} {res : PV} (h : bmSem o l = some res) : bmT o l = some res ∨ bmL o l = some res := by
  cases l with
  | nil => unfold bmSem at h; cases h
  | cons p q =>
    cases p <;> first
      | exact .inl h
      | exact .inr h
      | (cases q with
        | nil => cases h
        | cons q r => cases r <;> cases h)
def bmRT (K : PySem.W.Frag) (o : BM) : V → List V → Hp → VK → Prop := match o with
  | .index => rIxT K
  | .count => rCnt true K
def bmRL (K : PySem.W.Frag) (o : BM) : V → List V → Hp → VK → Prop := match o with
  | .index => rIndexD K
  | .count => rCnt false K
theorem bmT_ok (o : BM) : OpOk R (rOf (bmRT R.K o)) (bmT o) := by
  intro H M xs ps f res Q tr h e w
  unfold bmT at e
  split at e
  · rename_i t q
    unfold bmSem at e
    split at e
    · rename_i p q' he
      cases he
      obtain ⟨x, y, f1, f2, e1, h1, h2, e2⟩ := reps_two h
      obtain ⟨a, ys, k1, k2, k3, _⟩ := rep_tup h1
      simp only at e
      split at e
      · rename_i k ns en
        rw [(reps_ints en k3).1] at k2
        cases o with
        | index =>
          obtain ⟨c, e⟩ := need_some e
          cases e
          exact ⟨x, [y], e1, a, k, ns, k1, by rw [(rep_int h2).1], k2, of_decide_eq_true c, Want.now w tr .int⟩
        | count =>
          cases e
          exact ⟨x, [y], e1, a, k, ns, k1, by rw [(rep_int h2).1], by rw [if_pos rfl]; exact k2, Want.now w tr .int⟩
      · cases e
    · cases e
  · cases e
theorem bmL_ok (o : BM) : OpOk R (rOf (bmRL R.K o)) (bmL o) := by
  intro H M xs ps f res Q tr h e w
  unfold bmL at e
  split at e
  · rename_i wf t q
    unfold bmSem at e
    split at e
    · rename_i p q' he
      cases he
      obtain ⟨x, y, f1, f2, e1, h1, h2, e2⟩ := reps_two h
      obtain ⟨a, ys, g, k1, k2, k3, _⟩ := rep_lst h1
      simp only at e
      cases o with
      | index =>
        simp only at e
        split at e
        · rename_i d ds ed es
          obtain ⟨c, e⟩ := need_some e
          simp only [Bool.and_eq_true] at c
          obtain ⟨j, ej, e⟩ := Option.map_eq_some_iff.mp e
          cases e
          have dl : Dp R.K H x (.list ds) := dp_lst h1 (by simp only [PV.dat, es]; rfl)
          obtain ⟨hj, z1, z2⟩ := List.findIdx?_eq_some_iff_getElem.mp ej
          refine ⟨x, [y], e1, a, y, d, ds, j, ds[j], k1, rfl, by rw [← k1]; exact dl, rep_dat ed h2, c.2, c.1, List.getElem?_eq_getElem hj, z1, fun m z' hm hz => ?_, Want.now w tr .int⟩
          obtain ⟨hm', ez⟩ := List.getElem?_eq_some_iff.mp hz
          rw [← ez]
          simpa using z2 m hm
        · cases e
      | count =>
        simp only at e
        split at e
        · rename_i k ns en
          cases e
          rw [(reps_ints en k3).1] at k2
          exact ⟨x, [y], e1, a, k, ns, k1, by rw [(rep_int h2).1], by rw [if_neg (by decide)]; exact SqL.of k2, Want.now w tr .int⟩
        · cases e
    · cases e
  · cases e
def rBk (mx : Bool) (K : PySem.W.Frag) : List V → Hp → VK → Prop := fun xs H Q => ∃ x y, xs = [x, y] ∧ rBigD mx K [x] [y] H Q
theorem bk_ok (mx : Bool) : OpOk R (rBk mx R.K) (bkSem mx) := by
  intro H M xs ps f res Q tr h e w
  unfold bkSem at e
  split at e
  · obtain ⟨x, y, f1, f2, e1, h1, h2, e2⟩ := reps_two h
    split at e
    · rename_i d ns en
      cases e
      obtain ⟨a, k1, k2⟩ := rep_nums en h1
      exact ⟨x, y, e1, a, d, ns, by rw [k1], by rw [(rep_int h2).1], k2, Want.now w tr .int⟩
    · cases e
  · cases e
end
end Ev

set_option Elab.async false
set_option linter.all false
set_option maxHeartbeats 4000000
set_option autoImplicit false
namespace Ev
open PySem PySem.Spec PyProof.Rows L2

/-! ### what a def promises, by its function -/
structure CPost (R : RC) (H : Hp) (M : Mt) (F : Fp) (vs : List V) (ps' : List PV) (p : PV) (v : V) (H' : Hp) (M' : Mt) (F' : Fp) (f : List Addr) : Prop where
  env : EnvOk R H' M' (vs.map some) (ps'.map some) F'
  rep : Rep R H' M' p v f
  own : f.Nodup ∧ ∀ a ∈ f, ¬ F'.any a
  mv : Mv H M F.any H' M'
  fnew : ∀ a, F'.any a → F.any a ∨ H a = none
  ffr : ∀ a ∈ f, F.any a ∨ H a = none
def fSp (R : RC) (n : Nat) (io : List Nat) (sem : List PV → CRes) : Sp := fun vs H Q _ => vs.length = n ∧ ∃ M ps F, EnvOk R H M (vs.map some) (ps.map some) F ∧ (∀ k, k ∉ io → F k = []) ∧ ∃ p ps', sem ps = .ok p ps' ∧
  ∀ v H' M' F' f, CPost R H M F vs ps' p v H' M' F' f → Q v H'

section
variable {R : RC} {H H' H1 : Hp} {M M' M1 : Mt} {X : Cx} {σ : L2.St} {ρ ρ1 : Env} {F F1 : Fp} {v : V} {f : List Addr}

/-! ### arguments -/
def As.len : As → Nat
  | .nil => 0 | .io _ as => as.len + 1 | .dat _ as => as.len + 1
def As.ioAt : As → Nat → Option Nat
  | .nil, _ => none
  | .io i _, 0 => some i
  | .io _ as, k + 1 => as.ioAt k
  | .dat _ _, 0 => none
  | .dat _ as, k + 1 => as.ioAt k
def As.posOf : As → Nat → Option Nat
  | .nil, _ => none
  | .io i as, j => if i = j then some 0 else (as.posOf j).map (· + 1)
  | .dat _ as, j => (as.posOf j).map (· + 1)
def As.ios : As → List Nat
  | .nil => [] | .io i as => i :: as.ios | .dat _ as => as.ios
theorem ioAt_mem : ∀ {as : As} {k i : Nat}, as.ioAt k = some i → i ∈ as.ios
  | .nil, k, i, h => by simp [As.ioAt] at h
  | .io j as, 0, i, h => by simp [As.ioAt] at h; simp [As.ios, h]
  | .io j as, k + 1, i, h => by simp only [As.ioAt] at h; simp [As.ios, ioAt_mem h]
  | .dat e as, 0, i, h => by simp [As.ioAt] at h
  | .dat e as, k + 1, i, h => by simp only [As.ioAt] at h; simp [As.ios, ioAt_mem h]
theorem posOf_mem : ∀ {as : As} {j : Nat}, as.posOf j = none → j ∉ as.ios
  | .nil, j, h => by simp [As.ios]
  | .io i as, j, h => by
    unfold As.posOf at h
    split at h
    · cases h
    · rename_i n
      simp only [Option.map_eq_none_iff] at h
      simp only [As.ios, List.mem_cons, not_or]
      exact ⟨fun e => n e.symm, posOf_mem h⟩
  | .dat e as, j, h => by
    unfold As.posOf at h
    simp only [Option.map_eq_none_iff] at h
    exact posOf_mem (as := as) h
theorem posOf_at : ∀ {as : As} {j k : Nat}, as.posOf j = some k → as.ioAt k = some j
  | .nil, j, k, h => by simp [As.posOf] at h
  | .io i as, j, k, h => by
    unfold As.posOf at h
    split at h
    · rename_i e; cases h; simp [As.ioAt, e]
    · obtain ⟨k', e, rfl⟩ := Option.map_eq_some_iff.mp h
      exact posOf_at (as := as) e
  | .dat e as, j, k, h => by
    unfold As.posOf at h
    obtain ⟨k', e, rfl⟩ := Option.map_eq_some_iff.mp h
    exact posOf_at (as := as) e
theorem at_posOf : ∀ {as : As} {j k : Nat}, as.ios.Nodup → as.ioAt k = some j → as.posOf j = some k
  | .nil, j, k, _, h => by simp [As.ioAt] at h
  | .io i as, j, 0, _, h => by simp [As.ioAt] at h; simp [As.posOf, h]
  | .io i as, j, k + 1, nd, h => by
    simp only [As.ioAt] at h
    have nd' := List.nodup_cons.mp nd
    have ne : i ≠ j := fun e => nd'.1 (by rw [e]; exact ioAt_mem h)
    simp [As.posOf, ne, at_posOf nd'.2 h]
  | .dat e as, j, 0, _, h => by simp [As.ioAt] at h
  | .dat e as, j, k + 1, nd, h => by
    simp only [As.ioAt] at h
    simp [As.posOf, at_posOf (as := as) nd h]
/-- where ios stand -/
def As.kpos : As → Nat → List Nat
  | .nil, _ => []
  | .io _ as, k => k :: as.kpos (k + 1)
  | .dat _ as, k => as.kpos (k + 1)
theorem kpos_mem : ∀ {as : As} {k j i : Nat}, as.ioAt k = some i → j + k ∈ as.kpos j
  | .nil, k, j, i, h => by simp [As.ioAt] at h
  | .io _ as, 0, j, i, h => by simp [As.kpos]
  | .io _ as, k + 1, j, i, h => by
    simp only [As.ioAt] at h
    have := kpos_mem (j := j + 1) h
    rw [show j + (k + 1) = j + 1 + k by omega]
    simp [As.kpos, this]
  | .dat _ as, 0, j, i, h => by simp [As.ioAt] at h
  | .dat _ as, k + 1, j, i, h => by
    simp only [As.ioAt] at h
    have := kpos_mem (j := j + 1) h
    rw [show j + (k + 1) = j + 1 + k by omega]
    simp [As.kpos, this]
def As.fp (as : As) (F : Fp) : Fp := fun k => match as.ioAt k with
  | some i => F i
  | none => []
/-- the arguments' values: of an io the slot's -/
def AsOk (R : RC) (H : Hp) (M : Mt) (σ : L2.St) : As → List PV → List V → Prop
  | .nil, ps, vs => ps = [] ∧ vs = []
  | .io i as, ps, vs => ∃ p pt v vt, ps = p :: pt ∧ vs = v :: vt ∧ σ[i]? = some (some v) ∧ AsOk R H M σ as pt vt
  | .dat _ as, ps, vs => ∃ p pt v vt, ps = p :: pt ∧ vs = v :: vt ∧ Rep R H M p v [] ∧ AsOk R H M σ as pt vt
theorem AsOk.stay {G : Addr → Prop} (m : Mv H M G H' M') (gM : ∀ b, G b → M b) (gm : ∀ b, G b → Mut (H b)) : ∀ {as : As} {ps : List PV} {vs : List V}, AsOk R H M σ as ps vs → AsOk R H' M' σ as ps vs
  | .nil, ps, vs, h => h
  | .io i as, ps, vs, h => by
    obtain ⟨p, pt, v, vt, e1, e2, e3, h⟩ := h
    exact ⟨p, pt, v, vt, e1, e2, e3, h.stay m gM gm⟩
  | .dat e as, ps, vs, h => by
    obtain ⟨p, pt, v, vt, e1, e2, e3, h⟩ := h
    exact ⟨p, pt, v, vt, e1, e2, rep_stay m gM gm e3 (fun _ z => (nomatch z)), h.stay m gM gm⟩
theorem fill_at : ∀ {as : As} {ps l : List PV} {vs : List V}, AsOk R H M σ as ps vs → fillAs ps as ρ = some l → ∀ (k : Nat) (p : PV), l[k]? = some p →
    ∃ v, vs[k]? = some v ∧ ((∃ i, as.ioAt k = some i ∧ getE i ρ = some p ∧ σ[i]? = some (some v)) ∨ (as.ioAt k = none ∧ Rep R H M p v []))
  | .nil, ps, l, vs, h, e, k, p, el => by
    obtain ⟨e1, e2⟩ := h
    subst e1
    cases e
    simp at el
  | .io i as, ps, l, vs, h, e, k, p, el => by
    obtain ⟨p0, pt, v, vt, e1, e2, e3, h⟩ := h
    subst e1; subst e2
    simp only [fillAs] at e
    split at e
    · rename_i q lt a1 a2
      cases e
      cases k with
      | zero => simp at el; subst el; exact ⟨v, rfl, .inl ⟨i, rfl, a1, e3⟩⟩
      | succ k => simpa [As.ioAt] using fill_at h a2 k p (by simpa using el)
    · cases e
  | .dat _ as, ps, l, vs, h, e, k, p, el => by
    obtain ⟨p0, pt, v, vt, e1, e2, e3, h⟩ := h
    subst e1; subst e2
    simp only [fillAs, Option.map_eq_some_iff] at e
    obtain ⟨lt, a2, rfl⟩ := e
    cases k with
    | zero => simp at el; subst el; exact ⟨v, rfl, .inr ⟨rfl, e3⟩⟩
    | succ k => simpa [As.ioAt] using fill_at h a2 k p (by simpa using el)
theorem fill_len : ∀ {as : As} {ps l : List PV} {vs : List V}, AsOk R H M σ as ps vs → fillAs ps as ρ = some l → l.length = vs.length
  | .nil, ps, l, vs, h, e => by
    obtain ⟨e1, e2⟩ := h
    subst e1; subst e2
    cases e; rfl
  | .io i as, ps, l, vs, h, e => by
    obtain ⟨p0, pt, v, vt, e1, e2, e3, h⟩ := h
    subst e1; subst e2
    simp only [fillAs] at e
    split at e
    · rename_i q lt a1 a2
      cases e
      simp [fill_len h a2]
    · cases e
  | .dat _ as, ps, l, vs, h, e => by
    obtain ⟨p0, pt, v, vt, e1, e2, e3, h⟩ := h
    subst e1; subst e2
    simp only [fillAs, Option.map_eq_some_iff] at e
    obtain ⟨lt, a2, rfl⟩ := e
    simp [fill_len h a2]
theorem ioAt_lt : ∀ {as : As} {k i : Nat}, as.ioAt k = some i → k < as.len
  | .nil, k, i, h => by simp [As.ioAt] at h
  | .io j as, 0, i, h => by simp [As.len]
  | .io j as, k + 1, i, h => by simp only [As.ioAt] at h; have := ioAt_lt h; simp [As.len]; omega
  | .dat e as, 0, i, h => by simp [As.len]
  | .dat e as, k + 1, i, h => by simp only [As.ioAt] at h; have := ioAt_lt h; simp [As.len]; omega
theorem asOk_len : ∀ {as : As} {ps : List PV} {vs : List V}, AsOk R H M σ as ps vs → vs.length = as.len
  | .nil, ps, vs, h => by rw [h.2]; rfl
  | .io i as, ps, vs, h => by
    obtain ⟨p0, pt, v, vt, e1, e2, e3, h⟩ := h
    rw [e2]; simp [As.len, asOk_len h]
  | .dat _ as, ps, vs, h => by
    obtain ⟨p0, pt, v, vt, e1, e2, e3, h⟩ := h
    rw [e2]; simp [As.len, asOk_len h]
theorem back_at : ∀ {as : As} {l : List PV} {j : Nat}, as.len ≤ l.length → (backAs l as ρ)[j]? = match as.posOf j with
    | some k => if j < ρ.length then some (l[k]?) else none
    | none => ρ[j]?
  | .nil, l, j, _ => by cases l <;> rfl
  | .io i as, [], j, h => by simp [As.len] at h
  | .io i as, p :: l, j, h => by
    have hl : (backAs l as ρ).length = ρ.length := by
      clear h
      induction l generalizing as with
      | nil => cases as <;> rfl
      | cons q l ih => cases as <;> simp [backAs, ih]
    simp only [backAs, As.posOf]
    by_cases e : i = j
    · subst e
      simp only [if_true]
      by_cases hi : i < ρ.length
      · rw [List.getElem?_set_self (by rw [hl]; exact hi), if_pos hi]; rfl
      · rw [if_neg hi, List.getElem?_eq_none (by rw [List.length_set, hl]; omega)]
    · rw [List.getElem?_set_ne e, if_neg e, back_at (as := as) (by simpa [As.len] using h)]
      cases q : as.posOf j <;> simp
  | .dat _ as, [], j, h => by simp [As.len] at h
  | .dat _ as, p :: l, j, h => by
    simp only [backAs, As.posOf]
    rw [back_at (as := as) (by simpa [As.len] using h)]
    cases q : as.posOf j <;> simp
theorem back_len {as : As} {l : List PV} : (backAs l as ρ).length = ρ.length := by
  induction l generalizing as with
  | nil => cases as <;> rfl
  | cons q l ih => cases as <;> simp [backAs, ih]

theorem getE_some {i : Nat} {p : PV} (h : getE i ρ = some p) : ρ[i]? = some (some p) := by
  unfold getE at h
  cases e : ρ[i]? with
  | none => rw [e] at h; cases h
  | some x => rw [e] at h; simp at h; rw [h]

/-- the callee's slots -/
theorem call_env {as : As} {ps l : List PV} {vs : List V} (nd : as.ios.Nodup) (e : EnvOk R H M σ ρ F) (a : AsOk R H M σ as ps vs) (hf : fillAs ps as ρ = some l) : EnvOk R H M (vs.map some) (l.map some) (as.fp F) where
  len := by simp [fill_len a hf]
  at' := fun k p h => by
    rw [List.getElem?_map] at h
    obtain ⟨q, h, e2⟩ := Option.map_eq_some_iff.mp h
    cases e2
    obtain ⟨v, hv, c⟩ := fill_at a hf k p h
    refine ⟨v, by rw [List.getElem?_map, hv]; rfl, ?_⟩
    unfold As.fp
    rcases c with ⟨i, c1, c2, c3⟩ | ⟨c1, c2⟩
    · rw [c1]
      obtain ⟨v', d1, d2⟩ := e.at' i p (getE_some c2)
      rw [c3] at d1; cases d1
      exact d2
    · rw [c1]; exact c2
  no := fun k h => by
    unfold As.fp
    cases c : as.ioAt k with
    | none => rfl
    | some i =>
      exfalso
      have hk : k < l.length := by
        rw [fill_len a hf, asOk_len a]
        exact ioAt_lt c
      exact h l[k] (by rw [List.getElem?_map, List.getElem?_eq_getElem hk]; rfl)
  dj := fun j k a' h1 h2 => by
    unfold As.fp at h1 h2
    cases c1 : as.ioAt j with
    | none => rw [c1] at h1; cases h1
    | some i =>
      cases c2 : as.ioAt k with
      | none => rw [c2] at h2; cases h2
      | some i' =>
        rw [c1] at h1; rw [c2] at h2
        have ei := e.dj i i' a' h1 h2
        subst ei
        have p1 := at_posOf nd c1
        rw [at_posOf nd c2] at p1
        cases p1; rfl
  nd := fun k => by
    unfold As.fp
    cases c : as.ioAt k with
    | none => exact List.nodup_nil
    | some i => exact e.nd i
  tr := e.tr
theorem fp_any {as : As} : ∀ {a : Addr}, (as.fp F).any a → F.any a := fun {a} ⟨k, h⟩ => by
  unfold As.fp at h
  cases c : as.ioAt k with
  | none => rw [c] at h; cases h
  | some i => rw [c] at h; exact ⟨i, h⟩
def As.backF (as : As) (F2 F : Fp) : Fp := fun j => match as.posOf j with
  | some k => F2 k
  | none => F j
theorem fp_io {as : As} {i : Nat} {a : Addr} (h : (as.fp F).any a) (e : EnvOk R H M σ ρ F) (hi : a ∈ F i) : as.posOf i ≠ none := by
  obtain ⟨k, h⟩ := h
  unfold As.fp at h
  cases c : as.ioAt k with
  | none => rw [c] at h; cases h
  | some j =>
    rw [c] at h
    have ej := e.dj i j a hi h
    subst ej
    intro z
    exact posOf_mem z (ioAt_mem c)
/-- behind a call -/
theorem call_back {as : As} {ps l l' : List PV} {vs : List V} {p : PV} {H2 : Hp} {M2 : Mt} {F2 : Fp} (nd : as.ios.Nodup) (e : EnvOk R H M σ ρ F) (a : AsOk R H M σ as ps vs) (hf : fillAs ps as ρ = some l)
    (c : CPost R H M (as.fp F) vs l' p v H2 M2 F2 f) : EnvOk R H2 M2 σ (backAs l' as ρ) (as.backF F2 F) := by
  have e0 := call_env nd e a hf
  have hl : as.len ≤ l'.length := by
    have := c.env.len
    simp only [List.length_map] at this
    rw [this, asOk_len a]
    exact Nat.le_refl _
  have gM := gM_of e0
  have gm := gm_of e0
  refine ⟨by rw [back_len]; exact e.len, fun j q h => ?_, fun j h => ?_, fun j k b h1 h2 => ?_, fun j => ?_, c.env.tr⟩
  · rw [back_at hl] at h
    unfold As.backF
    cases cp : as.posOf j with
    | some k =>
      rw [cp] at h
      simp only at h
      split at h
      · rename_i hj
        have h' : l'[k]? = some q := by simpa using h
        obtain ⟨v2, d1, d2⟩ := c.env.at' k q (by rw [List.getElem?_map, h']; rfl)
        rw [List.getElem?_map] at d1
        obtain ⟨v3, d3, d4⟩ := Option.map_eq_some_iff.mp d1
        cases d4
        have hk : k < l.length := by
          rw [fill_len a hf, asOk_len a]
          exact ioAt_lt (posOf_at cp)
        obtain ⟨v4, g1, g2⟩ := fill_at a hf k l[k] (List.getElem?_eq_getElem hk)
        rw [d3] at g1; cases g1
        rcases g2 with ⟨i, g2, g3, g4⟩ | ⟨g2, _⟩
        · rw [posOf_at cp] at g2; cases g2
          exact ⟨_, g4, d2⟩
        · rw [posOf_at cp] at g2; cases g2
      · cases h
    | none =>
      rw [cp] at h
      obtain ⟨v2, d1, d2⟩ := e.at' j q h
      exact ⟨v2, d1, rep_stay c.mv gM gm d2 fun b hb z => fp_io z e hb cp⟩
  · unfold As.backF
    cases cp : as.posOf j with
    | some k =>
      simp only
      refine c.env.no k fun q hq => ?_
      rw [List.getElem?_map] at hq
      obtain ⟨q', hq, e2⟩ := Option.map_eq_some_iff.mp hq
      cases e2
      have hk : k < l.length := by
        rw [fill_len a hf, asOk_len a]
        exact ioAt_lt (posOf_at cp)
      obtain ⟨v4, g1, g2⟩ := fill_at a hf k l[k] (List.getElem?_eq_getElem hk)
      rcases g2 with ⟨i, g2, g3, g4⟩ | ⟨g2, _⟩
      · rw [posOf_at cp] at g2; cases g2
        have hj : j < ρ.length := (List.getElem?_eq_some_iff.mp (getE_some g3)).1
        refine h q ?_
        rw [back_at hl, cp]
        simp only [if_pos hj, hq]
      · rw [posOf_at cp] at g2; cases g2
    | none =>
      simp only
      refine e.no j fun q hq => h q ?_
      rw [back_at hl, cp]
      exact hq
  · unfold As.backF at h1 h2
    cases c1 : as.posOf j with
    | some i1 =>
      rw [c1] at h1
      cases c2 : as.posOf k with
      | some i2 =>
        rw [c2] at h2
        have ei := c.env.dj i1 i2 b h1 h2
        subst ei
        have q1 := posOf_at c1
        rw [posOf_at c2] at q1
        cases q1; rfl
      | none =>
        rw [c2] at h2
        simp only at h1 h2
        rcases c.fnew b ⟨i1, h1⟩ with z | z
        · exact absurd c2 (fp_io z e h2)
        · exact absurd z (Fp.tracked e b ⟨k, h2⟩)
    | none =>
      rw [c1] at h1
      cases c2 : as.posOf k with
      | some i2 =>
        rw [c2] at h2
        simp only at h1 h2
        rcases c.fnew b ⟨i2, h2⟩ with z | z
        · exact absurd c1 (fp_io z e h1)
        · exact absurd z (Fp.tracked e b ⟨j, h1⟩)
      | none =>
        rw [c2] at h2
        exact e.dj j k b h1 h2
  · unfold As.backF
    cases cp : as.posOf j with
    | some k => exact c.env.nd k
    | none => exact e.nd j
end
end Ev

set_option Elab.async false
set_option linter.all false
set_option maxHeartbeats 4000000
set_option autoImplicit false
namespace Ev
open PySem PySem.Spec PyProof.Rows L2
section
variable {R : RC} {H H' H1 H2 : Hp} {M M' M1 M2 : Mt} {X : Cx} {σ : L2.St} {ρ ρ1 ρ2 ρ' : Env} {F F1 F2 : Fp} {v : V} {f : List Addr} {Q : VK} {gl : Nat → PV} {cs : CS} {p : PV} {q q1 q2 va : Bool}

def Fp.drop (F : Fp) (i : Nat) : Fp := fun j => if j = i then [] else F j
def Fp.put (F : Fp) (i : Nat) (f : List Addr) : Fp := fun j => if j = i then f else F j
theorem setE_at {i j : Nat} {p q : Option PV} (h : (ρ.set i p)[j]? = some q) : (j = i ∧ q = p ∧ i < ρ.length) ∨ (j ≠ i ∧ ρ[j]? = some q) := by
  by_cases e : i = j
  · subst e
    by_cases hi : i < ρ.length
    · rw [List.getElem?_set_self hi] at h; cases h; exact .inl ⟨rfl, rfl, hi⟩
    · rw [List.getElem?_eq_none (by simpa using hi)] at h; cases h
  · rw [List.getElem?_set_ne e] at h; exact .inr ⟨fun z => e z.symm, h⟩
theorem setE_of {i j : Nat} {p q : Option PV} (h : j ≠ i) (e : ρ[j]? = some q) : (ρ.set i p)[j]? = some q := by rw [List.getElem?_set_ne (fun z => h z.symm)]; exact e
theorem drop_any {i : Nat} {a : Addr} (h : (F.drop i).any a) : F.any a := by
  obtain ⟨j, h⟩ := h
  unfold Fp.drop at h
  split at h
  · cases h
  · exact ⟨j, h⟩

/-- slot i is given away -/
theorem EnvOk.drop (e : EnvOk R H M σ ρ F) {i : Nat} : EnvOk R H M σ (ρ.set i none) (F.drop i) where
  len := by simp [e.len]
  at' := fun j p h => by
    rcases setE_at h with ⟨_, z, _⟩ | ⟨n, h⟩
    · cases z
    · obtain ⟨v, a, b⟩ := e.at' j p h
      refine ⟨v, a, ?_⟩
      unfold Fp.drop; rw [if_neg n]; exact b
  no := fun j h => by
    unfold Fp.drop
    split
    · rfl
    · rename_i n
      exact e.no j fun p q => h p (setE_of n q)
  dj := fun j k a h1 h2 => by
    unfold Fp.drop at h1 h2
    split at h1
    · cases h1
    · split at h2
      · cases h2
      · exact e.dj j k a h1 h2
  nd := fun j => by
    unfold Fp.drop
    split
    · exact List.nodup_nil
    · exact e.nd j
  tr := e.tr
def minusM (M : Mt) (f : List Addr) : Mt := fun a => M a ∧ a ∉ f
theorem Mv.less : Mv H M (fun a => a ∈ f) H (minusM M f) := ⟨fun _ _ h _ => h, fun _ h n => ⟨h, n⟩, fun _ h => .inl h.1, fun _ h => h⟩
/-- fewer are owned -/
theorem EnvOk.less (e : EnvOk R H M σ ρ F) (fm : ∀ a ∈ f, M a ∧ Mut (H a)) (d : ∀ a ∈ f, ¬ F.any a) : EnvOk R H (minusM M f) σ ρ F where
  len := e.len
  at' := fun j p h => by
    obtain ⟨v, a, b⟩ := e.at' j p h
    exact ⟨v, a, rep_stay Mv.less (fun b hb => (fm b hb).1) (fun b hb => (fm b hb).2) b fun c hc z => d c z ⟨j, hc⟩⟩
  no := e.no
  dj := e.dj
  nd := e.nd
  tr := fun a h => e.tr a h.1
/-- a slot is filled -/
theorem EnvOk.put {i : Nat} (e : EnvOk R H M σ ρ F) (hσ : σ[i]? = some (some v)) (r : Rep R H M p v f) (nd : f.Nodup) (d : ∀ a ∈ f, ∀ j, j ≠ i → a ∉ F j) : EnvOk R H M σ (ρ.set i (some p)) (F.put i f) where
  len := by simp [e.len]
  at' := fun j q h => by
    unfold Fp.put
    rcases setE_at h with ⟨n, z, _⟩ | ⟨n, h⟩
    · cases z; subst n
      rw [if_pos rfl]
      exact ⟨v, hσ, r⟩
    · rw [if_neg n]; exact e.at' j q h
  no := fun j h => by
    have hi : i < ρ.length := by rw [e.len]; exact (List.getElem?_eq_some_iff.mp hσ).1
    unfold Fp.put
    split
    · rename_i n
      subst n
      exact absurd (List.getElem?_set_self hi) (h p)
    · rename_i n
      exact e.no j fun q hq => h q (setE_of n hq)
  dj := fun j k a h1 h2 => by
    unfold Fp.put at h1 h2
    by_cases n1 : j = i
    · rw [if_pos n1] at h1
      by_cases n2 : k = i
      · rw [n1, n2]
      · rw [if_neg n2] at h2; exact absurd h2 (d a h1 k n2)
    · rw [if_neg n1] at h1
      by_cases n2 : k = i
      · rw [if_pos n2] at h2; exact absurd h1 (d a h2 j n1)
      · rw [if_neg n2] at h2; exact e.dj j k a h1 h2
  nd := fun j => by
    unfold Fp.put
    split
    · exact nd
    · exact e.nd j
  tr := e.tr
theorem EnvOk.put' {i : Nat} (e : EnvOk R H M σ ρ F) (r : Rep R H M p v f) (nd : f.Nodup) (d : ∀ a ∈ f, ∀ j, j ≠ i → a ∉ F j) (hi : i < ρ.length) : EnvOk R H M (σ.set i (some v)) (ρ.set i (some p)) (F.put i f) where
  len := by simp [e.len]
  at' := fun j q h => by
    unfold Fp.put
    rcases setE_at h with ⟨n, z, _⟩ | ⟨n, h⟩
    · cases z; subst n
      rw [if_pos rfl]
      exact ⟨v, List.getElem?_set_self (by rw [← e.len]; exact hi), r⟩
    · rw [if_neg n]
      obtain ⟨w, a, b⟩ := e.at' j q h
      exact ⟨w, by rw [List.getElem?_set_ne (Ne.symm n)]; exact a, b⟩
  no := fun j h => by
    unfold Fp.put
    split
    · rename_i n
      subst n
      exact absurd (List.getElem?_set_self hi) (h p)
    · rename_i n
      exact e.no j fun q hq => h q (setE_of n hq)
  dj := fun j k a h1 h2 => by
    unfold Fp.put at h1 h2
    by_cases n1 : j = i
    · rw [if_pos n1] at h1
      by_cases n2 : k = i
      · rw [n1, n2]
      · rw [if_neg n2] at h2; exact absurd h2 (d a h1 k n2)
    · rw [if_neg n1] at h1
      by_cases n2 : k = i
      · rw [if_pos n2] at h2; exact absurd h1 (d a h2 j n1)
      · rw [if_neg n2] at h2; exact e.dj j k a h1 h2
  nd := fun j => by
    unfold Fp.put
    split
    · exact nd
    · exact e.nd j
  tr := e.tr

/-! ### posts put together -/
theorem back_new {a : Addr} (m : Mv H M F.any H1 M1) (fn : ∀ a, F1.any a → F.any a ∨ H a = none) (h : F1.any a ∨ H1 a = none) : F.any a ∨ H a = none := by
  rcases h with h | h
  · exact fn a h
  · by_cases z : H a = none
    · exact .inr z
    · exact absurd h (m.th a z)
theorem PostT.then (e : EnvOk R H M σ ρ F) (a : PostT R H M F σ q1 ρ ρ1 H1 M1 F1) (b : PostT R H1 M1 F1 σ q2 ρ1 ρ2 H2 M2 F2) : PostT R H M F σ (q1 && q2) ρ ρ2 H2 M2 F2 where
  env := b.env
  mv := a.mv.trans b.mv a.fnew e.tr
  fnew := fun x h => back_new a.mv a.fnew (b.fnew x h)
  qt := fun h => by
    simp only [Bool.and_eq_true] at h
    obtain ⟨a1, a2, a3⟩ := a.qt h.1
    obtain ⟨b1, b2, b3⟩ := b.qt h.2
    exact ⟨b1.trans a1, b2.trans a2, a3.trans b3 (fun _ z => z.elim) e.tr⟩
theorem Post.tt (a : Post R H M F σ q va ρ ρ1 p v H1 M1 F1 f) : PostT R H M F σ q ρ ρ1 H1 M1 F1 := ⟨a.env, a.mv, a.fnew, a.qt⟩
theorem PostA.tt {l : List PV} {vs : List V} {w : List Bool} (a : PostA R H M F σ q w ρ ρ1 l vs H1 M1 F1 f) : PostT R H M F σ q ρ ρ1 H1 M1 F1 := ⟨a.env, a.mv, a.fnew, a.qt⟩
theorem PostT.post (e : EnvOk R H M σ ρ F) (a : PostT R H M F σ q1 ρ ρ1 H1 M1 F1) (b : Post R H1 M1 F1 σ q2 va ρ1 ρ2 p v H2 M2 F2 f) : Post R H M F σ (q1 && q2) va ρ ρ2 p v H2 M2 F2 f :=
  have t := a.then e b.tt
  ⟨t.env, b.rep, b.own, t.mv, t.fnew, fun x h => back_new a.mv a.fnew (b.ffr x h), t.qt⟩
theorem PostT.refl (e : EnvOk R H M σ ρ F) : PostT R H M F σ true ρ ρ H M F := ⟨e, .refl, fun _ h => .inl h, fun _ => ⟨rfl, rfl, .refl⟩⟩
theorem PostT.weak (a : PostT R H M F σ q ρ ρ1 H1 M1 F1) (h : q1 = true → q = true) : PostT R H M F σ q1 ρ ρ1 H1 M1 F1 := ⟨a.env, a.mv, a.fnew, fun z => a.qt (h z)⟩
theorem Post.weak {va' : Bool} (a : Post R H M F σ q va ρ ρ1 p v H1 M1 F1 f) (h : q1 = true → q = true) (hv : va' = false → va = false) : Post R H M F σ q1 va' ρ ρ1 p v H1 M1 F1 f :=
  ⟨a.env, a.rep, fun z => a.own (hv z), a.mv, a.fnew, a.ffr, fun z => a.qt (h z)⟩
theorem ownC {R : RC} {H' : Hp} {M' : Mt} {F' : Fp} (rep : Rep R H' M' p v f) (own : va = false → f.Nodup ∧ ∀ a ∈ f, ¬ F'.any a) (c : (!va || p.pure) = true) : f.Nodup ∧ ∀ a ∈ f, ¬ F'.any a := by
  cases va with
  | false => exact own rfl
  | true =>
    have ef := rep_pure (by simpa using c) rep
    subst ef
    exact ⟨List.nodup_nil, fun _ z => (nomatch z)⟩
/-- what was one's own is given up -/
theorem PostT.less (e : EnvOk R H M σ ρ F) (a : PostT R H M F σ q ρ ρ1 H1 M1 F1) (fm : ∀ x ∈ f, M1 x ∧ Mut (H1 x)) (d : ∀ x ∈ f, ¬ F1.any x) (fr : ∀ x ∈ f, F.any x ∨ H x = none) : PostT R H M F σ q ρ ρ1 H1 (minusM M1 f) F1 where
  env := a.env.less fm d
  mv := a.mv.trans (Mv.less (f := f)) fr e.tr
  fnew := a.fnew
  qt := fun h => by
    obtain ⟨b1, b2, b3⟩ := a.qt h
    refine ⟨b1, b2, b3.trans (Mv.less (f := f)) (fun x hx => ?_) e.tr⟩
    rcases fr x hx with z | z
    · exact absurd (b2 ▸ z) (d x hx)
    · exact .inr z
theorem Post.frz (e : EnvOk R H M σ ρ F) (a : Post R H M F σ q va ρ ρ1 p v H1 M1 F1 f) (c : (!va || p.pure) = true) : PostT R H M F σ q ρ ρ1 H1 (minusM M1 f) F1 ∧ Rep R H1 (minusM M1 f) p.frz v [] := by
  have o := ownC a.rep a.own c
  exact ⟨a.tt.less e (rep_mem a.rep) o.2 a.ffr, rep_frz a.rep fun _ z => z⟩
theorem PostT.pure (a : PostT R H M F σ q ρ ρ1 H1 M1 F1) (r : Rep R H1 M1 p v []) : Post R H M F σ q va ρ ρ1 p v H1 M1 F1 [] :=
  ⟨a.env, r, fun _ => ⟨List.nodup_nil, fun _ z => (nomatch z)⟩, a.mv, a.fnew, fun _ z => (nomatch z), a.qt⟩
theorem PostT.new (e : EnvOk R H M σ ρ F) (a : PostT R H M F σ q ρ ρ1 H1 M1 F1) {o : HO} {x : Addr} (hx : H1 x = none) (m1 : ∀ b, M1 b → M' b) (m2 : ∀ b, M' b → M1 b ∨ b = x) : PostT R H M F σ q ρ ρ1 (upd H1 x o) M' F1 := by
  have m := Mv.new (o := o) hx m1 m2
  have t : PostT R H1 M1 F1 σ true ρ1 ρ1 (upd H1 x o) M' F1 := ⟨a.env.stay m (tr_new a.env.tr m2), m.mono fun _ z => z.elim, fun _ z => .inl z, fun _ => ⟨rfl, rfl, m⟩⟩
  exact (a.then e t).weak fun z => by rw [z]; rfl

/-! ### atoms -/
theorem te_lit {g : PV} {x : V} (r : ∀ H M, Rep R H M g x []) (h : tE R true va (fun ρ => .ok g ρ) σ H Q) : Q x H := by
  obtain ⟨M, ρ, F, e, p, ρ', h1, h2⟩ := h
  cases h1
  exact h2 x H M F [] (.same e (r H M))
theorem te_rd {i : Nat} (h : tE R true va (ev gl cs (.rd i)) σ H Q) : tVar i σ H Q := by
  obtain ⟨M, ρ, F, e, p, ρ', h1, h2⟩ := h
  simp only [ev] at h1
  split at h1
  · rename_i p' hp
    split at h1
    · rename_i pp
      cases h1
      obtain ⟨v, hv, r⟩ := e.at' i p (getE_some hp)
      have ef := rep_pure pp r
      exact ⟨v, hv, h2 v H M F [] (.same e (ef ▸ r))⟩
    · cases h1
  · cases h1
theorem te_vw {i : Nat} (h : tE R true true (ev gl cs (.vw i)) σ H Q) : tVar i σ H Q := by
  obtain ⟨M, ρ, F, e, p, ρ', h1, h2⟩ := h
  simp only [ev] at h1
  split at h1
  · rename_i p' hp
    cases h1
    obtain ⟨v, hv, r⟩ := e.at' i p (getE_some hp)
    exact ⟨v, hv, h2 v H M F (F i) ⟨e, r, (fun z => nomatch z), .refl, fun _ z => .inl z, fun a z => .inl ⟨i, z⟩, fun _ => ⟨rfl, rfl, .refl⟩⟩⟩
  · cases h1
theorem te_mv {i : Nat} (h : tE R false false (ev gl cs (.mv i)) σ H Q) : tVar i σ H Q := by
  obtain ⟨M, ρ, F, e, p, ρ', h1, h2⟩ := h
  simp only [ev] at h1
  split at h1
  · rename_i p' hp
    cases h1
    obtain ⟨v, hv, r⟩ := e.at' i p (getE_some hp)
    refine ⟨v, hv, h2 v H M (F.drop i) (F i) ⟨e.drop, r, fun _ => ⟨e.nd i, fun a ha ⟨j, z⟩ => ?_⟩, .refl, fun a z => .inl (drop_any z), fun a z => .inl ⟨i, z⟩, (fun z => nomatch z)⟩⟩
    unfold Fp.drop at z
    split at z
    · cases z
    · rename_i n; exact n (e.dj j i a z ha)
  · cases h1
theorem te_fz {i : Nat} (h : tE R false false (ev gl cs (.fz i)) σ H Q) : tVar i σ H Q := by
  obtain ⟨M, ρ, F, e, p, ρ', h1, h2⟩ := h
  simp only [ev] at h1
  split at h1
  · rename_i p' hp
    cases h1
    obtain ⟨v, hv, r⟩ := e.at' i p' (getE_some hp)
    have d : ∀ a ∈ F i, ¬ (F.drop i).any a := fun a ha ⟨j, z⟩ => by
      unfold Fp.drop at z
      split at z
      · cases z
      · rename_i n; exact n (e.dj j i a z ha)
    have r' : Rep R H (minusM M (F i)) p'.frz v [] := rep_frz r fun _ z => z
    have e1 := (e.drop (i := i)).less (rep_mem r) d
    have e2 := e1.put (i := i) hv r' List.nodup_nil (fun _ z => (nomatch z))
    rw [List.set_set] at e2
    have an : ∀ a, ((F.drop i).put i []).any a → F.any a := fun a ⟨j, z⟩ => by
      unfold Fp.put at z
      split at z
      · cases z
      · exact drop_any ⟨j, z⟩
    refine ⟨v, hv, h2 v H _ _ [] ⟨e2, r', fun _ => ⟨List.nodup_nil, fun _ z => (nomatch z)⟩, (Mv.less (f := F i)).mono fun a z => ⟨i, z⟩, fun a z => .inl (an a z), fun _ z => (nomatch z), (fun z => nomatch z)⟩⟩
  · cases h1

/-! ### tests -/
theorem tt_te {g : Ev PV} {Q : Bool → Hp → Prop} (h : tT R q g σ H Q) : tE R q va g σ H fun x H1 => ∃ c, x = .bl c ∧ Q c H1 := by
  obtain ⟨M, ρ, F, e, b, ρ', h1, h2⟩ := h
  refine ⟨M, ρ, F, e, .bl b, ρ', h1, fun v H' M' F' f P => ⟨b, (rep_bl P.rep).1, h2 H' M' F' P.tt⟩⟩
theorem te_not {a : E} (h : tE R a.q va (ev gl cs (.not a)) σ H Q) : tNotV (tE R a.q a.v (ev gl cs a)) σ H Q := by
  obtain ⟨M, ρ, F, e, p, ρ', h1, h2⟩ := h
  simp only [ev] at h1
  obtain ⟨p1, ρ1, ea, h1⟩ := Res.bind_ok h1
  split at h1
  · rename_i b
    cases h1
    refine ⟨M, ρ, F, e, .bl b, ρ', ea, fun v H1 M1 F1 f1 P1 => ⟨b, (rep_bl P1.rep).1, ?_⟩⟩
    exact h2 _ H1 M1 F1 [] (P1.tt.pure .bl)
  · cases h1
theorem tt_not {a : E} {Q : Bool → Hp → Prop} (h : tT R a.q (ev gl cs (.not a)) σ H Q) : tNot (tT R a.q (ev gl cs a)) σ H Q := by
  obtain ⟨M, ρ, F, e, b, ρ', h1, h2⟩ := h
  simp only [ev] at h1
  obtain ⟨p1, ρ1, ea, h1⟩ := Res.bind_ok h1
  split at h1
  · rename_i c
    cases h1
    exact ⟨M, ρ, F, e, c, ρ', ea, fun H1 M1 F1 P1 => h2 H1 M1 F1 P1⟩
  · cases h1
theorem te_ite {c a b : E} (h : tE R (c.q && (a.q && b.q)) (a.v || b.v) (ev gl cs (.ite c a b)) σ H Q) : tIf (tT R c.q (ev gl cs c)) (tE R a.q a.v (ev gl cs a)) (tE R b.q b.v (ev gl cs b)) σ H Q := by
  obtain ⟨M, ρ, F, e, p, ρ', h1, h2⟩ := h
  simp only [ev] at h1
  obtain ⟨p1, ρ1, ec, h1⟩ := Res.bind_ok h1
  split at h1
  · refine ⟨M, ρ, F, e, true, ρ1, ec, fun H1 M1 F1 P1 => ?_⟩
    refine iteT ?_
    refine ⟨M1, ρ1, F1, P1.env, p, ρ', h1, fun v H2 M2 F2 f2 P2 => h2 v H2 M2 F2 f2 ((P1.post e P2).weak (fun z => ?_) fun z => ?_)⟩
    · simp only [Bool.and_eq_true] at z ⊢; exact ⟨z.1, z.2.1⟩
    · simp only [Bool.or_eq_false_iff] at z; exact z.1
  · refine ⟨M, ρ, F, e, false, ρ1, ec, fun H1 M1 F1 P1 => ?_⟩
    refine iteF ?_
    refine ⟨M1, ρ1, F1, P1.env, p, ρ', h1, fun v H2 M2 F2 f2 P2 => h2 v H2 M2 F2 f2 ((P1.post e P2).weak (fun z => ?_) fun z => ?_)⟩
    · simp only [Bool.and_eq_true] at z ⊢; exact ⟨z.1, z.2.2⟩
    · simp only [Bool.or_eq_false_iff] at z; exact z.2
  · cases h1
/-- the last of and, or -/
theorem te_b1 {w : Bool} {a : E} (h : tE R (a.q && true) va (evB gl cs w (.cons a .nil)) σ H Q) : tE R a.q a.v (ev gl cs a) σ H Q := by
  obtain ⟨M, ρ, F, e, p, ρ', h1, h2⟩ := h
  simp only [evB] at h1
  obtain ⟨p1, ρ1, ea, h1⟩ := Res.bind_ok h1
  split at h1
  · rename_i b
    cases h1
    refine ⟨M, ρ, F, e, .bl b, ρ', ea, fun v H1 M1 F1 f1 P1 => ?_⟩
    obtain ⟨e1, e2⟩ := rep_bl P1.rep
    subst e1; subst e2
    exact h2 _ H1 M1 F1 [] ((P1.tt.weak (fun z => by simpa using z)).pure .bl)
  · cases h1
theorem tt_b1 {w : Bool} {a : E} {Q : Bool → Hp → Prop} (h : tT R (a.q && true) (evB gl cs w (.cons a .nil)) σ H Q) : tT R a.q (ev gl cs a) σ H Q := by
  obtain ⟨M, ρ, F, e, b, ρ', h1, h2⟩ := h
  simp only [evB] at h1
  obtain ⟨p1, ρ1, ea, h1⟩ := Res.bind_ok h1
  split at h1
  · cases h1
    exact ⟨M, ρ, F, e, b, ρ', ea, fun H1 M1 F1 P1 => h2 H1 M1 F1 (P1.weak fun z => by simpa using z)⟩
  · cases h1
theorem evB_cons {w : Bool} {a b : E} {es : Es} : evB gl cs w (.cons a (.cons b es)) = fun ρ => (ev gl cs a ρ).bind fun p ρ1 => match p with
      | .bl c => if c = w then evB gl cs w (.cons b es) ρ1 else .ok (.bl c) ρ1
      | _ => .stuck := by
  first
    | (rw [evB]; done)
    | (rw [evB]; rfl)
/-- one more of and, or; w: and -/
theorem te_bc {w : Bool} {a b : E} {es : Es} (h : tE R (a.q && (Es.cons b es).q) va (evB gl cs w (.cons a (.cons b es))) σ H Q) :
    tE R a.q a.v (ev gl cs a) σ H fun x H1 => ∃ c, x = .bl c ∧ if c = w then tE R (Es.cons b es).q va (evB gl cs w (.cons b es)) σ H1 Q else Q (.bl c) H1 := by
  obtain ⟨M, ρ, F, e, p, ρ', h1, h2⟩ := h
  rw [evB_cons] at h1
  obtain ⟨p1, ρ1, ea, h1⟩ := Res.bind_ok h1
  split at h1
  · rename_i c
    refine ⟨M, ρ, F, e, .bl c, ρ1, ea, fun v H1 M1 F1 f1 P1 => ⟨c, (rep_bl P1.rep).1, ?_⟩⟩
    split at h1
    · rename_i ec
      rw [if_pos ec]
      exact ⟨M1, ρ1, F1, P1.env, p, ρ', h1, fun v H2 M2 F2 f2 P2 => h2 v H2 M2 F2 f2 (P1.tt.post e P2)⟩
    · rename_i ec
      rw [if_neg ec]
      cases h1
      exact h2 _ H1 M1 F1 [] ((P1.tt.weak fun z => by simp only [Bool.and_eq_true] at z; exact z.1).pure .bl)
  · cases h1
theorem tt_bc {w : Bool} {a b : E} {es : Es} {Q : Bool → Hp → Prop} (h : tT R (a.q && (Es.cons b es).q) (evB gl cs w (.cons a (.cons b es))) σ H Q) :
    tT R a.q (ev gl cs a) σ H fun c H1 => if c = w then tT R (Es.cons b es).q (evB gl cs w (.cons b es)) σ H1 Q else Q c H1 := by
  obtain ⟨M, ρ, F, e, r, ρ', h1, h2⟩ := h
  rw [evB_cons] at h1
  obtain ⟨p1, ρ1, ea, h1⟩ := Res.bind_ok h1
  split at h1
  · rename_i c
    refine ⟨M, ρ, F, e, c, ρ1, ea, fun H1 M1 F1 P1 => ?_⟩
    split at h1
    · rename_i ec
      rw [if_pos ec]
      exact ⟨M1, ρ1, F1, P1.env, r, ρ', h1, fun H2 M2 F2 P2 => h2 H2 M2 F2 (P1.then e P2)⟩
    · rename_i ec
      rw [if_neg ec]
      cases h1
      exact h2 H1 M1 F1 (P1.weak fun z => by simp only [Bool.and_eq_true] at z; exact z.1)
  · cases h1

/-! ### displays -/
theorem te_tup {es : Es} (h : tE R es.q va (ev gl cs (.tup es)) σ H Q) : tTupD (tA R es.q es.vs (evs gl cs es)) σ H Q := by
  obtain ⟨M, ρ, F, e, p, ρ', h1, h2⟩ := h
  simp only [ev] at h1
  obtain ⟨ps, ρ1, ea, h1⟩ := Res.bind_ok h1
  split at h1
  · rename_i c
    cases h1
    simp only [Bool.and_eq_true, lenOk, decide_eq_true_eq] at c
    refine ⟨M, ρ, F, e, ps, ρ', ea, fun xs H1 M1 F1 f1 P1 => ⟨by rw [reps_len P1.rep]; exact c.2, fun x ob hob hx => ?_⟩⟩
    have o := P1.own c.1
    have t := (P1.tt.less e (reps_mem P1.rep) o.2 P1.ffr).new e (o := .frz ob (.tup xs)) (M' := minusM M1 f1) hx (fun _ z => z) (fun _ z => .inl z)
    refine h2 _ _ _ F1 [] (t.pure (.tup (.inl (.inr ⟨ob, upd_same⟩)) (.inl ⟨ob, _, upd_same, hob⟩) ?_))
    exact reps_stay (Mv.new (o := .frz ob (.tup xs)) (M' := minusM M1 f1) hx (fun _ z => z) (fun _ z => .inl z)) (fun _ z => z.elim) (fun _ z => z.elim) (reps_frz P1.rep fun _ z => z) (fun _ z => (nomatch z))
  · cases h1
theorem te_lst {es : Es} (h : tE R es.q va (ev gl cs (.lst es)) σ H Q) : tLst (tA R es.q es.vs (evs gl cs es)) σ H Q := by
  obtain ⟨M, ρ, F, e, p, ρ', h1, h2⟩ := h
  simp only [ev] at h1
  obtain ⟨ps, ρ1, ea, h1⟩ := Res.bind_ok h1
  split at h1
  · rename_i c
    cases h1
    simp only [Bool.and_eq_true, lenOk, decide_eq_true_eq] at c
    refine ⟨M, ρ, F, e, ps, ρ', ea, fun xs H1 M1 F1 f1 P1 => ⟨by rw [reps_len P1.rep]; exact c.2, fun x hx => ?_⟩⟩
    obtain ⟨o1, o2⟩ := P1.own c.1
    have t := P1.tt.new e (o := .lst xs) (M' := plusM M1 x) hx (fun _ z => .inl z) (fun _ z => z)
    have rp := reps_stay (Mv.new (o := .lst xs) (M' := plusM M1 x) hx (fun _ z => .inl z) (fun _ z => z)) (fun _ z => z.elim) (fun _ z => z.elim) P1.rep (fun _ _ z => z)
    have nx : x ∉ f1 := fun z => freshs_of P1.rep P1.env.tr x z hx
    refine h2 _ _ _ F1 (x :: f1) ⟨t.env, .lstO upd_same (.inr rfl) rp, fun _ => ⟨List.nodup_cons.mpr ⟨nx, o1⟩, fun a ha => ?_⟩, t.mv, t.fnew, fun a ha => ?_, t.qt⟩
    · rcases List.mem_cons.mp ha with z | z
      · rw [z]; exact fun y => Fp.tracked P1.env x y hx
      · exact o2 a z
    · rcases List.mem_cons.mp ha with z | z
      · rw [z]; exact back_new P1.mv P1.fnew (.inr hx)
      · exact P1.ffr a z
  · cases h1
end
end Ev

set_option Elab.async false
set_option linter.all false
set_option maxHeartbeats 4000000
set_option autoImplicit false
namespace Ev
open PySem PySem.Spec PyProof.Rows L2
section
variable {R : RC} {H H' H1 H2 : Hp} {M M' M1 M2 : Mt} {X : Cx} {σ : L2.St} {ρ ρ1 ρ2 ρ' : Env} {F F1 F2 : Fp} {v : V} {f : List Addr} {Q : VK} {gl : Nat → PV} {cs : CS} {p : PV} {q q1 q2 va : Bool}

/-! ### calls -/
def tAs (R : RC) (q : Bool) (as : As) (g : Ev (List PV)) : TA := fun σ H Q => ∃ M ρ F, EnvOk R H M σ ρ F ∧ ∃ ps ρ', g ρ = .ok ps ρ' ∧ ∀ vs H' M' F', PostT R H M F σ q ρ ρ' H' M' F' → AsOk R H' M' σ as ps vs → Q vs H'
theorem tas_nil {Q : List V → Hp → Prop} (h : tAs R true .nil (evAs gl cs .nil) σ H Q) : Q [] H := by
  obtain ⟨M, ρ, F, e, ps, ρ', h1, h2⟩ := h
  cases h1
  exact h2 [] H M F (.refl e) ⟨rfl, rfl⟩
theorem tas_io {i : Nat} {as : As} {Q : List V → Hp → Prop} (h : tAs R (As.io i as).q (.io i as) (evAs gl cs (.io i as)) σ H Q) : tVar i σ H fun x H1 => tAs R as.q as (evAs gl cs as) σ H1 fun xs H2 => Q (x :: xs) H2 := by
  obtain ⟨M, ρ, F, e, ps, ρ', h1, h2⟩ := h
  simp only [evAs] at h1
  split at h1
  · rename_i c
    obtain ⟨pt, ρ1, ea, h1⟩ := Res.bind_ok h1
    cases h1
    obtain ⟨p, hp⟩ := Option.isSome_iff_exists.mp c
    obtain ⟨v, hv, r⟩ := e.at' i p (getE_some hp)
    refine ⟨v, hv, M, ρ, F, e, pt, ρ', ea, fun vs H1 M1 F1 P a => ?_⟩
    exact h2 (v :: vs) H1 M1 F1 (P.weak fun z => by simp [As.q] at z) ⟨_, pt, v, vs, rfl, rfl, hv, a⟩
  · cases h1
theorem tas_dat {a : E} {as : As} {Q : List V → Hp → Prop} (h : tAs R (As.dat a as).q (.dat a as) (evAs gl cs (.dat a as)) σ H Q) : tE R a.q a.v (ev gl cs a) σ H fun x H1 => tAs R as.q as (evAs gl cs as) σ H1 fun xs H2 => Q (x :: xs) H2 := by
  obtain ⟨M, ρ, F, e, ps, ρ', h1, h2⟩ := h
  simp only [evAs] at h1
  obtain ⟨p, ρ1, ea, h1⟩ := Res.bind_ok h1
  split at h1
  · rename_i c
    obtain ⟨pt, ρ2, es, h1⟩ := Res.bind_ok h1
    cases h1
    refine ⟨M, ρ, F, e, p, ρ1, ea, fun v H1 M1 F1 f1 P1 => ?_⟩
    obtain ⟨t, r⟩ := P1.frz e c
    refine ⟨_, ρ1, F1, t.env, pt, ρ', es, fun vs H2 M2 F2 P2 a2 => ?_⟩
    have r2 := rep_stay P2.mv (gM_of t.env) (gm_of t.env) r fun _ z => (nomatch z)
    exact h2 (v :: vs) H2 M2 F2 (t.then e P2) ⟨_, pt, v, vs, rfl, rfl, r2, a2⟩
  · cases h1
theorem q_ios : ∀ {as : As}, as.q = true → (∀ k, as.ioAt k = none) ∧ (∀ j, as.posOf j = none) ∧ ∀ (l : List PV) (ρ : Env), backAs l as ρ = ρ
  | .nil, _ => ⟨fun _ => rfl, fun _ => rfl, fun l ρ => by cases l <;> rfl⟩
  | .io i as, h => by simp [As.q] at h
  | .dat e as, h => by
    simp only [As.q, Bool.and_eq_true] at h
    obtain ⟨a, b, c⟩ := q_ios h.2
    refine ⟨fun k => ?_, fun j => ?_, fun l ρ => ?_⟩
    · cases k <;> simp [As.ioAt, a]
    · simp [As.posOf, b]
    · cases l with
      | nil => rfl
      | cons p l => simp [backAs, c]
theorem te_call {i n : Nat} {as : As} {io : List Nat} (nd : as.ios.Nodup) (hn : as.len = n) (hio : ∀ k ∈ as.kpos 0, k ∈ io) (h : tE R as.q va (ev gl cs (.call i as)) σ H Q) : tCall (fSp R n io (cs i)) [] E0 (tAs R as.q as (evAs gl cs as)) σ H Q := by
  obtain ⟨M, ρ, F, e, p, ρ', h1, h2⟩ := h
  simp only [ev] at h1
  obtain ⟨ps, ρ1, ea, h1⟩ := Res.bind_ok h1
  split at h1
  · cases h1
  rename_i l hl
  split at h1
  · rename_i p1 l' hc
    cases h1
    refine ⟨M, ρ, F, e, ps, ρ1, ea, fun vs H1 M1 F1 P a => ?_⟩
    dsimp only
    rw [List.append_nil]
    refine ⟨by rw [asOk_len a]; exact hn, M1, l, as.fp F1, call_env nd P.env a hl, fun k hk => ?_, p, l', hc, fun v H2 M2 F2 f2 C => ?_⟩
    · unfold As.fp
      cases z : as.ioAt k with
      | none => rfl
      | some j => exact absurd (hio k (by have := kpos_mem (j := 0) z; rwa [Nat.zero_add] at this)) hk
    have e2 := call_back nd P.env a hl C
    have m2 : Mv H1 M1 F1.any H2 M2 := C.mv.mono fun x z => fp_any z
    have dis : ∀ x ∈ f2, ¬ (as.backF F2 F1).any x := fun x hx ⟨j, z⟩ => by
      unfold As.backF at z
      cases cp : as.posOf j with
      | some k => rw [cp] at z; exact C.own.2 x hx ⟨k, z⟩
      | none =>
        rw [cp] at z
        rcases C.ffr x hx with y | y
        · exact fp_io y P.env z cp
        · exact Fp.tracked P.env x ⟨j, z⟩ y
    have fn2 : ∀ x, (as.backF F2 F1).any x → F1.any x ∨ H1 x = none := fun x ⟨j, z⟩ => by
      unfold As.backF at z
      cases cp : as.posOf j with
      | some k =>
        rw [cp] at z
        rcases C.fnew x ⟨k, z⟩ with y | y
        · exact .inl (fp_any y)
        · exact .inr y
      | none => rw [cp] at z; exact .inl ⟨j, z⟩
    have P2 : Post R H1 M1 F1 σ as.q va ρ1 (backAs l' as ρ1) p v H2 M2 (as.backF F2 F1) f2 := ⟨e2, C.rep, fun _ => ⟨C.own.1, dis⟩, m2, fn2, fun x hx => (C.ffr x hx).elim (fun y => .inl (fp_any y)) .inr, fun hq => by
      obtain ⟨a1, a2, a3⟩ := q_ios hq
      refine ⟨a3 _ _, ?_, C.mv.mono fun x ⟨k, z⟩ => ?_⟩
      · funext j
        unfold As.backF
        rw [a2]
      · unfold As.fp at z
        rw [a1] at z
        cases z⟩
    exact h2 v H2 M2 _ f2 ((P.post e P2).weak (fun z => by simp [z]) fun z => z)
  · cases h1
  · cases h1
end
end Ev

set_option Elab.async false
set_option linter.all false
set_option maxHeartbeats 4000000
set_option autoImplicit false
namespace Ev
open PySem PySem.Spec PyProof.Rows L2
section
variable {R : RC} {H H' H1 H2 Hb : Hp} {M M' M1 M2 Mb : Mt} {X : Cx} {σ σ1 σ2 : L2.St} {ρ ρ1 ρ2 ρ' ρb : Env} {F F1 F2 Fb : Fp} {v : V} {f : List Addr} {Q : VK} {gl : Nat → PV} {cs : CS} {p : PV} {q q1 q2 va : Bool} {own : List Nat} {D : Addr}

/-! ### what a loop walks -/
def ItAt (R : RC) (H : Hp) (M : Mt) (items : List PV) (G : Hp → Prop) (Y : Nat → Hp → V → Hp → Prop) : Prop :=
  ∀ (H2 : Hp) (M2 : Mt) (Gw : Addr → Prop), Mv H M Gw H2 M2 → (∀ b, Gw b → M b) → (∀ b, Gw b → Mut (H b)) → (∀ b, M2 b → H2 b ≠ none) →
    G H2 ∧ ∀ i x H3 p, items[i]? = some p → Y i H2 x H3 → Mv H2 M2 NoG H3 M2 ∧ Rep R H3 M2 p x []
theorem ItAt.move {items : List PV} {G : Hp → Prop} {Y : Nat → Hp → V → Hp → Prop} {G1 : Addr → Prop} (h : ItAt R H M items G Y) (m : Mv H M G1 H1 M1) (gM : ∀ b, G1 b → M b) (gm : ∀ b, G1 b → Mut (H b)) (tr : ∀ b, M b → H b ≠ none) : ItAt R H1 M1 items G Y := by
  intro H2 M2 Gw m2 hM hm t2
  refine h H2 M2 (fun x => G1 x ∨ (Gw x ∧ M x ∧ Mut (H x))) ((m.mono fun x z => .inl z).trans m2 (fun x z => ?_) tr) ?_ ?_ t2
  · by_cases g : G1 x
    · exact .inl (.inl g)
    · rcases m.mn x (hM x z) with y | y
      · refine .inl (.inr ⟨z, y, ?_⟩)
        have mu := hm x z
        cases e : H x with
        | none => exact absurd e (tr x y)
        | some o => rw [m.keep x o e g] at mu; exact mu
      · exact .inr y
  · rintro b (z | z)
    · exact gM b z
    · exact z.2.1
  · rintro b (z | z)
    · exact gm b z
    · exact z.2.2
def IterOk (R : RC) (H : Hp) (M : Mt) (items : List PV) (J : It) : Prop :=
  ∃ (G : Hp → Prop) (Y : Nat → Hp → V → Hp → Prop), Walk J items.length G Y ∧ ItAt R H M items G Y
def tI (R : RC) (q : Bool) (g : Ev (List PV)) : TI := fun σ H Rr => ∃ M ρ F, EnvOk R H M σ ρ F ∧ ∃ items ρ', g ρ = .ok items ρ' ∧ ∀ J H' M' F', PostT R H M F σ q ρ ρ' H' M' F' → IterOk R H' M' items J → Rr J H'

/-! ### targets -/
mutual
def T.slots : T → List Nat
  | .nm i => [i]
  | .tp ts => ts.slots
def Ts.slots : Ts → List Nat
  | .nil => []
  | .cons t ts => t.slots ++ ts.slots
end
mutual
def gT (K : PySem.W.Frag) : T → TG
  | .nm i => gName i
  | .tp ts => fun v σ H Q => gTup K ts.len (gTs K ts) v σ H Q ∨ gLst K ts.len (gTs K ts) v σ H Q
def gTs (K : PySem.W.Frag) : Ts → TGs
  | .nil => gNil
  | .cons t ts => gCons (gT K t) (gTs K ts)
end
theorem asgTs_len : ∀ {ts : Ts} {l : List PV} {ρ ρ' : Env}, asgTs ts l ρ = some ρ' → ts.len = l.length
  | .nil, [], ρ, ρ', h => rfl
  | .nil, _ :: _, ρ, ρ', h => by simp [asgTs] at h
  | .cons t ts, [], ρ, ρ', h => by simp [asgTs] at h
  | .cons t ts, p :: l, ρ, ρ', h => by
    simp only [asgTs] at h
    split at h
    · show ts.len + 1 = l.length + 1
      rw [asgTs_len h]
    · cases h
theorem put_any {i : Nat} {a : Addr} (h : (F.put i f).any a) : F.any a ∨ a ∈ f := by
  obtain ⟨j, h⟩ := h
  unfold Fp.put at h
  split at h
  · exact .inr h
  · exact .inl ⟨j, h⟩
mutual
theorem asg_ok : ∀ {t : T} {p : PV} {v : V} {f : List Addr} {σ : L2.St} {ρ ρ' : Env} {F : Fp} {Qs : L2.St → Hp → Prop}, EnvOk R H M σ ρ F → Rep R H M p v f → f.Nodup → (∀ a ∈ f, ¬ F.any a) → asgT t p ρ = some ρ' →
    (∀ σ' F', EnvOk R H M σ' ρ' F' → (∀ a, F'.any a → F.any a ∨ a ∈ f) → (∀ j, j ∉ t.slots → σ'[j]? = σ[j]? ∧ F' j = F j) → σ'.length = σ.length → (f = [] → ∀ j ∈ t.slots, F' j = []) → Qs σ' H) → gT R.K t v σ H Qs
  | .nm i, p, v, f, σ, ρ, ρ', F, Qs, e, r, nd, d, ha, k => by
    simp only [asgT] at ha
    split at ha
    · rename_i hi
      cases ha
      refine k _ _ (e.put' (i := i) r nd (fun a ha j _ z => d a ha ⟨j, z⟩) hi) (fun a z => put_any z) (fun j hj => ?_) (by rw [List.length_set]) (fun z j hj => ?_)
      · simp only [T.slots, List.mem_singleton] at hj
        unfold Fp.put
        rw [if_neg hj, List.getElem?_set_ne (fun z => hj z.symm)]
        exact ⟨rfl, rfl⟩
      · simp only [T.slots, List.mem_singleton] at hj
        unfold Fp.put; rw [if_pos hj]; exact z
    · cases ha
  | .tp ts, p, v, f, σ, ρ, ρ', F, Qs, e, r, nd, d, ha, k => by
    simp only [asgT] at ha
    split at ha
    · rename_i l hl
      have go : ∀ xs, Reps R H M l xs [] → xs.length = ts.len ∧ gTs R.K ts xs σ H Qs := fun xs hr => by
        refine ⟨by rw [reps_len hr, asgTs_len ha], ?_⟩
        exact asgs_ok e hr ha fun σ' F' e3 a3 n3 l3 z3 => k σ' F' e3 (fun a z => .inl (a3 a z)) n3 l3 fun _ => z3
      unfold unpk at hl
      split at hl
      · cases hl
        obtain ⟨a, xs, e1, h2, h3, h4⟩ := rep_tup r
        exact .inl ⟨a, xs, e1, h2, go xs h3⟩
      · cases hl
        obtain ⟨a, xs, e1, h2, h3, h4⟩ := rep_wtp r
        exact .inl ⟨a, xs, e1, h2, go xs h3⟩
      · obtain ⟨c, hl⟩ := need_some hl
        cases hl
        obtain ⟨a, xs, g, e1, h2, h3, _⟩ := rep_lst r
        have eg := reps_pure c h3
        subst eg
        exact .inr ⟨a, xs, e1, SqL.of h2, go xs h3⟩
      · cases hl
    · cases ha
theorem asgs_ok : ∀ {ts : Ts} {l : List PV} {xs : List V} {σ : L2.St} {ρ ρ' : Env} {F : Fp} {Qs : L2.St → Hp → Prop}, EnvOk R H M σ ρ F → Reps R H M l xs [] → asgTs ts l ρ = some ρ' →
    (∀ σ' F', EnvOk R H M σ' ρ' F' → (∀ a, F'.any a → F.any a) → (∀ j, j ∉ ts.slots → σ'[j]? = σ[j]? ∧ F' j = F j) → σ'.length = σ.length → (∀ j ∈ ts.slots, F' j = []) → Qs σ' H) → gTs R.K ts xs σ H Qs
  | .nil, [], xs, σ, ρ, ρ', F, Qs, e, r, ha, k => by
    cases ha
    exact ⟨(reps_nil r).1, k σ F e (fun _ z => z) (fun _ _ => ⟨rfl, rfl⟩) rfl (fun _ z => (nomatch z))⟩
  | .nil, _ :: _, xs, σ, ρ, ρ', F, Qs, e, r, ha, k => by simp [asgTs] at ha
  | .cons t ts, [], xs, σ, ρ, ρ', F, Qs, e, r, ha, k => by simp [asgTs] at ha
  | .cons t ts, p :: l, xs, σ, ρ, ρ', F, Qs, e, r, ha, k => by
    obtain ⟨x, xr, f1, f2, e1, h1, h2, e2⟩ := reps_cons r
    obtain ⟨z1, z2⟩ := nil_of_append e2
    subst z1; subst z2
    simp only [asgTs] at ha
    split at ha
    · rename_i ρ1 h3
      refine ⟨x, xr, e1, asg_ok e h1 List.nodup_nil (fun _ z => (nomatch z)) h3 fun σ1 F1 en1 a1 n1 l1 y1 => ?_⟩
      refine asgs_ok en1 h2 ha fun σ2 F2 en2 a2 n2 l2 y2 => k σ2 F2 en2 (fun a z => (a1 a (a2 a z)).elim (fun w => w) fun w => (nomatch w)) (fun j hj => ?_) (l2.trans l1) fun j hj => ?_
      · simp only [Ts.slots, List.mem_append, not_or] at hj
        exact ⟨(n2 j hj.2).1.trans (n1 j hj.1).1, (n2 j hj.2).2.trans (n1 j hj.1).2⟩
      · by_cases q : j ∈ ts.slots
        · exact y2 j q
        · simp only [Ts.slots, List.mem_append] at hj
          rw [(n2 j q).2]
          exact y1 rfl j (hj.resolve_right q)
    · cases ha
end

/-! ### the slots of a comprehension -/
theorem wipeE_length : ∀ (ρ : Env) (own : List Nat), (wipeE ρ own).length = ρ.length
  | ρ, [] => rfl
  | ρ, v :: vs => by unfold wipeE; rw [List.length_set, wipeE_length ρ vs]
theorem wipe_at : ∀ {σ : L2.St} {own : List Nat} {j : Nat}, (wipe σ own)[j]? = if j ∈ own then (if j < σ.length then some none else none) else σ[j]?
  | σ, [], j => by simp [wipe]
  | σ, v :: vs, j => by
    unfold wipe
    by_cases h : v = j
    · subst h
      by_cases hv : v < σ.length
      · rw [List.getElem?_set_self (by rw [wipe_length]; exact hv)]; simp [hv]
      · rw [List.getElem?_eq_none (by rw [List.length_set, wipe_length]; omega)]; simp [hv]
    · rw [List.getElem?_set_ne h, wipe_at (σ := σ) (own := vs)]
      have : (j ∈ v :: vs) ↔ j ∈ vs := by simp; exact fun z => absurd z.symm h
      simp only [this]
theorem wipeE_at : ∀ {ρ : Env} {own : List Nat} {j : Nat}, (wipeE ρ own)[j]? = if j ∈ own then (if j < ρ.length then some none else none) else ρ[j]?
  | σ, [], j => by simp [wipeE]
  | σ, v :: vs, j => by
    unfold wipeE
    by_cases h : v = j
    · subst h
      by_cases hv : v < σ.length
      · rw [List.getElem?_set_self (by rw [wipeE_length]; exact hv)]; simp [hv]
      · rw [List.getElem?_eq_none (by rw [List.length_set, wipeE_length]; omega)]; simp [hv]
    · rw [List.getElem?_set_ne h, wipeE_at (ρ := σ) (own := vs)]
      have : (j ∈ v :: vs) ↔ j ∈ vs := by simp; exact fun z => absurd z.symm h
      simp only [this]
theorem backE_length : ∀ (ρ0 ρ : Env) (own : List Nat), (backE ρ0 ρ own).length = ρ.length
  | ρ0, ρ, [] => rfl
  | ρ0, ρ, v :: vs => by unfold backE; rw [List.length_set, backE_length ρ0 ρ vs]
theorem backE_at : ∀ {ρ0 ρ : Env} {own : List Nat} {j : Nat}, (backE ρ0 ρ own)[j]? = if j ∈ own then (if j < ρ.length then some ((ρ0[j]?).bind id) else none) else ρ[j]?
  | ρ0, σ, [], j => by simp [backE]
  | ρ0, σ, v :: vs, j => by
    unfold backE
    by_cases h : v = j
    · subst h
      by_cases hv : v < σ.length
      · rw [List.getElem?_set_self (by rw [backE_length]; exact hv)]; simp [hv]
      · rw [List.getElem?_eq_none (by rw [List.length_set, backE_length]; omega)]; simp [hv]
    · rw [List.getElem?_set_ne h, backE_at (ρ := σ) (own := vs)]
      have : (j ∈ v :: vs) ↔ j ∈ vs := by simp; exact fun z => absurd z.symm h
      simp only [this]
def Fp.wipe (F : Fp) (own : List Nat) : Fp := fun j => if j ∈ own then [] else F j
theorem fwipe_any {a : Addr} (h : (F.wipe own).any a) : F.any a := by
  obtain ⟨j, h⟩ := h
  unfold Fp.wipe at h
  split at h
  · cases h
  · exact ⟨j, h⟩
theorem EnvOk.wipe (e : EnvOk R H M σ ρ F) : EnvOk R H M (wipe σ own) (wipeE ρ own) (F.wipe own) where
  len := by rw [wipeE_length, wipe_length]; exact e.len
  at' := fun j p h => by
    rw [wipeE_at] at h
    split at h
    · split at h <;> cases h
    · rename_i n
      obtain ⟨v, a, b⟩ := e.at' j p h
      refine ⟨v, by rw [wipe_at, if_neg n]; exact a, ?_⟩
      unfold Fp.wipe; rw [if_neg n]; exact b
  no := fun j h => by
    unfold Fp.wipe
    split
    · rfl
    · rename_i n
      refine e.no j fun p q => h p ?_
      rw [wipeE_at, if_neg n]; exact q
  dj := fun j k a h1 h2 => by
    unfold Fp.wipe at h1 h2
    split at h1
    · cases h1
    · split at h2
      · cases h2
      · exact e.dj j k a h1 h2
  nd := fun j => by
    unfold Fp.wipe
    split
    · exact List.nodup_nil
    · exact e.nd j
  tr := e.tr
theorem wipe_eq {σ σ' : L2.St} (h : ∀ j, j ∉ own → σ'[j]? = σ[j]?) (hl : σ'.length = σ.length) : L2.wipe σ' own = L2.wipe σ own := by
  apply List.ext_getElem?
  intro j
  rw [wipe_at, wipe_at, hl]
  by_cases c : j ∈ own
  · simp [c]
  · simp [c, h j c]
theorem wipeE_eq {ρ ρ' : Env} (h : ∀ j, j ∉ own → ρ'[j]? = ρ[j]?) (hl : ρ'.length = ρ.length) : wipeE ρ' own = wipeE ρ own := by
  apply List.ext_getElem?
  intro j
  rw [wipeE_at, wipeE_at, hl]
  by_cases c : j ∈ own
  · simp [c]
  · simp [c, h j c]
theorem wipeE_wipeE (ρ : Env) (own : List Nat) : wipeE (wipeE ρ own) own = wipeE ρ own := by
  refine wipeE_eq (fun j h => ?_) (wipeE_length _ _)
  rw [wipeE_at, if_neg h]
theorem plain_fp (e : EnvOk R H M σ ρ F) (h : plainOwn ρ own = true) : ∀ i ∈ own, F i = [] := fun i hi => by
  have c := List.all_eq_true.mp h i hi
  by_cases z : ∃ p, ρ[i]? = some (some p)
  · obtain ⟨p, z⟩ := z
    have g : getE i ρ = some p := by unfold getE; rw [z]; rfl
    rw [g] at c
    obtain ⟨v, _, r⟩ := e.at' i p z
    exact rep_pure c r
  · exact e.no i fun p q => z ⟨p, q⟩
theorem fwipe_id (h : ∀ i ∈ own, F i = []) : F.wipe own = F := by
  funext j
  unfold Fp.wipe
  split
  · rename_i c; rw [h j c]
  · rfl
mutual
theorem asgT_length : ∀ {t : T} {p : PV} {ρ ρ' : Env}, asgT t p ρ = some ρ' → ρ'.length = ρ.length
  | .nm i, p, ρ, ρ', h => by
    simp only [asgT] at h
    split at h
    · cases h; simp
    · cases h
  | .tp ts, p, ρ, ρ', h => by
    simp only [asgT] at h
    split at h
    · exact asgTs_length h
    · cases h
theorem asgTs_length : ∀ {ts : Ts} {l : List PV} {ρ ρ' : Env}, asgTs ts l ρ = some ρ' → ρ'.length = ρ.length
  | .nil, [], ρ, ρ', h => by cases h; rfl
  | .nil, _ :: _, ρ, ρ', h => by simp [asgTs] at h
  | .cons t ts, [], ρ, ρ', h => by simp [asgTs] at h
  | .cons t ts, p :: l, ρ, ρ', h => by
    simp only [asgTs] at h
    split at h
    · rename_i h1
      exact (asgTs_length h).trans (asgT_length h1)
    · cases h
end
mutual
theorem asgT_out : ∀ {t : T} {p : PV} {ρ ρ' : Env}, asgT t p ρ = some ρ' → ∀ j, j ∉ t.slots → ρ'[j]? = ρ[j]?
  | .nm i, p, ρ, ρ', h, j, hj => by
    simp only [asgT] at h
    split at h
    · cases h
      simp only [T.slots, List.mem_singleton] at hj
      rw [List.getElem?_set_ne (fun z => hj z.symm)]
    · cases h
  | .tp ts, p, ρ, ρ', h, j, hj => by
    simp only [asgT] at h
    split at h
    · exact asgTs_out h j hj
    · cases h
theorem asgTs_out : ∀ {ts : Ts} {l : List PV} {ρ ρ' : Env}, asgTs ts l ρ = some ρ' → ∀ j, j ∉ ts.slots → ρ'[j]? = ρ[j]?
  | .nil, [], ρ, ρ', h, j, hj => by cases h; rfl
  | .nil, _ :: _, ρ, ρ', h, j, hj => by simp [asgTs] at h
  | .cons t ts, [], ρ, ρ', h, j, hj => by simp [asgTs] at h
  | .cons t ts, p :: l, ρ, ρ', h, j, hj => by
    simp only [asgTs] at h
    split at h
    · rename_i h1
      simp only [Ts.slots, List.mem_append, not_or] at hj
      exact (asgTs_out h j hj.2).trans (asgT_out h1 j hj.1)
    · cases h
end
/-! ### a comprehension under way: D the new list, ps what it holds -/
structure LP (R : RC) (Hb : Hp) (Mb : Mt) (Fb : Fp) (ρb : Env) (own : List Nat) (D : Addr) (q : Bool) (σ : L2.St) (ρ : Env) (ps : List PV) (H : Hp) (M : Mt) (F : Fp) : Prop where
  env : EnvOk R H M σ ρ F
  new : ∃ ys fa, H D = some (.lst ys) ∧ M D ∧ Reps R H M ps ys fa ∧ (D :: fa).Nodup ∧ (∀ a ∈ D :: fa, ¬ F.any a) ∧ ∀ a ∈ fa, Fb.any a ∨ Hb a = none
  mv : Mv Hb Mb Fb.any H M
  fnew : ∀ a, F.any a → Fb.any a ∨ Hb a = none
  qt : q = true → wipeE ρ own = wipeE ρb own ∧ F = Fb ∧ Mv Hb Mb NoG H M
  db : Hb D = none
theorem LP.move {ps : List PV} (l : LP R Hb Mb Fb ρb own D q σ ρ ps H M F) (tb : ∀ a, Mb a → Hb a ≠ none) (P : PostT R H M F σ q1 ρ ρ1 H1 M1 F1) (hq : q = true → q1 = true) : LP R Hb Mb Fb ρb own D q σ ρ1 ps H1 M1 F1 := by
  obtain ⟨ys, fa, a1, a2, a3, a4, a5, a6⟩ := l.new
  have gM := gM_of l.env
  have gm := gm_of l.env
  have nd : ∀ a ∈ D :: fa, ¬ F1.any a := fun a ha z => by
    rcases P.fnew a z with y | y
    · exact a5 a ha y
    · rcases List.mem_cons.mp ha with w | w
      · rw [w] at y; exact l.env.tr D a2 y
      · exact freshs_of a3 l.env.tr a w y
  refine ⟨P.env, ⟨ys, fa, P.mv.keep D _ a1 (a5 D (by simp)), P.mv.mm D a2 (a5 D (by simp)), reps_stay P.mv gM gm a3 fun a ha => a5 a (by simp [ha]), a4, nd, a6⟩, l.mv.trans P.mv l.fnew tb, fun a z => back_new l.mv l.fnew (P.fnew a z), fun z => ?_, l.db⟩
  obtain ⟨b1, b2, b3⟩ := l.qt z
  obtain ⟨c1, c2, c3⟩ := P.qt (hq z)
  exact ⟨by rw [c1, b1], c2.trans b2, b3.trans c3 (fun _ z => z.elim) tb⟩
/-- the new list takes one more -/
theorem LP.app {ps : List PV} (l : LP R Hb Mb Fb ρb own D q σ ρ ps H M F) (tb : ∀ a, Mb a → Hb a ≠ none) (P : Post R H M F σ q1 va ρ ρ1 p v H1 M1 F1 f) (hq : q = true → q1 = true) (c : (!va || p.pure) = true) :
    ∃ ys, H1 D = some (.lst ys) ∧ ys.length = ps.length ∧ Mv H1 M1 (fun a => a = D) (upd H1 D (.lst (ys ++ [v]))) M1 ∧ M1 D ∧ LP R Hb Mb Fb ρb own D q σ ρ1 (ps ++ [p]) (upd H1 D (.lst (ys ++ [v]))) M1 F1 := by
  have l1 := l.move tb P.tt hq
  obtain ⟨ys, fa, a1, a2, a3, a4, a5, a6⟩ := l1.new
  obtain ⟨o1, o2⟩ := ownC P.rep P.own c
  obtain ⟨ys0, fa0, b1, b2, b3, b4, b5, b6⟩ := l.new
  have hy : ys0 = ys := by
    have := P.mv.keep D _ b1 (b5 D (by simp))
    rw [a1] at this
    injection this with h; injection h with h; exact h.symm
  have hD : H D ≠ none := by rw [b1]; simp
  -- D does not stand in the new value
  have nD : D ∉ f := fun z => by
    rcases P.ffr D z with y | y
    · exact b5 D (by simp) y
    · exact hD y
  have mu : Mv H1 M1 (fun a => a = D) (upd H1 D (.lst (ys ++ [v]))) M1 := ⟨fun a o e n => by rw [upd_ne n]; exact e, fun _ h _ => h, fun _ h => .inl h, fun a h => by
    by_cases e : a = D
    · rw [e, upd_same]; simp
    · rw [upd_ne e]; exact h⟩
  have gM : ∀ b, b = D → M1 b := fun b e => by rw [e]; exact a2
  have gm : ∀ b, b = D → Mut (H1 b) := fun b e => by rw [e, a1]; trivial
  have tr' : ∀ a, M1 a → upd H1 D (.lst (ys ++ [v])) a ≠ none := fun a h => mu.th a (l1.env.tr a h)
  have env' : EnvOk R (upd H1 D (.lst (ys ++ [v]))) M1 σ ρ1 F1 := ⟨l1.env.len, fun i p h => by
      obtain ⟨w, d1, d2⟩ := l1.env.at' i p h
      exact ⟨w, d1, rep_stay mu gM gm d2 fun a ha z => a5 D (by simp) ⟨i, z ▸ ha⟩⟩, l1.env.no, l1.env.dj, l1.env.nd, tr'⟩
  have DH : Hb D = none ∨ Hb D ≠ none := by by_cases z : Hb D = none; exact .inl z; exact .inr z
  -- the earlier ones and the new one are apart
  have ap : ∀ a ∈ fa0, a ∉ f := fun a ha z => by
    rcases P.ffr a z with y | y
    · exact b5 a (by simp [ha]) y
    · exact freshs_of b3 l.env.tr a ha y
  have r0 : Reps R H1 M1 ps ys fa0 := by
    rw [← hy]
    exact reps_stay P.mv (gM_of l.env) (gm_of l.env) b3 fun a ha => b5 a (by simp [ha])
  have rep2 : Reps R (upd H1 D (.lst (ys ++ [v]))) M1 (ps ++ [p]) (ys ++ [v]) (fa0 ++ (f ++ [])) := by
    refine reps_append (reps_stay mu gM gm r0 fun a ha z => ?_) (.cons (rep_stay mu gM gm P.rep fun a ha z => nD (z ▸ ha)) .nil)
    exact (List.nodup_cons.mp b4).1 (z ▸ ha)
  refine ⟨ys, a1, by rw [← hy]; exact reps_len b3, mu, a2, env', ⟨ys ++ [v], fa0 ++ (f ++ []), upd_same, a2, rep2, ?_, fun a ha => ?_, fun a ha => ?_⟩, l1.mv.trans mu (fun x e => .inr (e ▸ l.db)) tb, l1.fnew, fun z => ?_, l.db⟩
  · rw [List.append_nil]
    refine List.nodup_cons.mpr ⟨fun z => ?_, List.nodup_append.mpr ⟨(List.nodup_cons.mp b4).2, o1, fun a ha b hb e => ap a ha (e ▸ hb)⟩⟩
    rcases List.mem_append.mp z with z | z
    · exact (List.nodup_cons.mp b4).1 z
    · exact nD z
  · rw [List.append_nil] at ha
    rcases List.mem_cons.mp ha with z | z
    · rw [z]; exact a5 D (by simp)
    · rcases List.mem_append.mp z with z | z
      · intro y
        rcases P.fnew a y with w | w
        · exact b5 a (by simp [z]) w
        · exact freshs_of b3 l.env.tr a z w
      · exact o2 a z
  · rw [List.append_nil] at ha
    rcases List.mem_append.mp ha with z | z
    · exact b6 a z
    · exact back_new l.mv l.fnew (P.ffr a z)
  · obtain ⟨c1, c2, c3⟩ := l1.qt z
    exact ⟨c1, c2, c3.trans mu (fun x e => .inr (e ▸ l.db)) tb⟩
/-- at the start -/
theorem LP.start (e : EnvOk R Hb Mb σ ρb Fb) (ho : ∀ i ∈ own, Fb i = []) (hD : Hb D = none) : LP R Hb Mb Fb ρb own D q (wipe σ own) (wipeE ρb own) [] (upd Hb D (.lst [])) (plusM Mb D) Fb := by
  have m : Mv Hb Mb NoG (upd Hb D (.lst [])) (plusM Mb D) := Mv.new hD (fun _ z => .inl z) (fun _ z => z)
  have e1 := (e.wipe (own := own)).stay m (tr_new e.tr fun _ z => z)
  rw [fwipe_id ho] at e1
  exact ⟨e1, ⟨[], [], upd_same, .inr rfl, .nil, by simp, fun a ha z => by
    have : a = D := by simpa using ha
    rw [this] at z
    exact Fp.tracked e D z hD, fun _ z => (nomatch z)⟩, m.mono fun _ z => z.elim, fun _ z => .inl z, fun _ => ⟨wipeE_wipeE _ _, rfl, m⟩, hD⟩
/-- a new turn: the own slots (or some of them) are wiped -/
theorem LP.wipe {ps : List PV} {σ0 : L2.St} {o2 : List Nat} (l : LP R Hb Mb Fb ρb own D q σ ρ ps H M F) (hs : L2.wipe σ o2 = L2.wipe σ0 o2) (ho : ∀ i ∈ own, Fb i = []) (h2 : ∀ i ∈ o2, i ∈ own) : LP R Hb Mb Fb ρb own D q (L2.wipe σ0 o2) (wipeE ρ o2) ps H M (F.wipe o2) := by
  obtain ⟨ys, fa, a1, a2, a3, a4, a5, a6⟩ := l.new
  rw [← hs]
  refine ⟨l.env.wipe, ⟨ys, fa, a1, a2, a3, a4, fun a ha z => a5 a ha (fwipe_any z), a6⟩, l.mv, fun a z => l.fnew a (fwipe_any z), fun z => ?_, l.db⟩
  obtain ⟨c1, c2, c3⟩ := l.qt z
  refine ⟨?_, by rw [c2]; exact fwipe_id fun i hi => ho i (h2 i hi), c3⟩
  rw [← c1]
  exact wipeE_eq (fun j hj => by rw [wipeE_at, if_neg fun z => hj (h2 j z)]) (wipeE_length _ _)
/-- the turn's item is stored -/
theorem LP.asg {ps : List PV} {t : T} {x : V} {H3 : Hp} {Qs : L2.St → Hp → Prop} (l : LP R Hb Mb Fb ρb own D q σ ρ ps H M F) (tb : ∀ a, Mb a → Hb a ≠ none) (ho : ∀ i ∈ own, Fb i = [])
    (ht : ∀ i ∈ t.slots, i ∈ own) (m : Mv H M NoG H3 M) (r : Rep R H3 M p x []) (ha : asgT t p ρ = some ρ1)
    (k : ∀ σ2 F2, (∀ j, j ∉ t.slots → σ2[j]? = σ[j]?) → σ2.length = σ.length → LP R Hb Mb Fb ρb own D q σ2 ρ1 ps H3 M F2 → Qs σ2 H3) : gT R.K t x σ H3 Qs := by
  have tr3 : ∀ a, M a → H3 a ≠ none := fun a h => m.th a (l.env.tr a h)
  have l1 := l.move tb (q1 := true) ⟨l.env.stay m tr3, m.mono fun _ z => z.elim, fun _ z => .inl z, fun _ => ⟨rfl, rfl, m⟩⟩ (fun _ => rfl)
  refine asg_ok l1.env r List.nodup_nil (fun _ z => (nomatch z)) ha fun σ2 F2 e2 an out len zz => ?_
  refine k σ2 F2 (fun j hj => (out j hj).1) len ?_
  obtain ⟨ys, fa, a1, a2, a3, a4, a5, a6⟩ := l1.new
  have an' : ∀ a, F2.any a → F.any a := fun a z => by
    rcases an a z with y | y
    · exact y
    · cases y
  refine ⟨e2, ⟨ys, fa, a1, a2, a3, a4, fun a ha z => a5 a ha (an' a z), a6⟩, l1.mv, fun a z => l1.fnew a (an' a z), fun z => ?_, l.db⟩
  obtain ⟨c1, c2, c3⟩ := l1.qt z
  refine ⟨?_, ?_, c3⟩
  · rw [← c1]
    exact wipeE_eq (fun j hj => asgT_out ha j fun z => hj (ht j z)) (asgT_length ha)
  · funext j
    by_cases hj : j ∈ t.slots
    · rw [zz rfl j hj, ho j (ht j hj)]
    · rw [(out j hj).2, c2]
theorem wipe_out' {σ2 : L2.St} {t : T} (h : ∀ j, j ∉ t.slots → σ2[j]? = (L2.wipe σ own)[j]?) (hl : σ2.length = (L2.wipe σ own).length) (ht : ∀ i ∈ t.slots, i ∈ own) : L2.wipe σ2 own = L2.wipe σ own := by
  refine wipe_eq (fun j hj => ?_) (by rw [hl, wipe_length])
  rw [h j fun z => hj (ht j z), wipe_at, if_neg hj]
/-- the end: the own slots as they were -/
theorem LP.done {ps : List PV} (e : EnvOk R Hb Mb σ ρb Fb) (hp : plainOwn ρb own = true) (l : LP R Hb Mb Fb ρb own D q (L2.wipe σ own) (wipeE ρ own) ps H M F) :
    ∃ f, Post R Hb Mb Fb σ q false ρb (backE ρb ρ own) (.lst true ps) (.ref D) H M F f := by
  obtain ⟨ys, fa, a1, a2, a3, a4, a5, a6⟩ := l.new
  have hlen : ρ.length = σ.length := by
    have := l.env.len
    rw [wipeE_length, wipe_length] at this; exact this
  have hF : ∀ i ∈ own, F i = [] := fun i hi => l.env.no i fun p z => by
    rw [wipeE_at, if_pos hi] at z
    split at z <;> cases z
  have gM := gM_of e
  have gm := gm_of e
  refine ⟨D :: fa, ⟨⟨by rw [backE_length]; exact hlen, fun i p h => ?_, fun i h => ?_, l.env.dj, l.env.nd, l.env.tr⟩, .lstO a1 a2 a3, fun _ => ⟨a4, a5⟩, l.mv, l.fnew, fun a ha => ?_, fun z => ?_⟩⟩
  · rw [backE_at] at h
    split at h
    · rename_i c
      split at h
      · rename_i c2
        have h' : (ρb[i]?).bind id = some p := by simpa using h
        have g := getE_some h'
        obtain ⟨w, b1, b2⟩ := e.at' i p g
        have pp : p.pure = true := by
          have := List.all_eq_true.mp hp i c
          rw [show getE i ρb = some p from h'] at this; exact this
        have ef := rep_pure pp b2
        rw [ef] at b2
        rw [hF i c]
        exact ⟨w, b1, rep_stay l.mv gM gm b2 fun _ z => (nomatch z)⟩
      · cases h
    · rename_i c
      obtain ⟨w, b1, b2⟩ := l.env.at' i p (by rw [wipeE_at, if_neg c]; exact h)
      rw [wipe_at, if_neg c] at b1
      exact ⟨w, b1, b2⟩
  · by_cases c : i ∈ own
    · exact hF i c
    · refine l.env.no i fun p z => h p ?_
      rw [wipeE_at, if_neg c] at z
      rw [backE_at, if_neg c]; exact z
  · rcases List.mem_cons.mp ha with z | z
    · rw [z]; exact .inr l.db
    · exact a6 a z
  · obtain ⟨c1, c2, c3⟩ := l.qt z
    refine ⟨?_, c2, c3⟩
    rw [wipeE_wipeE] at c1
    apply List.ext_getElem?
    intro j
    have hl2 : ρ.length = ρb.length := by rw [hlen, e.len]
    rw [backE_at]
    split
    · rename_i c
      split
      · rename_i c2
        have hj : j < ρb.length := by omega
        rw [List.getElem?_eq_getElem hj]; rfl
      · rw [List.getElem?_eq_none (by omega)]
    · rename_i c
      have := congrArg (fun x : Env => x[j]?) c1
      rw [wipeE_at, wipeE_at, if_neg c, if_neg c] at this
      exact this
end
end Ev

set_option Elab.async false
set_option linter.all false
set_option maxHeartbeats 4000000
set_option autoImplicit false
namespace Ev
open PySem PySem.Spec PyProof.Rows L2
section
variable {R : RC} {H H' H1 H2 Hb : Hp} {M M' M1 M2 Mb : Mt} {X : Cx} {σ σ1 σ2 : L2.St} {ρ ρ1 ρ2 ρ' ρb : Env} {F F1 F2 Fb : Fp} {v : V} {f : List Addr} {Q : VK} {gl : Nat → PV} {cs : CS} {p : PV} {q q1 q2 va : Bool} {own : List Nat} {D : Addr}

theorem eltEv_ok {w : Bool} {g : Ev PV} {ps : List PV} (h : eltEv w g ρ = .ok ps ρ') : ∃ p, g ρ = .ok p ρ' ∧ ps = [p] ∧ (!w || p.pure) = true := by
  obtain ⟨p, ρ1, e, h⟩ := Res.bind_ok h
  split at h
  · rename_i c; cases h; exact ⟨p, e, rfl, c⟩
  · cases h
theorem lcLoop_cons {asg : PV → Env → Option Env} {cnd : Ev PV} {elt : Ev (List PV)} {x : PV} {xs : List PV} {ps : List PV} (h : lcLoop own asg cnd elt (x :: xs) ρ = .ok ps ρ') :
    ∃ ρ1 b ρ2, asg x (wipeE ρ own) = some ρ1 ∧ cnd ρ1 = .ok (.bl b) ρ2 ∧ (b = true → ∃ p ρ3 r, elt ρ2 = .ok p ρ3 ∧ lcLoop own asg cnd elt xs ρ3 = .ok r ρ' ∧ ps = p ++ r) ∧ (b = false → lcLoop own asg cnd elt xs ρ2 = .ok ps ρ') := by
  unfold lcLoop at h
  split at h
  · cases h
  · rename_i ρ1 ea
    obtain ⟨pb, ρ2, ec, h⟩ := Res.bind_ok h
    split at h
    · obtain ⟨p, ρ3, ee, h⟩ := Res.bind_ok h
      obtain ⟨r, ρ4, el, h⟩ := Res.bind_ok h
      cases h
      exact ⟨ρ1, true, ρ2, ea, ec, fun _ => ⟨p, ρ3, r, ee, el, rfl⟩, (fun z => nomatch z)⟩
    · exact ⟨ρ1, false, ρ2, ea, ec, (fun z => nomatch z), fun _ => h⟩
    · cases h
theorem lcLoop_len {asg : PV → Env → Option Env} {cnd : Ev PV} {w : Bool} {g : Ev PV} : ∀ {xs : List PV} {ρ ρ' : Env} {ps : List PV}, lcLoop own asg cnd (eltEv w g) xs ρ = .ok ps ρ' → ps.length ≤ xs.length
  | [], ρ, ρ', ps, h => by cases h; simp
  | x :: xs, ρ, ρ', ps, h => by
    obtain ⟨ρ1, b, ρ2, _, _, ht, hf⟩ := lcLoop_cons h
    cases b with
    | true =>
      obtain ⟨p, ρ3, r, e1, e2, e3⟩ := ht rfl
      obtain ⟨p', _, e4, _⟩ := eltEv_ok e1
      have := lcLoop_len e2
      rw [e3, e4]; simp; omega
    | false =>
      have := lcLoop_len (hf rfl)
      simp; omega
theorem small_lt {n m : Nat} (h : lenOk m = true) (l : n < m) : n < sizeLine := by
  simp only [lenOk, decide_eq_true_eq] at h; omega

/-- [e for t in it if c] -/
theorem te_lc {e : E} {t : T} {it : I} {c : Es} (ht : ∀ i ∈ t.slots, i ∈ own) (h : tE R (it.q && (c.q && e.q)) va (ev gl cs (.lc e t it c own)) σ H Q) :
    tLc (tI R it.q (evI gl cs it)) (gT R.K t) (tT R c.q (evC gl cs c)) (tE R e.q e.v (ev gl cs e)) own σ H Q := by
  obtain ⟨M, ρ, F, en, p, ρ', h1, h2⟩ := h
  simp only [ev] at h1
  obtain ⟨xs, ρb, ei, h1⟩ := Res.bind_ok h1
  split at h1
  · rename_i hc
    obtain ⟨ps, ρe, el, h1⟩ := Res.bind_ok h1
    cases h1
    simp only [Bool.and_eq_true] at hc
    refine ⟨M, ρ, F, en, xs, ρb, ei, fun J Hb Mb Fb P itok => fun D hD => ?_⟩
    obtain ⟨G, Y, wk, itk⟩ := itok
    have tb := P.env.tr
    have ho := plain_fp P.env hc.1
    have gM := gM_of P.env
    have gm := gm_of P.env
    refine lc_it wk (fun i Hc => ∃ Mc ρc Fc pa r, pa ++ r = ps ∧ pa.length ≤ i ∧ lcLoop own (asgT t) (evC gl cs c) (eltEv e.v (ev gl cs e)) (xs.drop i) ρc = .ok r ρe ∧ LP R Hb Mb Fb ρb own D (c.q && e.q) (L2.wipe σ own) (wipeE ρc own) pa Hc Mc Fc) ?_ ?_ ?_ ?_
    · exact ⟨_, ρb, Fb, [], ps, rfl, Nat.le_refl _, el, .start P.env ho hD⟩
    · rintro i Hc hi ⟨Mc, ρc, Fc, pa, r, _, _, _, l⟩
      exact (itk Hc Mc _ l.mv gM gm l.env.tr).1
    · rintro i x Hc H3 hi ⟨Mc, ρc, Fc, pa, r, e1, e2, e3, l⟩ hY
      have hx : xs[i]? = some xs[i] := List.getElem?_eq_getElem hi
      obtain ⟨m3, r3⟩ := (itk Hc Mc _ l.mv gM gm l.env.tr).2 i x H3 _ hx hY
      rw [List.drop_eq_getElem_cons hi] at e3
      obtain ⟨ρ1, b, ρ2, ea, ec, hT, hF⟩ := lcLoop_cons e3
      refine l.asg tb ho ht m3 r3 ea fun σ2 F2 ho2 hl2 l2 => ?_
      have hw := wipe_out' ho2 hl2 ht
      refine ⟨hw, ?_⟩
      refine ⟨Mc, ρ1, F2, l2.env, b, ρ2, ec, fun H4 M4 F4 P4 => ?_⟩
      have l4 := l2.move tb P4 fun z => by simp only [Bool.and_eq_true] at z; exact z.1
      cases b with
      | false =>
        refine iteF ?_
        exact ⟨M4, ρ2, F4.wipe own, pa, r, e1, by omega, hF rfl, l4.wipe hw ho fun _ z => z⟩
      | true =>
        refine iteT ?_
        obtain ⟨pe, ρ3, r', e4, e5, e6⟩ := hT rfl
        obtain ⟨p1, e7, e8, e9⟩ := eltEv_ok e4
        refine ⟨M4, ρ2, F4, l4.env, p1, ρ3, e7, fun v H5 M5 F5 f5 P5 => ?_⟩
        obtain ⟨ys, y1, y2, _, _, l5⟩ := l4.app tb P5 (fun z => by simp only [Bool.and_eq_true] at z; exact z.2) e9
        refine ⟨ys, y1, small_lt hc.2 (by omega), M5, ρ3, F5.wipe own, pa ++ [p1], r', ?_, ?_, e5, l5.wipe hw ho fun _ z => z⟩
        · rw [List.append_assoc, ← e8, ← e6]; exact e1
        · simp; omega
    · rintro Hc ⟨Mc, ρc, Fc, pa, r, e1, e2, e3, l⟩
      rw [List.drop_of_length_le (Nat.le_refl _)] at e3
      cases e3
      rw [List.append_nil] at e1
      rw [e1] at l
      obtain ⟨f5, P5⟩ := l.done P.env hc.1
      exact h2 _ Hc Mc Fc f5 (P.post en (P5.weak (fun z => z) fun _ => rfl))
  · cases h1

theorem walk_W {J : It} {n : Nat} {G : Hp → Prop} {Y : Nat → Hp → V → Hp → Prop} (w : Walk J n G Y) {B : V → Hp → (Hp → Prop) → Prop} {Qd : Hp → Prop} (Pv : Nat → Hp → Prop) (h0 : Pv 0 H1) (hG : ∀ i H, i ≤ n → Pv i H → G H)
    (hs : ∀ i x H H', i < n → Pv i H → Y i H x H' → B x H' (Pv (i + 1))) (hd : ∀ H, Pv n H → Qd H) : ∃ W : Nat → Nat → Hp → Prop, (∃ m, W 0 m H1) ∧ ∀ i m H, W i m H →
      (J.stop i H ∧ Qd H) ∨ (J.go i H ∧ ∃ Nx : Hp → Prop, (∀ H', Nx H' → ∃ m', m' < m ∧ W (i + 1) m' H') ∧ ∀ x H', J.yld i H x H' → B x H' Nx) := by
  refine ⟨fun i m H => i + m = n ∧ Pv i H, ⟨n, by omega, h0⟩, fun i m H ⟨hi, pv⟩ => ?_⟩
  have q := hG i H (by omega) pv
  cases m with
  | zero =>
    have e : i = n := by omega
    subst e
    exact .inl ⟨w.stops H q, hd H pv⟩
  | succ m => exact .inr ⟨w.goes i H (by omega) q, Pv (i + 1), fun H' pv' => ⟨m, by omega, by omega, pv'⟩, fun x H' y => hs i x H H' (by omega) pv (w.yields i H x H' (by omega) q y)⟩

/-- [e for t in it if c for t2 in it2 if c2] -/
theorem te_lc2 {e : E} {t t2 : T} {it it2 : I} {c c2 : Es} {own2 : List Nat} (ht : ∀ i ∈ t.slots, i ∈ own) (ht2 : ∀ i ∈ t2.slots, i ∈ own2) (h12 : ∀ i ∈ own2, i ∈ own) (h : tE R (it.q && (c.q && (it2.q && (c2.q && e.q)))) va (ev gl cs (.lc2 e t it c t2 it2 c2 own own2)) σ H Q) :
    tLc2 (tI R it.q (evI gl cs it)) (gT R.K t) (tT R c.q (evC gl cs c)) (tI R it2.q (evI gl cs it2)) (gT R.K t2) (tT R c2.q (evC gl cs c2)) (tE R e.q e.v (ev gl cs e)) own own2 σ H Q := by
  obtain ⟨M, ρ, F, en, p, ρ', h1, h2⟩ := h
  simp only [ev] at h1
  obtain ⟨xs, ρb, ei, h1⟩ := Res.bind_ok h1
  split at h1
  · rename_i hc
    obtain ⟨ps, ρe, el, h1⟩ := Res.bind_ok h1
    split at h1
    · rename_i hlen
      cases h1
      refine ⟨M, ρ, F, en, xs, ρb, ei, fun J Hb Mb Fb P itok => fun D hD => ?_⟩
      obtain ⟨G, Y, wk, itk⟩ := itok
      have tb := P.env.tr
      have ho := plain_fp P.env hc
      have gM := gM_of P.env
      have gm := gm_of P.env
      refine walk_W wk (fun i Hc => ∃ Mc ρc Fc pa r, pa ++ r = ps ∧ lcLoop own (asgT t) (evC gl cs c) (fun ρ => (evI gl cs it2 ρ).bind fun ys ρ2 => lcLoop own2 (asgT t2) (evC gl cs c2) (eltEv e.v (ev gl cs e)) ys ρ2) (xs.drop i) ρc = .ok r ρe ∧
        LP R Hb Mb Fb ρb own D (c.q && (it2.q && (c2.q && e.q))) (L2.wipe σ own) (wipeE ρc own) pa Hc Mc Fc) ?_ ?_ ?_ ?_
      · exact ⟨_, ρb, Fb, [], ps, rfl, el, .start P.env ho hD⟩
      · rintro i Hc hi ⟨Mc, ρc, Fc, pa, r, _, _, l⟩
        exact (itk Hc Mc _ l.mv gM gm l.env.tr).1
      · rintro i x Hc H3 hi ⟨Mc, ρc, Fc, pa, r, e1, e3, l⟩ hY
        have hx : xs[i]? = some xs[i] := List.getElem?_eq_getElem hi
        obtain ⟨m3, r3⟩ := (itk Hc Mc _ l.mv gM gm l.env.tr).2 i x H3 _ hx hY
        rw [List.drop_eq_getElem_cons hi] at e3
        obtain ⟨ρ1, b, ρ2, ea, ec, hT, hF⟩ := lcLoop_cons e3
        refine l.asg tb ho ht m3 r3 ea fun σ2 F2 ho2 hl2 l2 => ?_
        have hw := wipe_out' ho2 hl2 ht
        refine ⟨hw, ?_⟩
        refine ⟨Mc, ρ1, F2, l2.env, b, ρ2, ec, fun H4 M4 F4 P4 => ?_⟩
        have l4 := l2.move tb P4 fun z => by simp only [Bool.and_eq_true] at z; exact z.1
        cases b with
        | false =>
          refine iteF ?_
          exact ⟨M4, ρ2, F4.wipe own, pa, r, e1, hF rfl, l4.wipe hw ho fun _ z => z⟩
        | true =>
          refine iteT ?_
          obtain ⟨pe, ρ3, r', e4, e5, e6⟩ := hT rfl
          obtain ⟨ys, ρ5, ej, el2⟩ := Res.bind_ok e4
          refine ⟨M4, ρ2, F4, l4.env, ys, ρ5, ej, fun J1 H5 M5 F5 P5 itok1 => ?_⟩
          have l5 := l4.move tb P5 fun z => by simp only [Bool.and_eq_true] at z; exact z.2.1
          obtain ⟨G1, Y1, wk1, itk1⟩ := itok1
          -- what the inner loop leaves as it is
          have tb5 := l5.env.tr
          have w2 := l5.wipe (σ0 := σ2) (o2 := own2) rfl ho h12
          refine walk_W wk1 (fun j Hc => ∃ Mc ρc Fc pi rr, pi ++ rr = pe ∧ lcLoop own2 (asgT t2) (evC gl cs c2) (eltEv e.v (ev gl cs e)) (ys.drop j) ρc = .ok rr ρ3 ∧
            LP R Hb Mb Fb ρb own D (c.q && (it2.q && (c2.q && e.q))) (L2.wipe σ2 own2) (wipeE ρc own2) (pa ++ pi) Hc Mc Fc ∧ ItAt R Hc Mc ys G1 Y1) ?_ ?_ ?_ ?_
          · exact ⟨M5, ρ5, F5.wipe own2, [], pe, rfl, el2, by rw [List.append_nil]; exact w2, itk1⟩
          · rintro j Hc hj ⟨Mc, ρc, Fc, pi, rr, _, _, l6, ia⟩
            exact (ia Hc Mc NoG .refl (fun _ z => z.elim) (fun _ z => z.elim) l6.env.tr).1
          · rintro j x1 Hc H7 hj ⟨Mc, ρc, Fc, pi, rr, e8, e9, l6, ia⟩ hY1
            have hx1 : ys[j]? = some ys[j] := List.getElem?_eq_getElem hj
            obtain ⟨m7, r7⟩ := (ia Hc Mc NoG .refl (fun _ z => z.elim) (fun _ z => z.elim) l6.env.tr).2 j x1 H7 _ hx1 hY1
            have ia7 := ia.move m7 (fun _ z => z.elim) (fun _ z => z.elim) l6.env.tr
            rw [List.drop_eq_getElem_cons hj] at e9
            obtain ⟨ρ6, b1, ρ7, eb, ec1, hT1, hF1⟩ := lcLoop_cons e9
            refine l6.asg tb ho (fun i hi => h12 i (ht2 i hi)) m7 r7 eb fun σ3 F7 ho3 hl3 l7 => ?_
            have hw3 := wipe_out' ho3 hl3 ht2
            refine ⟨hw3, ?_⟩
            refine ⟨Mc, ρ6, F7, l7.env, b1, ρ7, ec1, fun H8 M8 F8 P8 => ?_⟩
            have l8 := l7.move tb P8 fun z => by simp only [Bool.and_eq_true] at z; exact z.2.2.1
            have ia8 := ia7.move P8.mv (gM_of l7.env) (gm_of l7.env) l7.env.tr
            cases b1 with
            | false =>
              refine iteF ?_
              exact ⟨M8, ρ7, F8.wipe own2, pi, rr, e8, hF1 rfl, l8.wipe hw3 ho h12, ia8⟩
            | true =>
              refine iteT ?_
              obtain ⟨pq, ρ8, rq, e11, e12, e13⟩ := hT1 rfl
              obtain ⟨p1, e14, e15, e16⟩ := eltEv_ok e11
              refine ⟨M8, ρ7, F8, l8.env, p1, ρ8, e14, fun v H9 M9 F9 f9 P9 => ?_⟩
              have ia9 := ia8.move P9.mv (gM_of l8.env) (gm_of l8.env) l8.env.tr
              obtain ⟨zs, y1, y2, mD, MD, l9⟩ := l8.app tb P9 (fun z => by simp only [Bool.and_eq_true] at z; exact z.2.2.2) e16
              have ia10 := ia9.move mD (fun b z => z ▸ MD) (fun b z => by rw [z, y1]; trivial) P9.env.tr
              refine ⟨zs, y1, small_lt hlen ?_, M9, ρ8, F9.wipe own2, pi ++ [p1], rq, ?_, e12, ?_, ia10⟩
              · rw [y2, ← e1, e6, ← e8, e13, e15]; simp
              · rw [List.append_assoc, ← e15, ← e13]; exact e8
              · rw [← List.append_assoc]; exact l9.wipe hw3 ho h12
          · rintro Hc ⟨Mc, ρc, Fc, pi, rr, e8, e9, l6, _⟩
            rw [List.drop_of_length_le (Nat.le_refl _)] at e9
            cases e9
            rw [List.append_nil] at e8
            have hw4 : L2.wipe (L2.wipe σ2 own2) own = L2.wipe σ own := by
              rw [← hw]
              exact wipe_eq (fun k hk => by rw [wipe_at, if_neg fun z => hk (h12 k z)]) (wipe_length _ _)
            have l9 := l6.wipe hw4 ho fun _ z => z
            have e10 : wipeE (wipeE ρ3 own2) own = wipeE ρ3 own := wipeE_eq (fun k hk => by rw [wipeE_at, if_neg fun z => hk (h12 k z)]) (wipeE_length _ _)
            rw [e10, e8] at l9
            exact ⟨Mc, ρ3, Fc.wipe own, pa ++ pe, r', by rw [List.append_assoc, ← e6]; exact e1, e5, l9⟩
      · rintro Hc ⟨Mc, ρc, Fc, pa, r, e1, e3, l⟩
        rw [List.drop_of_length_le (Nat.le_refl _)] at e3
        cases e3
        rw [List.append_nil] at e1
        rw [e1] at l
        obtain ⟨f5, P5⟩ := l.done P.env hc
        exact h2 _ Hc Mc Fc f5 (P.post en (P5.weak (fun z => z) fun _ => rfl))
    · cases h1
  · cases h1
end
end Ev

set_option Elab.async false
set_option linter.all false
set_option maxHeartbeats 4000000
set_option autoImplicit false
namespace Ev
open PySem PySem.Spec PyProof.Rows L2
section
variable {R : RC} {H H' H1 H2 Hb : Hp} {M M' M1 M2 Mb : Mt} {X : Cx} {σ σ1 σ2 : L2.St} {ρ ρ1 ρ2 ρ' ρb : Env} {F F1 F2 Fb : Fp} {v : V} {f g : List Addr} {Q : VK} {gl : Nat → PV} {cs : CS} {p : PV} {q q1 q2 va : Bool} {a : Addr} {xs : List V} {l : List PV}

theorem reps_snoc {p : PV} {x : V} (h : Reps R H M l xs g) (k : Rep R H M p x f) : Reps R H M (l ++ [p]) (xs ++ [x]) (g ++ f) := by
  have := reps_append h (Reps.cons k .nil)
  rwa [List.append_nil] at this
theorem reps_reverse : ∀ {l : List PV} {xs : List V} {g : List Addr}, Reps R H M l xs g → ∃ g', Reps R H M l.reverse xs.reverse g' ∧ g'.Perm g
  | [], xs, g, h => by rw [(reps_nil h).1, (reps_nil h).2]; exact ⟨[], .nil, .refl _⟩
  | p :: l, xs, g, h => by
    obtain ⟨x, r, f1, f2, e1, h1, h2, e2⟩ := reps_cons h
    obtain ⟨g', a1, a2⟩ := reps_reverse h2
    rw [e1, e2, List.reverse_cons, List.reverse_cons]
    exact ⟨g' ++ f1, reps_snoc a1 h1, (a2.append_right f1).trans List.perm_append_comm⟩
theorem reps_erase : ∀ {l : List PV} {xs : List V} {g : List Addr} (k : Nat), Reps R H M l xs g → ∃ g', Reps R H M (l.eraseIdx k) (xs.eraseIdx k) g' ∧ g'.Sublist g
  | [], xs, g, k, h => by rw [(reps_nil h).1, (reps_nil h).2]; exact ⟨[], by simp; exact .nil, .refl _⟩
  | p :: l, xs, g, 0, h => by
    obtain ⟨x, r, f1, f2, e1, h1, h2, e2⟩ := reps_cons h
    rw [e1, e2]
    exact ⟨f2, h2, List.sublist_append_right _ _⟩
  | p :: l, xs, g, k + 1, h => by
    obtain ⟨x, r, f1, f2, e1, h1, h2, e2⟩ := reps_cons h
    obtain ⟨g', a1, a2⟩ := reps_erase k h2
    rw [e1, e2]
    exact ⟨f1 ++ g', .cons h1 a1, (List.append_sublist_append_left f1).mpr a2⟩
theorem reps_set : ∀ {l : List PV} {xs : List V} {g : List Addr} {p : PV} {x : V} (k : Nat), Reps R H M l xs g → Rep R H M p x [] → ∃ g', Reps R H M (l.set k p) (xs.set k x) g' ∧ g'.Sublist g
  | [], xs, g, p, x, k, h, r => by rw [(reps_nil h).1, (reps_nil h).2]; exact ⟨[], by simp; exact .nil, .refl _⟩
  | q :: l, xs, g, p, x, 0, h, r => by
    obtain ⟨y, ys, f1, f2, e1, h1, h2, e2⟩ := reps_cons h
    rw [e1, e2]
    exact ⟨[] ++ f2, .cons r h2, by simp⟩
  | q :: l, xs, g, p, x, k + 1, h, r => by
    obtain ⟨y, ys, f1, f2, e1, h1, h2, e2⟩ := reps_cons h
    obtain ⟨g', a1, a2⟩ := reps_set k h2 r
    rw [e1, e2]
    exact ⟨f1 ++ g', .cons h1 a1, (List.append_sublist_append_left f1).mpr a2⟩
theorem reps_dropLast : ∀ {l : List PV} {xs : List V} {g : List Addr}, Reps R H M l xs g → ∃ g', Reps R H M l.dropLast xs.dropLast g' ∧ g'.Sublist g
  | [], xs, g, h => by rw [(reps_nil h).1, (reps_nil h).2]; exact ⟨[], .nil, .refl _⟩
  | [p], xs, g, h => by
    obtain ⟨x, r, f1, f2, e1, h1, h2, e2⟩ := reps_cons h
    rw [e1, (reps_nil h2).1]
    exact ⟨[], .nil, List.nil_sublist _⟩
  | p :: q :: l, xs, g, h => by
    obtain ⟨x, r, f1, f2, e1, h1, h2, e2⟩ := reps_cons h
    obtain ⟨y, r', f3, f4, e3, h3, h4, e4⟩ := reps_cons h2
    obtain ⟨g', a1, a2⟩ := reps_dropLast h2
    rw [e1, e2, e3]
    rw [e3] at a1
    exact ⟨f1 ++ g', .cons h1 a1, (List.append_sublist_append_left f1).mpr a2⟩

/-! ### an owned list changes -/
theorem Mv.at {o : HO} (m : M a) : Mv H M (fun b => b = a) (upd H a o) M := ⟨fun b u e n => by rw [upd_ne n]; exact e, fun _ h _ => h, fun _ h => .inl h, fun b h => by
    by_cases e : b = a
    · rw [e, upd_same]; simp
    · rw [upd_ne e]; exact h⟩
theorem EnvOk.move (e : EnvOk R H M σ ρ F) {G : Addr → Prop} (m : Mv H M G H1 M1) (gM : ∀ b, G b → M b) (gm : ∀ b, G b → Mut (H b)) (n : ∀ b, F.any b → ¬ G b) (tr : ∀ b, M1 b → H1 b ≠ none) : EnvOk R H1 M1 σ ρ F :=
  ⟨e.len, fun i p h => let ⟨v, a, b⟩ := e.at' i p h; ⟨v, a, rep_stay m gM gm b fun c hc => n c ⟨i, hc⟩⟩, e.no, e.dj, e.nd, tr⟩
theorem upd_env {i : Nat} {xs' : List V} {l' : List PV} {g' : List Addr} (e : EnvOk R H M σ ρ F) (hv : σ[i]? = some (some (.ref a))) (ha : H a = some (.lst xs)) (mA : M a) (hF : F i = a :: g)
    (r' : Reps R H M l' xs' g') (gn : g'.Nodup) (gd : ∀ b ∈ g', b ∈ g ∨ ¬ F.any b) (an : a ∉ g') : EnvOk R (upd H a (.lst xs')) M σ (ρ.set i (some (.lst true l'))) (F.put i (a :: g')) := by
  have m := Mv.at (o := .lst xs') (H := H) mA
  have gM : ∀ b, b = a → M b := fun b z => z ▸ mA
  have gm : ∀ b, b = a → Mut (H b) := fun b z => by rw [z, ha]; trivial
  have inI : ∀ b, b ∈ a :: g → ∀ j, j ≠ i → b ∉ F j := fun b hb j hj z => hj (e.dj j i b z (by rw [hF]; exact hb))
  have e1 := (e.drop (i := i)).move m gM gm (fun b ⟨j, z⟩ y => by
    unfold Fp.drop at z
    split at z
    · cases z
    · rename_i n; rw [y] at z; exact inI a (by simp) j n z) (fun b h => m.th b (e.tr b h))
  have r2 : Rep R (upd H a (.lst xs')) M (.lst true l') (.ref a) (a :: g') := .lstO upd_same mA (reps_stay m gM gm r' fun b hb z => an (z ▸ hb))
  have e2 := e1.put hv r2 (List.nodup_cons.mpr ⟨an, gn⟩) fun b hb j hj z => by
    unfold Fp.drop at z
    rw [if_neg hj] at z
    rcases List.mem_cons.mp hb with y | y
    · exact inI b (by rw [y]; simp) j hj z
    · rcases gd b y with w | w
      · exact inI b (by simp [w]) j hj z
      · exact w ⟨j, z⟩
  rw [List.set_set] at e2
  have ef : (F.drop i).put i (a :: g') = F.put i (a :: g') := by
    funext j
    unfold Fp.put Fp.drop
    split <;> rfl
  rw [ef] at e2
  exact e2
def muR (o : OMu) : V → List V → Hp → VK → Prop := match o with
  | .append => rAppend | .pop => rPop | .popAt => rPopAt | .reverse => rReverse | .extend => rExtend
theorem mu_ok {o : OMu} {ps l' : List PV} {res : PV} {vs : List V} (ha : H a = some (.lst xs)) (hl : Reps R H M l xs g) (hp : Reps R H M ps vs f) (e : muSem o l ps = some (res, l'))
    (hQ : ∀ v xs' g', Rep R H M res v [] → Reps R H M l' xs' g' → (∀ b ∈ g', b ∈ g ∨ b ∈ f) → ((g ++ f).Nodup → g'.Nodup) → Q v (upd H a (.lst xs'))) : muR o (.ref a) vs H Q := by
  unfold muSem at e
  split at e
  · obtain ⟨c, e⟩ := need_some e
    cases e
    obtain ⟨x, e1, h1⟩ := reps_one hp
    refine ⟨a, xs, x, rfl, e1, ha, by rw [reps_len hl]; exact of_decide_eq_true c, hQ _ _ _ .non (reps_snoc hl h1) (fun b hb => List.mem_append.mp hb) fun z => z⟩
  · obtain ⟨c, e⟩ := need_some e
    cases e
    simp only [Bool.and_eq_true, lenOk, decide_eq_true_eq] at c
    obtain ⟨x, e1, h1⟩ := reps_one hp
    obtain ⟨b, ys, g2, k1, k2, k3, _⟩ := rep_lst h1
    have eg := reps_pure c.1 k3
    subst eg
    refine ⟨a, b, xs, ys, rfl, by rw [e1, k1], ha, k2, by rw [reps_len hl, reps_len k3]; exact c.2, ?_⟩
    have ra := reps_append hl k3
    rw [List.append_nil] at ra
    exact hQ _ _ _ .non ra (fun b hb => .inl hb) fun z => (List.nodup_append.mp z).1
  · obtain ⟨p, ep, e⟩ := Option.bind_eq_some_iff.mp e
    obtain ⟨c, e⟩ := need_some e
    cases e
    obtain ⟨y, g1, k1, k2, k3⟩ := reps_at hl ep
    have eg := rep_pure c k2
    subst eg
    obtain ⟨g', d1, d2⟩ := reps_dropLast hl
    exact ⟨a, xs, y, rfl, (reps_nil hp).1, ha, by rw [reps_len hl]; exact k1, hQ _ _ _ k2 d1 (fun b hb => .inl (d2.mem hb)) fun z => (List.nodup_append.mp z).1.sublist d2⟩
  · split at e
    · rename_i k hk
      obtain ⟨p, ep, e⟩ := Option.bind_eq_some_iff.mp e
      obtain ⟨c, e⟩ := need_some e
      cases e
      simp only [Bool.and_eq_true, decide_eq_true_eq] at c
      obtain ⟨x, e1, h1⟩ := reps_one hp
      obtain ⟨y, g1, k1, k2, k3⟩ := reps_at hl ep
      have eg := rep_pure c.1 k2
      subst eg
      obtain ⟨g', d1, d2⟩ := reps_erase k hl
      exact ⟨a, xs, _, k, y, rfl, by rw [e1, (rep_int h1).1], ha, (by omega), (by omega), by rw [reps_len hl]; exact (ixN_seq hk).1, k1, hQ _ _ _ k2 d1 (fun b hb => .inl (d2.mem hb)) fun z => (List.nodup_append.mp z).1.sublist d2⟩
    · cases e
  · cases e
    obtain ⟨g', d1, d2⟩ := reps_reverse hl
    exact ⟨a, xs, rfl, (reps_nil hp).1, ha, hQ _ _ _ .non d1 (fun b hb => .inl (d2.mem_iff.mp hb)) fun z => d2.symm.nodup (List.nodup_append.mp z).1⟩
  · cases e
theorem te_mu {o : OMu} {i : Nat} {es : Es} (h : tE R false va (ev gl cs (.mu o i es)) σ H Q) : tBM R.K "list" (muR o) (tVar i) (tA R es.q es.vs (evs gl cs es)) σ H Q := by
  obtain ⟨M, ρ, F, e, p, ρ', h1, h2⟩ := h
  simp only [ev] at h1
  split at h1
  · rename_i c0
    obtain ⟨ps, ρ1, ea, h1⟩ := Res.bind_ok h1
    split at h1
    · rename_i c1
      split at h1
      · rename_i l hg
        split at h1
        · rename_i r l' em
          cases h1
          have hs : ∃ w l0, getE i ρ = some (.lst w l0) := by
            unfold isLst at c0
            split at c0
            · rename_i w l0 q; exact ⟨w, l0, q⟩
            · cases c0
          obtain ⟨w, l0, hs⟩ := hs
          obtain ⟨v0, hv, r0⟩ := e.at' i _ (getE_some hs)
          obtain ⟨a, xs0, g0, k1, k2, k3, _⟩ := rep_lst r0
          refine ⟨v0, hv, by rw [k1]; exact .inl ⟨rfl, xs0, SqL.of k2⟩, M, ρ, F, e, ps, ρ1, ea, fun vs H1 M1 F1 f1 P1 => ?_⟩
          obtain ⟨v1, hv1, r1⟩ := P1.env.at' i _ (getE_some hg)
          rw [hv] at hv1
          have ev : v0 = v1 := by simpa using hv1
          subst ev
          obtain ⟨b, xs, g, j1, j2, j3, j4, _⟩ := rep_lst r1
          have eb : b = a := by rw [k1] at j1; injection j1 with z; exact z.symm
          subst eb
          obtain ⟨mA, hF⟩ := j4 rfl
          obtain ⟨o1, o2⟩ := P1.own c1
          have ng := P1.env.nd i
          rw [hF] at ng
          have gf : (g ++ f1).Nodup := List.nodup_append.mpr ⟨(List.nodup_cons.mp ng).2, o1, fun x hx y hy z => o2 y hy ⟨i, by rw [hF, ← z]; simp [hx]⟩⟩
          rw [k1]
          refine mu_ok j2 j3 P1.rep em fun v xs' g' rr rl gi gn => ?_
          have an : b ∉ g' := fun z => by
            rcases gi b z with y | y
            · exact (List.nodup_cons.mp ng).1 y
            · exact o2 b y ⟨i, by rw [hF]; simp⟩
          have e2 := upd_env P1.env (by rw [hv, k1]) j2 mA hF rl (gn gf) (fun x hx => (gi x hx).elim .inl fun y => .inr (o2 x y)) an
          have m2 := Mv.at (o := .lst xs') (H := H1) mA
          have mu2 : ∀ x, x = b → F1.any x := fun x z => ⟨i, by rw [hF, z]; simp⟩
          refine h2 v _ M1 _ [] ⟨e2, rep_stay m2 (fun x z => z ▸ mA) (fun x z => by rw [z, j2]; trivial) rr (fun _ z => (nomatch z)), fun _ => ⟨List.nodup_nil, fun _ z => (nomatch z)⟩, ?_, fun x z => ?_, fun _ z => (nomatch z), (fun z => nomatch z)⟩
          · exact P1.mv.trans m2 (fun x z => P1.fnew x (mu2 x z)) e.tr
          · rcases put_any z with y | y
            · exact P1.fnew x y
            · rcases List.mem_cons.mp y with y | y
              · exact P1.fnew x (mu2 x y)
              · rcases gi x y with w | w
                · exact P1.fnew x ⟨i, by rw [hF]; simp [w]⟩
                · exact P1.ffr x w
        · cases h1
      · cases h1
    · cases h1
  · cases h1
end
end Ev

set_option Elab.async false
set_option linter.all false
set_option maxHeartbeats 4000000
set_option autoImplicit false
namespace Ev
open PySem PySem.Spec PyProof.Rows L2 RZ
section
variable {R : RC} {H H' H1 H2 Hb : Hp} {M M' M1 M2 Mb : Mt} {X : Cx} {σ σ1 σ2 : L2.St} {ρ ρ1 ρ2 ρ' ρb : Env} {F F1 F2 Fb : Fp} {v : V} {f g : List Addr} {Q : VK} {gl : Nat → PV} {cs : CS} {p : PV} {q q1 q2 va : Bool} {a : Addr} {xs : List V} {l : List PV} {Rr : It → Hp → Prop}

/-! ### what loops walk -/
theorem it_list {a : Addr} {xs : List V} {K : PySem.W.Frag} (hK : R.K = K) (ha : ∀ (H2 : Hp) (M2 : Mt) (Gw : Addr → Prop), Mv H M Gw H2 M2 → (∀ b, Gw b → M b) → (∀ b, Gw b → Mut (H b)) → SqL K H2 a xs) (r : Reps R H M l xs []) : IterOk R H M l (Itl K a) := by
  refine ⟨fun H => SqL K H a xs, YAt xs, by rw [← reps_len r]; exact walk_list, fun H2 M2 Gw m gM gm t2 => ⟨ha H2 M2 Gw m gM gm, fun i x H3 p hp hy => ?_⟩⟩
  obtain ⟨e1, e2⟩ := hy
  subst e1
  have r2 := reps_stay m gM gm r (fun _ z => (nomatch z))
  obtain ⟨y, g', a1, a2, a3⟩ := reps_at r2 hp
  have eg : g' = [] := List.sublist_nil.mp a3
  subst eg
  rw [e2] at a1; cases a1
  exact ⟨.refl, a2⟩
theorem it_tup {a : Addr} {xs : List V} {K : PySem.W.Frag} (hK : R.K = K) (ha : SqT K H a xs) (r : Reps R H M l xs []) : IterOk R H M l (Itt K a) := by
  subst hK
  refine ⟨fun H => SqT R.K H a xs, YAt xs, by rw [← reps_len r]; exact walk_tup, fun H2 M2 Gw m gM gm t2 => ⟨sqT_stay ha m gm, fun i x H3 p hp hy => ?_⟩⟩
  obtain ⟨e1, e2⟩ := hy
  subst e1
  have r2 := reps_stay m gM gm r (fun _ z => (nomatch z))
  obtain ⟨y, g', a1, a2, a3⟩ := reps_at r2 hp
  have eg : g' = [] := List.sublist_nil.mp a3
  subst eg
  rw [e2] at a1; cases a1
  exact ⟨.refl, a2⟩
theorem it_range {lo : Int} {n : Nat} : IterOk R H M (rangeP lo n) (Itr lo n) := by
  have hl : (rangeP lo n).length = n := by unfold rangeP; simp
  refine ⟨fun _ => True, YFn fun i => .int (lo + i), by rw [hl]; exact walk_range, fun H2 M2 Gw m gM gm t2 => ⟨trivial, fun i x H3 p hp hy => ?_⟩⟩
  obtain ⟨e1, e2⟩ := hy
  subst e1; subst e2
  have hi : i < n := by
    have := (List.getElem?_eq_some_iff.mp hp).1
    omega
  have e : p = .int (lo + (i : Nat)) := by
    unfold rangeP at hp
    rw [List.getElem?_map, List.getElem?_range hi] at hp
    exact (Option.some.inj hp).symm
  subst e
  exact ⟨.refl, .int⟩
theorem rep_pair {T : Addr} {x y : V} {p q : PV} (hT : H T = none) (h1 : Rep R H M p x []) (h2 : Rep R H M q y []) : Mv H M NoG (upd H T (.tup [x, y])) M ∧ Rep R (upd H T (.tup [x, y])) M (.wtp [p, q]) (.ref T) [] := by
  have m := Mv.new (M' := M) (o := .tup [x, y]) hT (fun _ z => z) (fun _ z => .inl z)
  refine ⟨m, .wtp (.inl (.inl upd_same)) ?_⟩
  have s1 := rep_stay m (fun _ z => z.elim) (fun _ z => z.elim) h1 fun _ z => (nomatch z)
  have s2 := rep_stay m (fun _ z => z.elim) (fun _ z => z.elim) h2 fun _ z => (nomatch z)
  exact Reps.cons (f := []) (g := []) s1 (Reps.cons (f := []) (g := []) s2 .nil)
theorem enumP_at : ∀ {l : List PV} {k i : Nat} {p : PV}, (enumP k l)[i]? = some p → ∃ q, l[i]? = some q ∧ p = .wtp [.int ((k + i : Nat) : Int), q]
  | [], k, i, p, h => by simp [enumP] at h
  | x :: l, k, 0, p, h => by simp [enumP] at h; exact ⟨x, rfl, h.symm⟩
  | x :: l, k, i + 1, p, h => by
    obtain ⟨q, a, b⟩ := enumP_at (l := l) (k := k + 1) (i := i) (p := p) (by simpa [enumP] using h)
    exact ⟨q, by simpa using a, by rw [b, show k + 1 + i = k + (i + 1) by omega]⟩
theorem enumP_len : ∀ (l : List PV) (k : Nat), (enumP k l).length = l.length
  | [], k => rfl
  | x :: l, k => by simp [enumP, enumP_len l]
theorem it_enum {a : Addr} {xs : List V} {K : PySem.W.Frag} (hK : R.K = K) (ha : ∀ (H2 : Hp) (M2 : Mt) (Gw : Addr → Prop), Mv H M Gw H2 M2 → (∀ b, Gw b → M b) → (∀ b, Gw b → Mut (H b)) → SqL K H2 a xs) (r : Reps R H M l xs []) : IterOk R H M (enumP 0 l) (Ite K a) := by
  refine ⟨fun H => SqL K H a xs, YPair (fun i => some (.int (i : Nat))) (fun i => xs[i]?), by rw [enumP_len, ← reps_len r]; exact walk_enum, fun H2 M2 Gw m gM gm t2 => ⟨ha H2 M2 Gw m gM gm, fun i x H3 p hp hy => ?_⟩⟩
  obtain ⟨T, y1, y2, e1, e2, e3, e4, e5⟩ := hy
  obtain ⟨q, c1, c2⟩ := enumP_at hp
  have r2 := reps_stay m gM gm r (fun _ z => (nomatch z))
  obtain ⟨y, g', a1, a2, a3⟩ := reps_at r2 c1
  have eg : g' = [] := List.sublist_nil.mp a3
  subst eg
  rw [show xs[i]? = some y2 from e5] at a1; cases a1
  cases e4
  rw [c2, e1, e3, Nat.zero_add]
  exact rep_pair e2 .int a2
theorem zipP_at : ∀ {l m : List PV} {i : Nat} {p : PV}, (zipP l m)[i]? = some p → ∃ q r, l[i]? = some q ∧ m[i]? = some r ∧ p = .wtp [q, r]
  | [], m, i, p, h => by simp [zipP] at h
  | x :: l, [], i, p, h => by simp [zipP] at h
  | x :: l, y :: m, 0, p, h => by simp [zipP] at h; exact ⟨x, y, rfl, rfl, h.symm⟩
  | x :: l, y :: m, i + 1, p, h => by
    obtain ⟨q, r, a, b, c⟩ := zipP_at (l := l) (m := m) (i := i) (p := p) (by simpa [zipP] using h)
    exact ⟨q, r, by simpa using a, by simpa using b, c⟩
theorem zipP_len : ∀ (l m : List PV), (zipP l m).length = min l.length m.length
  | [], m => by simp [zipP]
  | x :: l, [] => by simp [zipP]
  | x :: l, y :: m => by simp [zipP, zipP_len l m]
theorem it_zip {a b : Addr} {xs ys : List V} {m0 : List PV} {K : PySem.W.Frag} (hK : R.K = K) (ha : ∀ (H2 : Hp) (M2 : Mt) (Gw : Addr → Prop), Mv H M Gw H2 M2 → (∀ b, Gw b → M b) → (∀ b, Gw b → Mut (H b)) → SqL K H2 a xs ∧ SqL K H2 b ys) (r : Reps R H M l xs []) (r' : Reps R H M m0 ys []) : IterOk R H M (zipP l m0) (Itz K a b) := by
  refine ⟨fun H => SqL K H a xs ∧ SqL K H b ys, YPair (fun i => xs[i]?) (fun i => ys[i]?), walk_zip (by rw [zipP_len, reps_len r, reps_len r']), fun H2 M2 Gw m gM gm t2 => ⟨ha H2 M2 Gw m gM gm, fun i x H3 p hp hy => ?_⟩⟩
  obtain ⟨T, y1, y2, e1, e2, e3, e4, e5⟩ := hy
  obtain ⟨q, r0, c1, c2, c3⟩ := zipP_at hp
  have r2 := reps_stay m gM gm r (fun _ z => (nomatch z))
  have r3 := reps_stay m gM gm r' (fun _ z => (nomatch z))
  obtain ⟨y, g', a1, a2, a3⟩ := reps_at r2 c1
  obtain ⟨z, g2, b1, b2, b3⟩ := reps_at r3 c2
  have eg : g' = [] := List.sublist_nil.mp a3
  have eg2 : g2 = [] := List.sublist_nil.mp b3
  subst eg; subst eg2
  rw [show xs[i]? = some y1 from e4] at a1; cases a1
  rw [show ys[i]? = some y2 from e5] at b1; cases b1
  rw [c3, e1, e3]
  exact rep_pair e2 a2 b2
theorem walk_zipT {K : PySem.W.Frag} {a b : Addr} {xs ys : List V} {n : Nat} (hn : n = min xs.length ys.length) : Walk (ItzT K a b) n (fun H => SqT K H a xs ∧ SqT K H b ys) (YPair (fun i => xs[i]?) (fun i => ys[i]?)) where
  goes := fun i H hi h => ⟨xs, ys, xs[i]'(by omega), ys[i]'(by omega), h.1, h.2, List.getElem?_eq_getElem _, List.getElem?_eq_getElem _⟩
  stops := fun H h => ⟨xs, ys, h.1, h.2, by omega⟩
  yields := fun i H x H' hi h ⟨T, x1, x2, e1, e2, e3, k1, k2⟩ => ⟨T, x1, x2, e1, e2, e3, k1 xs h.1, k2 ys h.2⟩
theorem it_zipT {a b : Addr} {xs ys : List V} {m0 : List PV} {K : PySem.W.Frag} (hK : R.K = K) (ha : SqT K H a xs) (hb : SqT K H b ys) (r : Reps R H M l xs []) (r' : Reps R H M m0 ys []) : IterOk R H M (zipP l m0) (ItzT K a b) := by
  subst hK
  refine ⟨fun H => SqT R.K H a xs ∧ SqT R.K H b ys, YPair (fun i => xs[i]?) (fun i => ys[i]?), walk_zipT (by rw [zipP_len, reps_len r, reps_len r']), fun H2 M2 Gw m gM gm t2 => ⟨⟨sqT_stay ha m gm, sqT_stay hb m gm⟩, fun i x H3 p hp hy => ?_⟩⟩
  obtain ⟨T, y1, y2, e1, e2, e3, e4, e5⟩ := hy
  obtain ⟨q, r0, c1, c2, c3⟩ := zipP_at hp
  have r2 := reps_stay m gM gm r (fun _ z => (nomatch z))
  have r3 := reps_stay m gM gm r' (fun _ z => (nomatch z))
  obtain ⟨y, g', a1, a2, a3⟩ := reps_at r2 c1
  obtain ⟨z, g2, b1, b2, b3⟩ := reps_at r3 c2
  have eg : g' = [] := List.sublist_nil.mp a3
  have eg2 : g2 = [] := List.sublist_nil.mp b3
  subst eg; subst eg2
  rw [show xs[i]? = some y1 from e4] at a1; cases a1
  rw [show ys[i]? = some y2 from e5] at b1; cases b1
  rw [c3, e1, e3]
  exact rep_pair e2 a2 b2

/-! ### the sources -/
/-- a list (frozen now) or a tuple -/
def tSeq2 (K : PySem.W.Frag) (t : TE) : TI := fun σ H R => iList K t σ H R ∨ iTup K t σ H R
theorem pi_or {tg iter : Expr} {w1 w2 : TI} (h1 : PI X tg iter w1) (h2 : PI X tg iter w2) : PI X tg iter (fun σ H R => w1 σ H R ∨ w2 σ H R) := ⟨fun pins s σ H R I h => h.elim (h1.run pins s σ H R I) (h2.run pins s σ H R I)⟩
theorem imp_i {tg iter : Expr} {w1 w2 : TI} (h1 : PI X tg iter w1) (h : ∀ σ H R, w2 σ H R → w1 σ H R) : PI X tg iter w2 := ⟨fun pins s σ H R I q => h1.run pins s σ H R I (h σ H R q)⟩
theorem frz_list {w : Bool} {ps : List PV} {xs : List V} {a : Addr} {g : List Addr} (h : H1 a = some (.lst xs)) (hr : Reps R H1 M1 ps xs g) (hp : pures ps = true) (hm : w = true → M1 a ∧ f = a :: g) (hw : w = false → ¬ M1 a ∧ f = [] ∧ g = []) :
    FrzL R H1 (minusM M1 f) a xs ∧ Reps R H1 (minusM M1 f) ps xs [] := by
  have eg := reps_pure hp hr
  subst eg
  have rr : Reps R H1 (minusM M1 f) ps xs [] := by
    cases w with
    | false => rw [(hw rfl).2.1]; exact reps_stay (G := fun b => b ∈ ([] : List Addr)) Mv.less (fun _ z => (nomatch z)) (fun _ z => (nomatch z)) hr (fun _ z => (nomatch z))
    | true =>
      obtain ⟨m, ef⟩ := hm rfl
      rw [ef]
      exact reps_stay Mv.less (fun b z => by have : b = a := by simpa using z
                                             rw [this]; exact m) (fun b z => by have : b = a := by simpa using z
                                                                                rw [this, h]; trivial) hr (fun _ z => (nomatch z))
  refine ⟨⟨h, fun z => ?_⟩, rr⟩
  cases w with
  | false => exact (hw rfl).1 z.1
  | true => exact z.2 (by rw [(hm rfl).2]; simp)
theorem frzL_any {K : PySem.W.Frag} (hK : R.K = K) (h : FrzL R H M a xs) : ∀ (H2 : Hp) (M2 : Mt) (Gw : Addr → Prop), Mv H M Gw H2 M2 → (∀ b, Gw b → M b) → (∀ b, Gw b → Mut (H b)) → SqL K H2 a xs := fun H2 M2 Gw m gM gm => hK ▸ (frzL_stay h m gM).sq
theorem reps_intsOf : ∀ (ns : List Int), Reps R H M (ns.map PV.int) (ns.map V.int) []
  | [] => .nil
  | n :: ns => Reps.cons (f := []) (g := []) .int (reps_intsOf ns)
theorem scr_any {ns : List Int} {K : PySem.W.Frag} (hK : R.K = K) (h : Rep R H M (.scr ns) (.ref a) f) : ∀ (H2 : Hp) (M2 : Mt) (Gw : Addr → Prop), Mv H M Gw H2 M2 → (∀ b, Gw b → M b) → (∀ b, Gw b → Mut (H b)) → SqL K H2 a (ns.map V.int) := fun H2 M2 Gw m gM gm => by
  unfold Rep at h
  obtain ⟨⟨b, e, h⟩, _⟩ := h
  injection e with e
  subst e
  exact hK ▸ (scrL_stay h m gM).sq
theorem ti_seq {e : E} {K : PySem.W.Frag} (hK : R.K = K) (h : tI R (I.seq e).q (evI gl cs (.seq e)) σ H Rr) : tSeq2 K (tE R e.q e.v (ev gl cs e)) σ H Rr := by
  obtain ⟨M, ρ, F, en, items, ρ', h1, h2⟩ := h
  simp only [evI] at h1
  obtain ⟨p, ρ1, ee, h1⟩ := Res.bind_ok h1
  split at h1
  · rename_i c
    cases ep : itemsOf p with
    | none => rw [ep] at h1; cases h1
    | some l =>
      rw [ep] at h1; cases h1
      cases p <;> simp only [itemsOf] at ep <;> try cases ep
      · -- a tuple
        refine .inr ⟨M, ρ, F, en, _, ρ', ee, fun v H1 M1 F1 f P => ?_⟩
        obtain ⟨a, xs, k1, k2, k3, k4⟩ := rep_tup P.rep
        rw [hK] at k2
        exact ⟨a, k1, ⟨xs, k2⟩, h2 _ H1 M1 F1 P.tt (it_tup hK k2 k3)⟩
      · -- a list
        obtain ⟨cp, ep⟩ := need_some ep
        cases ep
        refine .inl ⟨M, ρ, F, en, _, ρ', ee, fun v H1 M1 F1 f P => ?_⟩
        obtain ⟨a, xs, g, k1, k2, k3, k4, k5⟩ := rep_lst P.rep
        obtain ⟨t, r⟩ := P.frz en c
        obtain ⟨fl, rl⟩ := frz_list k2 k3 cp k4 k5
        exact ⟨a, k1, ⟨xs, SqL.of k2⟩, h2 _ H1 _ F1 t (it_list hK (frzL_any hK fl) rl)⟩
      · -- the script
        refine .inl ⟨M, ρ, F, en, _, ρ', ee, fun v H1 M1 F1 f P => ?_⟩
        obtain ⟨a, k1, k2, k3⟩ := rep_scr P.rep
        rw [hK] at k2
        exact ⟨a, k1, ⟨_, k2⟩, h2 _ H1 M1 F1 P.tt (it_list hK (scr_any hK (k1 ▸ P.rep)) (reps_intsOf _))⟩
  · cases h1
theorem bnd_ok {i : Int} (h : bnd62 i = true) : -(2 ^ 62) ≤ i ∧ i < 2 ^ 62 := by
  simp only [bnd62, decide_eq_true_eq] at h; omega
theorem ti_range1 {a : E} (h : tI R (I.range1 a).q (evI gl cs (.range1 a)) σ H Rr) : iRng1 (tCons (tE R a.q a.v (ev gl cs a)) tNil) σ H Rr := by
  obtain ⟨M, ρ, F, en, items, ρ', h1, h2⟩ := h
  simp only [evI] at h1
  obtain ⟨p, ρ1, ee, h1⟩ := Res.bind_ok h1
  split at h1
  · rename_i j
    split at h1
    · rename_i c
      cases h1
      refine ⟨M, ρ, F, en, _, ρ', ee, fun v H1 M1 F1 f P => ?_⟩
      refine ⟨j, by rw [(rep_int P.rep).1], (bnd_ok c).1, (bnd_ok c).2, h2 _ H1 M1 F1 P.tt it_range⟩
    · cases h1
  · cases h1
theorem ti_range2 {a b : E} (h : tI R (I.range2 a b).q (evI gl cs (.range2 a b)) σ H Rr) : iRng2 (tCons (tE R a.q a.v (ev gl cs a)) (tCons (tE R b.q b.v (ev gl cs b)) tNil)) σ H Rr := by
  obtain ⟨M, ρ, F, en, items, ρ', h1, h2⟩ := h
  simp only [evI] at h1
  obtain ⟨p, ρ1, ee, h1⟩ := Res.bind_ok h1
  obtain ⟨p2, ρ2, ee2, h1⟩ := Res.bind_ok h1
  split at h1
  · split at h1
    · rename_i c
      cases h1
      simp only [Bool.and_eq_true] at c
      refine ⟨M, ρ, F, en, _, ρ1, ee, fun v H1 M1 F1 f P => ?_⟩
      refine ⟨M1, ρ1, F1, P.env, _, ρ', ee2, fun v2 H2 M2 F2 f2 P2 => ?_⟩
      have b1 := bnd_ok c.1
      have b2 := bnd_ok c.2
      exact ⟨_, _, by rw [(rep_int P.rep).1, (rep_int P2.rep).1], ⟨b1.1, b1.2, b2.1, b2.2⟩, h2 _ H2 M2 F2 (P.tt.then en P2.tt) it_range⟩
    · cases h1
  · cases h1
theorem it_enumT {a : Addr} {xs : List V} {K : PySem.W.Frag} (hK : R.K = K) (ha : SqT K H a xs) (r : Reps R H M l xs []) : IterOk R H M (enumP 0 l) (IteT K a) := by
  subst hK
  refine ⟨fun H => SqT R.K H a xs, YPair (fun i => some (.int (i : Nat))) (fun i => xs[i]?), by rw [enumP_len, ← reps_len r]; exact walk_enumT, fun H2 M2 Gw m gM gm t2 => ⟨sqT_stay ha m gm, fun i x H3 p hp hy => ?_⟩⟩
  obtain ⟨T, y1, y2, e1, e2, e3, e4, e5⟩ := hy
  obtain ⟨q, c1, c2⟩ := enumP_at hp
  have r2 := reps_stay m gM gm r (fun _ z => (nomatch z))
  obtain ⟨y, g', a1, a2, a3⟩ := reps_at r2 c1
  have eg : g' = [] := List.sublist_nil.mp a3
  subst eg
  rw [show xs[i]? = some y2 from e5] at a1; cases a1
  cases e4
  rw [c2, e1, e3, Nat.zero_add]
  exact rep_pair e2 .int a2
def iEnumL (K : PySem.W.Frag) (ta : TA) : TI := fun σ H R => ta σ H fun vs H1 => ∃ a xs, vs = [.ref a] ∧ SqT K H1 a xs ∧ R (IteT K a) H1
theorem ti_enum {e : E} {K : PySem.W.Frag} (hK : R.K = K) (h : tI R (I.enum e).q (evI gl cs (.enum e)) σ H Rr) :
    iEnum K (tCons (tE R e.q e.v (ev gl cs e)) tNil) σ H Rr ∨ iEnumL K (tCons (tE R e.q e.v (ev gl cs e)) tNil) σ H Rr := by
  obtain ⟨M, ρ, F, en, items, ρ', h1, h2⟩ := h
  simp only [evI] at h1
  obtain ⟨p, ρ1, ee, h1⟩ := Res.bind_ok h1
  split at h1
  · rename_i c
    split at h1
    · rename_i l ep
      cases h1
      cases p <;> simp only [itemsOf] at ep <;> try cases ep
      · refine .inr ⟨M, ρ, F, en, _, ρ', ee, fun v H1 M1 F1 f P => ?_⟩
        obtain ⟨a, xs, k1, k2, k3, k4⟩ := rep_tup P.rep
        rw [hK] at k2
        exact ⟨a, xs, by rw [k1], k2, h2 _ H1 M1 F1 P.tt (it_enumT hK k2 k3)⟩
      · obtain ⟨cp, ep⟩ := need_some ep
        cases ep
        refine .inl ⟨M, ρ, F, en, _, ρ', ee, fun v H1 M1 F1 f P => ?_⟩
        obtain ⟨a, xs, g, k1, k2, k3, k4, k5⟩ := rep_lst P.rep
        obtain ⟨t, r⟩ := P.frz en c
        obtain ⟨fl, rl⟩ := frz_list k2 k3 cp k4 k5
        exact ⟨a, xs, by rw [k1], SqL.of k2, h2 _ H1 _ F1 t (it_enum hK (frzL_any hK fl) rl)⟩
      · refine .inl ⟨M, ρ, F, en, _, ρ', ee, fun v H1 M1 F1 f P => ?_⟩
        obtain ⟨a, k1, k2, k3⟩ := rep_scr P.rep
        rw [hK] at k2
        exact ⟨a, _, by rw [k1], k2, h2 _ H1 M1 F1 P.tt (it_enum hK (scr_any hK (k1 ▸ P.rep)) (reps_intsOf _))⟩
    · cases h1
  · cases h1
theorem ti_zip {e e2 : E} {K : PySem.W.Frag} (hK : R.K = K) (h : tI R (I.zip e e2).q (evI gl cs (.zip e e2)) σ H Rr) :
    iZipA K (tCons (tE R e.q e.v (ev gl cs e)) (tCons (tE R e2.q e2.v (ev gl cs e2)) tNil)) σ H Rr := by
  obtain ⟨M, ρ, F, en, items, ρ', h1, h2⟩ := h
  simp only [evI] at h1
  obtain ⟨p, ρ1, ee, h1⟩ := Res.bind_ok h1
  obtain ⟨p2, ρ2, ee2, h1⟩ := Res.bind_ok h1
  split at h1
  · rename_i c
    simp only [Bool.and_eq_true] at c
    split at h1
    · rename_i l ep
      cases h1
      refine ⟨M, ρ, F, en, _, ρ1, ee, fun v H1 M1 F1 f P => ?_⟩
      refine ⟨M1, ρ1, F1, P.env, _, ρ', ee2, fun v2 H2 M2 F2 f2 P2 => ?_⟩
      have r1 := stays (q := false) P.env P.rep P.own (by rw [c.1]; simp) P2.mv (fun z => (nomatch z))
      have r2 := P2.rep
      have t := (P.tt.then en P2.tt).weak (q1 := (I.zip e e2).q) fun z => z
      cases p <;> cases p2 <;> simp only [itemsZ] at ep <;> try cases ep
      · obtain ⟨a, xs, k1, k2, k3, k4⟩ := rep_tup r1
        obtain ⟨b, ys, j1, j2, j3, j4⟩ := rep_tup r2
        rw [hK] at k2 j2
        exact ⟨a, b, xs, ys, by rw [k1, j1], .inr ⟨k2, j2, h2 _ H2 M2 F2 t (it_zipT hK k2 j2 k3 j3)⟩⟩
      · obtain ⟨a, xs, g, k1, k2, k3, k4, k5⟩ := rep_lst r1
        obtain ⟨b, ys, g2, j1, j2, j3, j4, j5⟩ := rep_lst r2
        have w1 := c.1
        have w2 := c.2
        simp only [PV.pure, Bool.and_eq_true, Bool.not_eq_true'] at w1 w2
        obtain ⟨u1, u2, u3⟩ := k5 w1.1
        obtain ⟨v1, v2, v3⟩ := j5 w2.1
        subst u3; subst v3
        exact ⟨a, b, xs, ys, by rw [k1, j1], .inl ⟨SqL.of k2, SqL.of j2, h2 _ H2 M2 F2 t (it_zip hK (fun H3 M3 Gw m gM gm => ⟨frzL_any hK ⟨k2, u1⟩ H3 M3 Gw m gM gm, frzL_any hK ⟨j2, v1⟩ H3 M3 Gw m gM gm⟩) k3 j3)⟩⟩
    · cases h1
  · cases h1
end
end Ev

set_option Elab.async false
set_option linter.all false
set_option maxHeartbeats 4000000
set_option autoImplicit false
namespace Ev
open PySem PySem.Spec PyProof.Rows L2 RZ

/-! ### the text and its tree -/
structure Sc where
  sc : Scope
  fn : Str → Bool
structure MC where
  N : List Str
  fnm : List (Str × Nat × List Nat)
  gnm : List Str
  free : List Str
  mods : List (Str × String)
def nst : Expr → Bool | .Starred _ _ => false | _ => true
def nset : Expr → Bool | .Set _ _ _ => false | _ => true
def nslc : Expr → Bool | .Slice _ _ _ _ => false | _ => true
def plainT : Expr → Bool
  | .Name _ _ => true | .Call _ _ _ _ => true | .Subscript _ _ _ => true | .Constant _ _ _ => true | .Attribute _ _ _ => true
  | _ => false
def dbg (x : Str) : Bool := x == ("__debug__" : Str)
def visB (s : Sc) (x : Str) : Bool := match s.sc.names.lookup x with
  | some .local => true | some .cell => true | some .free => true
  | _ => false
def glB (s : Sc) (x : Str) : Bool := match s.sc.names.lookup x with
  | some .globalImplicit => !dbg x
  | _ => false
def stB (s : Sc) (x : Str) : Bool := match s.sc.names.lookup x with
  | some .local => true | some .cell => s.fn x
  | _ => false
def nmB (m : MC) (s : Sc) (i : Nat) (x : Str) : Bool := decide (m.N[i]? = some x) && visB s x && !dbg x && !(x == ("__classdict__" : Str))
def litB (p : PV) (c : Const) : Bool := match p, c with
  | .non, .none => true
  | .bl b, .bool c => b == c
  | .int i, .int j => decide (i = j)
  | .str x, .str y => decide (x = y)
  | _, _ => false
def obN (o : OB) : Str := match o with
  | .len => "len" | .int => "int" | .abs => "abs" | .max2 => "max" | .min2 => "min" | .max => "max" | .min => "min" | .sum => "sum" | .list => "list" | .tuple => "tuple" | .any => "any" | .all => "all" | .gcd => "gcd"
def obB (m : MC) (o : OB) (x : Str) : Bool := match o with
  | .gcd => decide ((x, "math.gcd") ∈ m.mods)
  | o => decide (x = obN o) && decide (x ∈ m.free)
def muN (o : OMu) : Str := match o with
  | .append => "append" | .pop => "pop" | .popAt => "pop" | .reverse => "reverse" | .extend => "extend"
def tyN (t : Ty) : Str := match t with
  | .tuple => "tuple" | .list => "list" | .bool => "bool" | .int => "int" | .str => "str"
def bmN (o : BM) : Str := match o with
  | .index => "index" | .count => "count"
def bigS (mx : Bool) : Str := if mx = true then "max" else "min"
/-- no super() -/
def abOk : Expr → Bool
  | .Name _ _ => true | .Subscript _ _ _ => true | .List _ _ => true | .Attribute _ _ _ => true | .ListComp _ _ _ _ => true
  | _ => false
def tyB1 (m : MC) (s : Sc) (t : Ty) (e : Expr) : Bool := match e with
  | .Name x _ => decide (x = tyN t) && decide (x ∈ m.free) && glB s x
  | _ => false
def tyBs (m : MC) (s : Sc) : List Ty → List Expr → Bool
  | [], [] => true
  | t :: ts, e :: es => tyB1 m s t e && tyBs m s ts es
  | _, _ => false
def tysB (m : MC) (s : Sc) (ts : List Ty) (br : Bool) (e : Expr) : Bool := match br with
  | true => match e with
    | .Tuple es _ _ => tyBs m s ts es && decide (ts.length ≤ 50)
    | _ => false
  | false => match ts with
    | [t] => tyB1 m s t e
    | _ => false
def ownP (m : MC) (own : List Nat) : List (Str × Nat) := own.filterMap fun i => (m.N[i]?).map fun x => (x, i)
mutual
def mTg (m : MC) (s : Sc) : T → Expr → Bool
  | .nm i, e => match e with
    | .Name x _ => decide (m.N[i]? = some x) && stB s x
    | _ => false
  | .tp ts, e => match e with
    | .Tuple es _ _ => mTgs m s ts es
    | _ => false
def mTgs (m : MC) (s : Sc) : Ts → List Expr → Bool
  | .nil, es => match es with
    | [] => true
    | _ => false
  | .cons t ts, es => match es with
    | e :: es => mTg m s t e && mTgs m s ts es
    | [] => false
end
def blkS (s : Sc) (scope : Scope) : Sc := ⟨relS scope s.sc, fun x => scope.names.lookup x == some .cell⟩
mutual
def tOk : E → Expr → Bool
  | .not a, e => match e with
    | .UnaryOp .Not x _ => tOk a x
    | _ => false
  | .bop _ es, e => match e with
    | .BoolOp _ xs _ => tOks es xs
    | _ => false
  | .cmp _ _ _, _ => true
  | _, e => plainT e
def tOks : Es → List Expr → Bool
  | .nil, _ => true
  | .cons a es, xs => match xs with
    | x :: xs => tOk a x && tOks es xs
    | [] => false
end
mutual
def mE (m : MC) : E → Sc → Expr → Bool
  | .lit p, s, e => match e with
    | .Constant c _ _ => litB p c
    | _ => false
  | .rd i, s, e => match e with
    | .Name x _ => nmB m s i x
    | _ => false
  | .vw i, s, e => match e with
    | .Name x _ => nmB m s i x
    | _ => false
  | .fz i, s, e => match e with
    | .Name x _ => nmB m s i x
    | _ => false
  | .mv i, s, e => match e with
    | .Name x _ => nmB m s i x
    | _ => false
  | .glob k, s, e => match e with
    | .Name x _ => decide (m.gnm[k]? = some x) && glB s x
    | _ => false
  | .bin o a b, s, e => match e with
    | .BinOp x o' y _ => decide (o' = o) && mE m a s x && mE m b s y
    | _ => false
  | .un o a, s, e => match e with
    | .UnaryOp o' x _ => decide (o' = o) && mE m a s x
    | _ => false
  | .not a, s, e => match e with
    | .UnaryOp .Not x _ => mE m a s x
    | _ => false
  | .cmp o a b, s, e => match e with
    | .Compare x [o'] [y] _ => decide (o' = o) && mE m a s x && mE m b s y && nset y
    | _ => false
  | .bop w es, s, e => match e with
    | .BoolOp .And xs _ => w && mEs m es s xs
    | .BoolOp .Or xs _ => !w && mEs m es s xs
    | _ => false
  | .ite c a b, s, e => match e with
    | .IfExp t x y _ => mE m c s t && tOk c t && mE m a s x && mE m b s y
    | _ => false
  | .tup es, s, e => match e with
    | .Tuple xs _ _ => mEs m es s xs
    | _ => false
  | .lst es, s, e => match e with
    | .List xs _ => mEs m es s xs
    | _ => false
  | .sub a i, s, e => match e with
    | .Subscript x y _ => mE m a s x && mE m i s y && nslc y
    | _ => false
  | .slc a hl hu lo hi, s, e => match e with
    | .Subscript x (.Slice l u none _) _ => mE m a s x && (match hl, l with
        | true, some y => mE m lo s y
        | false, none => lo.q && !lo.v
        | _, _ => false) && (match hu, u with
        | true, some y => mE m hi s y
        | false, none => hi.q && !hi.v
        | _, _ => false) && (hl || (match lo with | .lit .non => true | _ => false)) && (hu || (match hi with | .lit .non => true | _ => false))
    | _ => false
  | .bi o es, s, e => match e with
    | .Call (.Name x _) (y :: ys) [] _ => obB m o x && glB s x && mEs m es s (y :: ys)
    | _ => false
  | .isi ts br a, s, e => match e with
    | .Call (.Name x _) [y, t] [] _ => decide (x = ("isinstance" : Str)) && decide (x ∈ m.free) && glB s x && nst y && mE m a s y && tysB m s ts br t
    | _ => false
  | .frz a, s, e => mE m a s e
  | .bm o a es, s, e => match e with
    | .Call (.Attribute x y apos) (z :: zs) [] cpos => decide (y = bmN o) && abOk x && mE m a s x && mEs m es s (z :: zs) && (apos.endLine == cpos.line) && decide ((z :: zs).length < 30)
    | _ => false
  | .bk mx a d, s, e => match e with
    | .Call (.Name x _) [y] [⟨some k, z, _⟩] _ => decide (x = bigS mx) && decide (k = Str.ofString "default") && decide (x ∈ m.free) && glB s x && nst y && mE m a s y && mE m d s z
    | _ => false
  | .mu o i es, s, e => match e with
    | .Call (.Attribute (.Name x _) y apos) ys [] cpos => decide (y = muN o) && nmB m s i x && mEs m es s ys && (apos.endLine == cpos.line) && decide (ys.length < 30)
    | _ => false
  | .call i as, s, e => match e with
    | .Call (.Name x _) ys [] _ => (match m.fnm[i]? with
        | some (y, n, io) => decide (y = x) && decide (n = as.len) && (as.kpos 0).all (fun k => decide (k ∈ io))
        | none => false) && glB s x && mAs m as s ys && decide (as.ios.Nodup)
    | _ => false
  | .lc a t it c own, s, e => match e with
    | .ListComp elt [⟨tg, iter, ifs, 0⟩] scope _ => mI m it s tg iter && nset iter && blkC m.N s.sc scope (ownP m own) && decide ((ownP m own).map (·.2) = own) && mTg m (blkS s scope) t tg && t.slots.all (fun i => decide (i ∈ own)) && mC m c (blkS s scope) ifs && mE m a (blkS s scope) elt
    | _ => false
  | .lc2 a t it c t2 it2 c2 own own2, s, e => match e with
    | .ListComp elt [⟨tg, iter, ifs, 0⟩, ⟨tg2, iter2, ifs2, 0⟩] scope _ => mI m it s tg iter && nset iter && blkC m.N s.sc scope (ownP m own) && decide ((ownP m own).map (·.2) = own) && mTg m (blkS s scope) t tg && t.slots.all (fun i => decide (i ∈ own)) && mC m c (blkS s scope) ifs && mE m a (blkS s scope) elt &&
      mI m it2 (blkS s scope) tg2 iter2 && nset iter2 && mTg m (blkS s scope) t2 tg2 && t2.slots.all (fun i => decide (i ∈ own2)) && own2.all (fun i => decide (i ∈ own)) && mC m c2 (blkS s scope) ifs2
    | _ => false
def mEs (m : MC) : Es → Sc → List Expr → Bool
  | .nil, _, xs => match xs with
    | [] => true
    | _ => false
  | .cons a es, s, xs => match xs with
    | x :: xs => nst x && mE m a s x && mEs m es s xs
    | [] => false
def mAs (m : MC) : As → Sc → List Expr → Bool
  | .nil, _, xs => match xs with
    | [] => true
    | _ => false
  | .io i as, s, xs => match xs with
    | .Name x _ :: xs => nmB m s i x && mAs m as s xs
    | _ => false
  | .dat a as, s, xs => match xs with
    | x :: xs => nst x && mE m a s x && mAs m as s xs
    | [] => false
def mC (m : MC) : Es → Sc → List Expr → Bool
  | .nil, _, xs => match xs with
    | [] => true
    | _ => false
  | .cons a es, s, xs => match es, xs with
    | .nil, [x] => mE m a s x && tOk a x
    | _, _ => false
def mI (m : MC) : I → Sc → Expr → Expr → Bool
  | .seq a, s, _, e => mE m a s e
  | .range1 a, s, _, e => match e with
    | .Call (.Name x _) [y] [] _ => decide (x = ("range" : Str)) && decide (x ∈ m.free) && glB s x && nst y && mE m a s y
    | _ => false
  | .range2 a b, s, _, e => match e with
    | .Call (.Name x _) [y, z] [] _ => decide (x = ("range" : Str)) && decide (x ∈ m.free) && glB s x && nst y && mE m a s y && nst z && mE m b s z
    | _ => false
  | .enum a, s, tg, e => match tg, e with
    | .Tuple _ _ _, .Call (.Name x _) [y] [] _ => decide (x = ("enumerate" : Str)) && decide (x ∈ m.free) && glB s x && nst y && mE m a s y
    | _, _ => false
  | .zip a b, s, tg, e => match tg, e with
    | .Tuple _ _ _, .Call (.Name x _) [y, z] [] _ => decide (x = ("zip" : Str)) && decide (x ∈ m.free) && glB s x && nst y && mE m a s y && nst z && mE m b s z
    | _, _ => false
end

structure Cok (m : MC) (R : RC) (gl : Nat → PV) (cs : CS) (d : Nat) (s : Sc) (X : Cx) : Prop where
  sc : X.env.scope = s.sc
  fn : ∀ x, s.fn x = true → X.fn x = true
  N : X.N = m.N
  nd : m.N.Nodup
  calm : X.calm = true
  K : R.K = X.K
  rm : Room d X.A
  free : ∀ x ∈ m.free, X.mg x = none
  mods : ∀ p ∈ m.mods, X.mg p.1 = some (.builtin p.2)
  glb : ∀ k x, m.gnm[k]? = some x → ∃ v u, X.mg x = some u ∧ RelV v u ∧ ∀ H M, Rep R H M (gl k) v []
  fns : ∀ i x n io, m.fnm[i]? = some (x, n, io) → ∃ f fd ps, X.mg x = some (.ref f) ∧ PySem.W.keepIn X.K (.ref f) = true ∧ Binds X.K fd ps [] ∧ FnOk X.prog X.w X.K X.mg X.base CX0 d f fd ps (fSp R n io (cs i))

section
variable {m : MC} {R : RC} {gl : Nat → PV} {cs : CS} {d : Nat} {s : Sc} {X : Cx} {x : Str}
theorem star_cons {e : Expr} {es : List Expr} {env : PySem.Env} (h : nst e = true) : starEach (e :: es) env = (false, eval e env) :: starEach es env := by
  cases e <;> first | rfl | cases h
theorem star_any : ∀ {es : List Expr} {env : PySem.Env} {pos : Pos}, es.all nst = true → (backTo pos (starEach es env)).any (·.1) = false
  | [], env, pos, _ => rfl
  | e :: es, env, pos, h => by
    simp only [List.all_cons, Bool.and_eq_true] at h
    rw [star_cons h.1]
    show (false || (backTo pos (starEach es env)).any (·.1)) = false
    rw [star_any h.2]; rfl
theorem star_all : ∀ {es : List Expr} {env : PySem.Env} {pos : Pos}, es.all nst = true → (backTo pos (starEach es env)).all (fun x => !x.1) = true
  | [], env, pos, _ => rfl
  | e :: es, env, pos, h => by
    simp only [List.all_cons, Bool.and_eq_true] at h
    rw [star_cons h.1]
    show (true && (backTo pos (starEach es env)).all (fun x => !x.1)) = true
    rw [star_all h.2]; rfl
theorem behind_nset {op : CmpOp} {e : Expr} (h : nset e = true) : behindInMarks op e = false := by
  cases e <;> first | rfl | cases h
theorem plain_ix {e : Expr} (h : nslc e = true) : PlainIx e := by
  intro o i
  cases e <;> first | rfl | cases h
theorem folded_nset {e : Expr} {env : PySem.Env} (h : nset e = true) : ∀ x, foldedSetIterable e env x = pure x := by
  intro x
  cases e <;> first | rfl | cases h
theorem isTrue_plainT {e : Expr} {env : PySem.Env} (h : plainT e = true) : ∀ whole, isTrue e env whole = (do let v ← whole; standAt e.pos; holding [v] (truthy v)) := by
  intro w
  cases e <;> first | rfl | cases h
theorem mEs_all : ∀ {es : Es} {xs : List Expr}, mEs m es s xs = true → xs.all nst = true
  | .nil, xs, h => by
    unfold mEs at h
    split at h
    · rfl
    · cases h
  | .cons a es, xs, h => by
    unfold mEs at h
    split at h
    · simp only [Bool.and_eq_true] at h
      simp only [List.all_cons, Bool.and_eq_true]
      exact ⟨h.1.1, mEs_all h.2⟩
    · cases h
theorem mAs_all : ∀ {es : As} {xs : List Expr}, mAs m es s xs = true → xs.all nst = true
  | .nil, xs, h => by
    unfold mAs at h
    split at h
    · rfl
    · cases h
  | .io i es, xs, h => by
    unfold mAs at h
    split at h
    · simp only [Bool.and_eq_true] at h
      simp only [List.all_cons, Bool.and_eq_true]
      exact ⟨rfl, mAs_all h.2⟩
    · cases h
  | .dat a es, xs, h => by
    unfold mAs at h
    split at h
    · simp only [Bool.and_eq_true] at h
      simp only [List.all_cons, Bool.and_eq_true]
      exact ⟨h.1.1, mAs_all h.2⟩
    · cases h
theorem Cok.vis (c : Cok m R gl cs d s X) (h : visB s x = true) : Vis X.env.scope x := by
  rw [c.sc]
  unfold visB at h
  unfold Vis
  split at h
  · rename_i e; exact .inl e
  · rename_i e; exact .inr (.inl e)
  · rename_i e; exact .inr (.inr e)
  · cases h
theorem Cok.gl' (c : Cok m R gl cs d s X) (h : glB s x = true) : Gl X x ∧ dbg x = false := by
  unfold glB at h
  split at h
  · rename_i e
    refine ⟨?_, by simpa using h⟩
    show X.env.scope.names.lookup x = _
    rw [c.sc]; exact e
  · cases h
theorem Cok.st (c : Cok m R gl cs d s X) (h : stB s x = true) : Loc X.env.scope x ∧ (X.fn x = true ∨ X.env.scope.names.lookup x = some .local) := by
  rw [c.sc]
  unfold stB at h
  unfold L2.Loc
  split at h
  · rename_i e; exact ⟨.inl e, .inr e⟩
  · rename_i e; exact ⟨.inr e, .inl (c.fn x h)⟩
  · cases h
theorem Cok.nm (c : Cok m R gl cs d s X) {i : Nat} {pos : Pos} (h : nmB m s i x = true) : PE X (.Name x pos) (tVar i) := by
  simp only [nmB, Bool.and_eq_true, decide_eq_true_eq] at h
  exact pe_var (by rw [c.N]; exact h.1.1.1) (c.vis h.1.1.2) (by simpa [dbg] using h.1.2) (by simpa using h.2)
theorem Cok.blk (c : Cok m R gl cs d s X) {scope : Scope} (s0 : Shared) (H : Hp) (C : Addr) (cl : List (Str × Addr)) (fp : List Addr) : Cok m R gl cs d (blkS s scope) (X.blk s0 H scope (compEnvC scope cl C X.env) fp) :=
  ⟨by show relS scope X.env.scope = _; rw [c.sc]; rfl, fun x h => h, c.N, c.nd, c.calm, c.K, c.rm, c.free, c.mods, c.glb, c.fns⟩
theorem Cok.units (c : Cok m R gl cs d s X) : X.A.units + 65 < cLine := by have := c.rm.un; omega
theorem pg_or {e : Expr} {t1 t2 : TG} (h1 : PG X e t1) (h2 : PG X e t2) : PG X e (fun v σ H Q => t1 v σ H Q ∨ t2 v σ H Q) := ⟨fun pins s σ H v u Q I r h => h.elim (h1.run pins s σ H v u Q I r) (h2.run pins s σ H v u Q I r)⟩
theorem mTg_each {t : T} {e : Expr} {es : List Expr} {env : PySem.Env} (h : mTg m s t e = true) : assignEach (e :: es) env = (false, assign e env) :: assignEach es env := by
  cases t <;> cases e <;> first
    | rfl
    | (simp [mTg] at h)
mutual
theorem Cok.pg (c : Cok m R gl cs d s X) : ∀ {t : T} {e : Expr}, mTg m s t e = true → PG X e (gT R.K t)
  | .nm i, e, h => by
    cases e <;> simp only [mTg] at h <;> try cases h
    simp only [Bool.and_eq_true, decide_eq_true_eq] at h
    obtain ⟨l, f⟩ := c.st h.2
    exact pg_name (by rw [c.N]; exact c.nd) (by rw [c.N]; exact h.1) l f
  | .tp ts, e, h => by
    cases e <;> simp only [mTg] at h <;> try cases h
    obtain ⟨a1, a2, a3⟩ := c.pgs h
    show PG X _ (fun v σ H Q => gTup R.K ts.len (gTs R.K ts) v σ H Q ∨ gLst R.K ts.len (gTs R.K ts) v σ H Q)
    rw [c.K] at a1 ⊢
    exact pg_or (pg_tup c.calm a1 a2 a3) (pg_lst c.calm a1 a2 a3)
theorem Cok.pgs (c : Cok m R gl cs d s X) : ∀ {ts : Ts} {es : List Expr}, mTgs m s ts es = true → PGs X es (gTs R.K ts) ∧ (assignEach es X.env).length = ts.len ∧ (assignEach es X.env).findIdx? (·.1) = none
  | .nil, [], h => ⟨pgs_nil, rfl, rfl⟩
  | .nil, _ :: _, h => by simp [mTgs] at h
  | .cons t ts, [], h => by simp [mTgs] at h
  | .cons t ts, e :: es, h => by
    simp only [mTgs, Bool.and_eq_true] at h
    obtain ⟨a1, a2, a3⟩ := c.pgs h.2
    have z := mTg_each (es := es) (env := X.env) h.1
    refine ⟨pgs_cons (c.pg h.1) a1 (by rw [z]; rfl), ?_, ?_⟩
    · rw [z]
      show (assignEach es X.env).length + 1 = ts.len + 1
      rw [a2]
    · rw [z, List.findIdx?_cons, a3]; rfl
end
theorem obBoot {o : OB} (h : o ≠ .gcd) : bootBuiltins (obN o) = some (obV o) ∧ obN o ≠ "__name__" := by
  cases o <;> first
    | exact absurd rfl h
    | exact ⟨by decide +kernel, by decide⟩
theorem muSlot (o : OMu) : ∃ id, Slot "list" (muN o) id ∧ typeOf (.builtin id) = pure (.type "method_descriptor") ∧ MtR X id (muR o) := by
  cases o
  · exact ⟨_, PySem.F.slot_list_append, PySem.F.type_list_append, mt_append⟩
  · exact ⟨_, PySem.F.slot_list_pop, PySem.F.type_list_pop, mt_pop⟩
  · exact ⟨_, PySem.F.slot_list_pop, PySem.F.type_list_pop, mt_popAt⟩
  · exact ⟨_, PySem.F.slot_list_reverse, PySem.F.type_list_reverse, mt_reverse⟩
  · exact ⟨_, PySem.F.slot_list_extend, PySem.F.type_list_extend, mt_extend⟩
end
end Ev

set_option Elab.async false
set_option linter.all false
set_option maxHeartbeats 4000000
set_option autoImplicit false
namespace Ev
open PySem PySem.Spec PyProof.Rows L2 RZ
section
variable {m : MC} {R : RC} {gl : Nat → PV} {cs : CS} {d : Nat}

theorem lit_ok {p : PV} {c : Const} {k : Nat} {pos : Pos} {va : Bool} {X : Cx} (h : litB p c = true) : PE X (.Constant c k pos) (tE R true va (ev gl cs (.lit p))) := by
  cases p <;> cases c <;> simp only [litB] at h <;> try cases h
  · exact imp_e pe_non fun σ H Q q => te_lit (fun _ _ => .non) q
  · have e := eq_of_beq h
    subst e
    exact imp_e pe_bl fun σ H Q q => te_lit (fun _ _ => .bl) q
  · have e := of_decide_eq_true h
    subst e
    exact imp_e pe_int fun σ H Q q => te_lit (fun _ _ => .int) q
  · have e := of_decide_eq_true h
    subst e
    exact imp_e pe_str fun σ H Q q => te_lit (fun _ _ => .str) q
section
variable {σ : L2.St} {H : Hp} {Q Q' : VK} {q q' va : Bool} {g : Ev PV}
theorem te_cast (h : tE R q va g σ H Q) (hq : q = true → q' = true) : tE R q' va g σ H Q := by
  obtain ⟨M, ρ, F, e, p, ρ', h1, h2⟩ := h
  exact ⟨M, ρ, F, e, p, ρ', h1, fun v H' M' F' f P => h2 v H' M' F' f (P.weak hq fun z => z)⟩
theorem te_mono (h : tE R q va g σ H Q) (k : ∀ v H, Q v H → Q' v H) : tE R q va g σ H Q' := by
  obtain ⟨M, ρ, F, e, p, ρ', h1, h2⟩ := h
  exact ⟨M, ρ, F, e, p, ρ', h1, fun v H' M' F' f P => k _ _ (h2 v H' M' F' f P)⟩
theorem ta_mono {vs : List Bool} {g : Ev (List PV)} {Q Q' : List V → Hp → Prop} (h : tA R q vs g σ H Q) (k : ∀ v H, Q v H → Q' v H) : tA R q vs g σ H Q' := by
  obtain ⟨M, ρ, F, e, p, ρ', h1, h2⟩ := h
  exact ⟨M, ρ, F, e, p, ρ', h1, fun v H' M' F' f P => k _ _ (h2 v H' M' F' f P)⟩
theorem ta_two {a b : E} {Q : List V → Hp → Prop} (h : tA R (a.q && (b.q && true)) [a.v, b.v] (consEv (b.q && true) a.v (ev gl cs a) (consEv true b.v (ev gl cs b) nilEv)) σ H Q) :
    tE R a.q a.v (ev gl cs a) σ H fun x H1 => tE R b.q b.v (ev gl cs b) σ H1 fun y H2 => Q [x, y] H2 :=
  te_mono (ta_cons h) fun _ _ k => te_mono (ta_cons k) fun _ _ k2 => ta_nil k2
theorem te_op2 {r : R2} {g : List PV → Option PV} {a b : E} (o : OpOk R (rr r) g) (h : tE R (a.q && b.q) false (opEv g (consEv (b.q && true) a.v (ev gl cs a) (consEv true b.v (ev gl cs b) nilEv))) σ H Q) : tOp r (tE R a.q a.v (ev gl cs a)) (tE R b.q b.v (ev gl cs b)) σ H Q := by
  have h1 := te_op (vs := [a.v, b.v]) o (te_cast (q' := a.q && (b.q && true)) h (by simp))
  refine te_mono (ta_two h1) fun x H1 k => te_mono k fun y H2 k2 => ?_
  obtain ⟨x', y', e, k3⟩ := k2
  cases e
  exact k3
theorem te_op1 {r : V → Hp → VK → Prop} {g : List PV → Option PV} {a : E} (o : OpOk R (r1 r) g) (h : tE R a.q false (opEv g (consEv true a.v (ev gl cs a) nilEv)) σ H Q) : tUn r (tE R a.q a.v (ev gl cs a)) σ H Q := by
  have h1 := te_op (vs := [a.v]) o (te_cast (q' := a.q && true) h (by simp))
  refine te_mono (ta_cons h1) fun x H1 k => ?_
  obtain ⟨x', e, k3⟩ := ta_nil k
  cases e
  exact k3
theorem optI_int {pl : PV} {a : Option Int} (h : optI true pl = some a) : ∃ i, pl = .int i ∧ a = some i := by
  unfold optI at h
  split at h
  · rename_i z; cases z
  · cases h; exact ⟨_, rfl, rfl⟩
  · cases h
theorem part_ok {hl : Bool} {lo : E} {pl : PV} {a : Option Int} {ρ1 ρ2 : Env} {H1 : Hp} {M1 : Mt} {F1 : Fp} {Qn : Option Int → Hp → Prop} (en : EnvOk R H1 M1 σ ρ1 F1) (el : ev gl cs lo ρ1 = .ok pl ρ2) (oa : optI hl pl = some a) (h1 : hl = false → lo = .lit .non)
    (k : ∀ l H2 M2 F2 f2, Post R H1 M1 F1 σ lo.q lo.v ρ1 ρ2 pl l H2 M2 F2 f2 → Qn a H2) : (if hl = true then tPart (tE R lo.q lo.v (ev gl cs lo)) else tNoPart) σ H1 Qn := by
  cases hl with
  | true =>
    rw [if_pos rfl]
    obtain ⟨i, e1, e2⟩ := optI_int oa
    refine ⟨M1, ρ1, F1, en, pl, ρ2, el, fun l H2 M2 F2 f2 P2 => ?_⟩
    rw [e1] at P2
    exact ⟨i, (rep_int P2.rep).1, by rw [← e2]; rw [← e1] at P2; exact k l H2 M2 F2 f2 P2⟩
  | false =>
    rw [if_neg (by decide)]
    have e := h1 rfl
    subst e
    simp only [ev] at el
    cases el
    cases oa
    exact k .non H1 M1 F1 [] (.same en .non)
theorem te_slc {hl hu : Bool} {r : V → Option Int → Option Int → Hp → VK → Prop} {a lo hi : E} (o : OpOk R (rS3 hl hu r) (opSlc hl hu)) (h1 : hl = false → lo = .lit .non) (h2 : hu = false → hi = .lit .non)
    (h : tE R (a.q && (lo.q && hi.q)) false (ev gl cs (.slc a hl hu lo hi)) σ H Q) : tSl r (tE R a.q a.v (ev gl cs a)) (if hl = true then tPart (tE R lo.q lo.v (ev gl cs lo)) else tNoPart) (if hu = true then tPart (tE R hi.q hi.v (ev gl cs hi)) else tNoPart) σ H Q := by
  obtain ⟨M, ρ, F, e, p, ρ', h3, h4⟩ := h
  simp only [ev] at h3
  obtain ⟨ps, ρ4, h3, h5⟩ := Res.bind_ok h3
  split at h5
  · rename_i res eo
    cases h5
    obtain ⟨pa, ρ1, ea, h3⟩ := Res.bind_ok h3
    split at h3
    · rename_i c1
      obtain ⟨pt, ρ2, h3, h5⟩ := Res.bind_ok h3
      cases h5
      obtain ⟨pl, ρ3, el, h3⟩ := Res.bind_ok h3
      split at h3
      · rename_i c2
        obtain ⟨pt2, ρ5, h3, h5⟩ := Res.bind_ok h3
        cases h5
        obtain ⟨pu, ρ6, eu, h3⟩ := Res.bind_ok h3
        split at h3
        · obtain ⟨pt3, ρ7, h3, h5⟩ := Res.bind_ok h3
          cases h5
          cases h3
          have oo : ∃ x y, optI hl pl = some x ∧ optI hu pu = some y := by
            unfold opSlc at eo
            simp only at eo
            split at eo
            · rename_i x y q1 q2; exact ⟨x, y, q1, q2⟩
            · cases eo
          obtain ⟨x0, y0, oa, ob⟩ := oo
          refine ⟨M, ρ, F, e, pa, ρ1, ea, fun x H1 M1 F1 f1 P1 => ?_⟩
          refine part_ok P1.env el oa h1 fun l H2 M2 F2 f2 P2 => ?_
          refine part_ok P2.env eu ob h2 fun u H3 M3 F3 f3 P3 => ?_
          have t23 := P2.tt.then P1.env P3.tt
          have r1 := stays (q := lo.q && (hi.q && true)) P1.env P1.rep P1.own c1 t23.mv fun z => (t23.qt (by simpa using z)).2.2
          have r2 := stays (q := hi.q && true) P2.env P2.rep P2.own c2 P3.mv fun z => (P3.qt (by simpa using z)).2.2
          have t13 := P1.tt.then e t23
          obtain ⟨x', l', u', A, B, e1, z1, z2, z3, z4, z5⟩ := o H3 M3 [x, l, u] [pa, pl, pu] (f1 ++ (f2 ++ (f3 ++ []))) p Q P3.env.tr (.cons r1 (.cons r2 (.cons P3.rep .nil))) eo (fun v H4 M4 f4 mv4 tr4 r4 n4 fr4 => by
            have t4 : PostT R H3 M3 F3 σ true ρ' ρ' H4 M4 F3 := ⟨P3.env.stay mv4 tr4, mv4.mono fun _ z => z.elim, fun _ z => .inl z, fun _ => ⟨rfl, rfl, mv4⟩⟩
            have t5 := (t13.then e t4).weak (q1 := a.q && (lo.q && hi.q)) fun z => by simp [z]
            exact h4 v H4 M4 F3 f4 ⟨t5.env, r4, fun _ => ⟨n4, fun b hb z => Fp.tracked P3.env b z (fr4 b hb)⟩, t5.mv, t5.fnew, fun b hb => back_new t13.mv t13.fnew (.inr (fr4 b hb)), t5.qt⟩)
          cases e1
          have eA : A = x0 := by
            cases hl with
            | true =>
              obtain ⟨i, d1, d2⟩ := z1 rfl
              obtain ⟨j, g1, g2⟩ := optI_int oa
              rw [g1] at r2
              rw [(rep_int r2).1] at d1
              injection d1 with d1
              rw [d2, g2, d1]
            | false =>
              rw [z2 rfl]
              cases oa; rfl
          have eB : B = y0 := by
            cases hu with
            | true =>
              obtain ⟨i, d1, d2⟩ := z3 rfl
              obtain ⟨j, g1, g2⟩ := optI_int ob
              have r3 := P3.rep
              rw [g1] at r3
              rw [(rep_int r3).1] at d1
              injection d1 with d1
              rw [d2, g2, d1]
            | false =>
              rw [z4 rfl]
              cases ob; rfl
          rw [← eA, ← eB]
          exact z5
        · cases h3
      · cases h3
    · cases h3
  · cases h5

/-! ### isinstance -/
def tyS (t : Ty) : String := match t with
  | .tuple => "tuple" | .list => "list" | .bool => "bool" | .int => "int" | .str => "str"
inductive TyR : PV → String → (Ty → Bool) → Prop where
  | non : TyR .non "NoneType" fun _ => false
  | bl (b : Bool) : TyR (.bl b) "bool" fun t => t = .bool || t = .int
  | int (i : Int) : TyR (.int i) "int" fun t => t = .int
  | str (x : Str) : TyR (.str x) "str" fun t => t = .str
  | tup (l : List PV) : TyR (.tup l) "tuple" fun t => t = .tuple
  | lst (w : Bool) (l : List PV) : TyR (.lst w l) "list" fun t => t = .list
theorem opIsi_ok {ts : List Ty} {l : List PV} {res : PV} (h : opIsi ts l = some res) : ∃ p a f, l = [p] ∧ TyR p a f ∧ res = .bl (ts.any f) := by
  unfold opIsi at h
  split at h
  · split at h <;> cases h
    · refine ⟨_, _, _, rfl, .non, ?_⟩
      have z : ts.any (fun _ => false) = false := List.any_eq_false.mpr fun _ _ z => by cases z
      rw [z]
    · exact ⟨_, _, _, rfl, .bl _, rfl⟩
    · exact ⟨_, _, _, rfl, .int _, rfl⟩
    · exact ⟨_, _, _, rfl, .str _, rfl⟩
    · exact ⟨_, _, _, rfl, .tup _, rfl⟩
    · exact ⟨_, _, _, rfl, .lst _ _, rfl⟩
  · cases h
theorem tyR_kit {p : PV} {a : String} {f : Ty → Bool} (h : TyR p a f) (t : Ty) : kitB a (tyS t) = some (f t) := by
  cases h <;> cases t <;> decide +kernel
theorem kitAny_tys {K : PySem.W.Frag} {a : String} {f : Ty → Bool} (h : ∀ t, kitB a (tyS t) = some (f t)) : ∀ ts : List Ty, PySem.W.kitAny K (.type a) (ts.map fun t => Value.type (tyS t)) = some (ts.any f)
  | [] => kitAny_nil
  | t :: ts => kitAny_cons (kit_ty (h t)) (fun z => by
      show _ = some (f t || ts.any f)
      rw [z]; exact kitAny_tys h ts) (fun z => by
      show (f t || ts.any f) = true
      rw [z]; rfl)
theorem rep_ty {M : Mt} {p : PV} {v : V} {f : List Addr} {a : String} {g : Ty → Bool} (r : Rep R H M p v f) (t : TyR p a g) : TyX R.K H v (.type a) := by
  cases t with
  | non => rw [(rep_non r).1]; exact .base .non
  | bl b => rw [(rep_bl r).1]; exact .base (.bl b)
  | int i => rw [(rep_int r).1]; exact .base (.int i)
  | str x => rw [(rep_str r).1]; exact .base (.str x)
  | tup l =>
    obtain ⟨a, xs, e, h, _⟩ := rep_tup r
    rw [e]
    rcases h with (h | ⟨o, h⟩) | ⟨o, its, n, h, c, _⟩
    · exact .base (.tup h)
    · exact .fTuple h
    · exact .kTuple h c
  | lst w l =>
    obtain ⟨a, xs, g, e, h, _⟩ := rep_lst r
    rw [e]; exact .base (.lst h)
def rI1 (K : PySem.W.Frag) (n : String) : V → Hp → VK → Prop := fun x H Q => ∃ t b, TyX K H x t ∧ PySem.W.kitOne K t (.type n) = some b ∧ Q (.bl b) H
theorem isi1_ok (t : Ty) : OpOk R (r1 (rI1 R.K (tyS t))) (opIsi [t]) := by
  intro H M xs ps f res Q tr h e w
  obtain ⟨p, a, g, e1, e2, e3⟩ := opIsi_ok e
  subst e1; subst e3
  obtain ⟨x, e4, h1⟩ := reps_one h
  refine ⟨x, e4, .type a, g t, rep_ty h1 e2, kit_ty (tyR_kit e2 t), ?_⟩
  have z := Want.now w tr (v := .bl (g t)) (by
    have : ([t].any g) = g t := by simp
    rw [this]; exact .bl)
  exact z
def rIs (K : PySem.W.Frag) (ts : List Ty) : V → Hp → VK → Prop := fun x H Q => ∀ p, H p = none → ∃ t b, TyX K (upd H p (.tup (ts.map fun t => V.ty (tyS t)))) x t ∧ PySem.W.kitAny K t (ts.map fun t => Value.type (tyS t)) = some b ∧ Q (.bl b) (upd H p (.tup (ts.map fun t => V.ty (tyS t))))
theorem isis_ok (ts : List Ty) : OpOk R (r1 (rIs R.K ts)) (opIsi ts) := by
  intro H M xs ps f res Q tr h e w
  obtain ⟨p, a, g, e1, e2, e3⟩ := opIsi_ok e
  subst e1; subst e3
  obtain ⟨x, e4, h1⟩ := reps_one h
  refine ⟨x, e4, fun T hT => ?_⟩
  have m := Mv.new (M' := M) (o := .tup (ts.map fun t => V.ty (tyS t))) hT (fun _ z => z) (fun _ z => .inl z)
  have h2 := rep_stay m (fun _ z => z.elim) (fun _ z => z.elim) h1 fun _ _ z => z
  exact ⟨.type a, ts.any g, rep_ty h2 e2, kitAny_tys (tyR_kit e2) ts, w _ _ M [] m (tr_new tr fun _ z => .inl z) .bl List.nodup_nil fun _ z => (nomatch z)⟩
theorem tyBoot (t : Ty) : bootBuiltins (tyN t) = some (.type (tyS t)) ∧ tyN t ≠ "__name__" := by
  cases t <;> exact ⟨by decide +kernel, by decide⟩
theorem pe_tyN {t : Ty} {e : Expr} {s : Sc} {X : Cx} (c : Cok m R gl cs d s X) (h : tyB1 m s t e = true) : PE X e (tC (.ty (tyS t))) ∧ nst e = true := by
  unfold tyB1 at h
  split at h
  · simp only [Bool.and_eq_true, decide_eq_true_eq] at h
    obtain ⟨⟨h1, h2⟩, h3⟩ := h
    obtain ⟨g1, g2⟩ := c.gl' h3
    obtain ⟨b1, b2⟩ := tyBoot t
    rw [← h1] at b1 b2
    exact ⟨pe_bltn g1 (c.free _ h2) b1 rfl b2 g2, rfl⟩
  · cases h
def tTys : List Ty → TA
  | [] => tNil
  | t :: ts => tCons (tC (.ty (tyS t))) (tTys ts)
theorem tTys_at {Q : List V → Hp → Prop} : ∀ {ts : List Ty}, Q (ts.map fun t => V.ty (tyS t)) H → tTys ts σ H Q
  | [], h => h
  | t :: ts, h => tTys_at (ts := ts) (Q := fun xs H => Q (V.ty (tyS t) :: xs) H) h
theorem pa_tys {s : Sc} {X : Cx} (c : Cok m R gl cs d s X) : ∀ {ts : List Ty} {es : List Expr}, tyBs m s ts es = true → PA X es (tTys ts)
  | [], [], h => pa_nil
  | [], _ :: _, h => by simp [tyBs] at h
  | _ :: _, [], h => by simp [tyBs] at h
  | t :: ts, e :: es, h => by
    simp only [tyBs, Bool.and_eq_true] at h
    obtain ⟨p1, p2⟩ := pe_tyN c h.1
    exact pa_cons p1 (pa_tys c h.2) (star_cons p2)
theorem isiBoot : bootBuiltins ("isinstance" : Str) = some (.builtin "isinstance") := by decide +kernel
theorem pe_isi {ts : List Ty} {br : Bool} {a : E} {s : Sc} {X : Cx} {y t : Expr} {p pos : Pos} (c : Cok m R gl cs d s X) (pa : PE X y (tE R a.q a.v (ev gl cs a))) (hf : ("isinstance" : Str) ∈ m.free) (hg : Gl X "isinstance") (hn : nst y = true) (ht : tysB m s ts br t = true) :
    PE X (.Call (.Name "isinstance" p) [y, t] [] pos) (tE R a.q false (ev gl cs (.isi ts br a))) := by
  cases br with
  | true =>
    unfold tysB at ht
    simp only at ht
    split at ht
    · simp only [Bool.and_eq_true, decide_eq_true_eq] at ht
      refine imp_e (pe_callB call_isiT hg (c.free _ hf) isiBoot (pa_cons pa (pa_cons (pe_tup (pa_tys c ht.1)) pa_nil (star_cons rfl)) (star_cons hn)) (by decide) (by decide) (star_cons hn) rfl) fun σ H Q q => ?_
      simp only [ev] at q
      refine te_mono (te_op1 (isis_ok ts) q) fun x H1 k => ?_
      refine tTys_at ⟨by rw [List.length_map, sizeLine_eq]; omega, fun T hT => ?_⟩
      obtain ⟨t, b, k1, k2, k3⟩ := k T hT
      rw [c.K] at k1 k2
      refine ⟨x, T, _, t, _, b, rfl, upd_same, ?_, k1, k2, k3⟩
      clear k k1 k2 k3 hT q ht c pa
      induction ts with
      | nil => exact .nil
      | cons t l ih => exact .cons (.ty _) ih
    · cases ht
  | false =>
    unfold tysB at ht
    simp only at ht
    split at ht
    · rename_i t'
      obtain ⟨p1, p2⟩ := pe_tyN c ht
      refine imp_e (pe_callB call_isi hg (c.free _ hf) isiBoot (pa_cons pa (pa_cons p1 pa_nil (star_cons p2)) (star_cons hn)) (by decide) (by decide) (star_cons hn) (by rw [star_cons p2]; rfl)) fun σ H Q q => ?_
      simp only [ev] at q
      refine te_mono (te_op1 (isi1_ok t') q) fun x H1 k => ?_
      obtain ⟨t, b, k1, k2, k3⟩ := k
      rw [c.K] at k1 k2
      exact ⟨x, _, t, _, b, rfl, .ty _, k1, k2, k3⟩
    · cases ht

/-! ### the methods that look; default= -/
theorem te_frz {a : E} {v' : Bool} (h : tE R a.q v' (ev gl cs (.frz a)) σ H Q) : tE R a.q a.v (ev gl cs a) σ H Q := by
  obtain ⟨M, ρ, F, e, p, ρ', h1, h2⟩ := h
  simp only [ev] at h1
  obtain ⟨p1, ρ1, ea, h1⟩ := Res.bind_ok h1
  split at h1
  · rename_i c
    cases h1
    refine ⟨M, ρ, F, e, p1, ρ', ea, fun v H1 M1 F1 f P => ?_⟩
    obtain ⟨t, r⟩ := P.frz e c
    exact h2 v H1 _ F1 [] (t.pure r)
  · cases h1
theorem te_bm {o : BM} {a : E} {es : Es} (h : tE R (a.q && es.q) false (ev gl cs (.bm o a es)) σ H Q) :
    tBMD R.K (bmRT R.K o) (tE R a.q a.v (ev gl cs a)) (tA R es.q es.vs (evs gl cs es)) σ H Q ∨ tBM R.K "list" (bmRL R.K o) (tE R a.q a.v (ev gl cs a)) (tA R es.q es.vs (evs gl cs es)) σ H Q := by
  obtain ⟨M, ρ, F, e, res, ρ', h1, h2⟩ := h
  simp only [ev] at h1
  obtain ⟨ps, ρ9, h3, h4⟩ := Res.bind_ok h1
  split at h4
  · rename_i res' eg
    cases h4
    rcases bm_or eg with eg | eg
    · have h' : tE R (a.q && es.q) false (opEv (bmT o) (consEv es.q a.v (ev gl cs a) (evs gl cs es))) σ H Q := ⟨M, ρ, F, e, res, ρ', by show Res.bind _ _ = _; rw [h3]; show (match bmT o ps with | some p => _ | none => _) = _; rw [eg], h2⟩
      obtain ⟨M, ρ, F, e, p, ρ1, pt, rs, ea, ep, k⟩ := te_opC (vs := es.vs) (bmT_ok o) h'
      refine .inl ⟨M, ρ, F, e, p, ρ1, ea, fun x H1 M1 F1 f1 P1 => ⟨?_, ?_⟩⟩
      · unfold bmT at ep
        split at ep
        · rename_i hh
          cases hh
          obtain ⟨b, xs, e1, _⟩ := rep_tup P1.rep
          exact ⟨b, e1, rep_tupD P1.rep e1⟩
        · cases ep
      · refine ta_mono (k x H1 M1 F1 f1 P1) fun xs H2 z => ?_
        obtain ⟨x', ys, e1, z⟩ := z
        cases e1
        exact z
    · have h' : tE R (a.q && es.q) false (opEv (bmL o) (consEv es.q a.v (ev gl cs a) (evs gl cs es))) σ H Q := ⟨M, ρ, F, e, res, ρ', by show Res.bind _ _ = _; rw [h3]; show (match bmL o ps with | some p => _ | none => _) = _; rw [eg], h2⟩
      obtain ⟨M, ρ, F, e, p, ρ1, pt, rs, ea, ep, k⟩ := te_opC (vs := es.vs) (bmL_ok o) h'
      refine .inr ⟨M, ρ, F, e, p, ρ1, ea, fun x H1 M1 F1 f1 P1 => ⟨?_, ?_⟩⟩
      · unfold bmL at ep
        split at ep
        · rename_i hh
          cases hh
          obtain ⟨b, xs, g, e1, e2, _⟩ := rep_lst P1.rep
          rw [e1]
          exact .inl ⟨rfl, xs, SqL.of e2⟩
        · cases ep
      · refine ta_mono (k x H1 M1 F1 f1 P1) fun xs H2 z => ?_
        obtain ⟨x', ys, e1, z⟩ := z
        cases e1
        exact z
  · cases h4
theorem pe_either {X : Cx} {e : Expr} {t1 t2 : TE} (h1 : PE X e t1) (h2 : PE X e t2) : PE X e (fun σ H Q => t1 σ H Q ∨ t2 σ H Q) := ⟨fun pins s σ H Q I h => h.elim (h1.run pins s σ H Q I) (h2.run pins s σ H Q I)⟩
theorem bmSlots (o : BM) : (∃ id, Slot "tuple" (bmN o) id ∧ typeOf (.builtin id) = pure (.type "method_descriptor") ∧ ∀ X : Cx, X.A.units + 65 < cLine → MtR X id (bmRT X.K o)) ∧
    (∃ id, Slot "list" (bmN o) id ∧ typeOf (.builtin id) = pure (.type "method_descriptor") ∧ ∀ X : Cx, X.A.units + 65 < cLine → MtR X id (bmRL X.K o)) := by
  cases o
  · exact ⟨⟨_, PySem.F.slot_tuple_index, PySem.F.type_tuple_index, fun X _ => mt_ixT⟩, ⟨_, PySem.F.slot_list_index, PySem.F.type_list_index, fun X hu => mt_indexD hu⟩⟩
  · exact ⟨⟨_, PySem.F.slot_tuple_count, PySem.F.type_tuple_count, fun X hu => mt_cnt true hu⟩, ⟨_, PySem.F.slot_list_count, PySem.F.type_list_count, fun X hu => mt_cnt false hu⟩⟩
theorem abOk_base {x : Expr} {y : Str} {env : PySem.Env} (h : abOk x = true) : attributeBase x y env (eval x env) = eval x env := by
  cases x <;> first
    | rfl
    | cases h
theorem bigBoot (mx : Bool) : bootBuiltins (bigS mx) = some (.builtin (bigN mx)) ∧ bigS mx ≠ "__name__" := by
  cases mx <;> exact ⟨by decide +kernel, by decide⟩
end
end
end Ev

set_option Elab.async false
set_option linter.all false
set_option maxHeartbeats 8000000
set_option autoImplicit false
namespace Ev
open PySem PySem.Spec PyProof.Rows L2 RZ
section
variable {m : MC} {R : RC} {gl : Nat → PV} {cs : CS} {d : Nat}

theorem tas_mono {σ : L2.St} {H : Hp} {q : Bool} {as : As} {g : Ev (List PV)} {Q Q' : List V → Hp → Prop} (h : tAs R q as g σ H Q) (k : ∀ v H, Q v H → Q' v H) : tAs R q as g σ H Q' := by
  obtain ⟨M, ρ, F, e, p, ρ', h1, h2⟩ := h
  exact ⟨M, ρ, F, e, p, ρ', h1, fun v H' M' F' P a => k _ _ (h2 v H' M' F' P a)⟩
theorem evLc_of {e : E} {t : T} {it : I} {c : Es} {own : List Nat} : (E.lc e t it c own).q = (it.q && (c.q && e.q)) := rfl
theorem units_of {X : Cx} {s : Sc} (c : Cok m R gl cs d s X) : X.A.units + 65 < cLine := c.units

mutual
theorem snd : ∀ (ie : E) {s : Sc} {X : Cx} {e : Expr}, Cok m R gl cs d s X → mE m ie s e = true → PE X e (tE R ie.q ie.v (ev gl cs ie))
  | .lit p, s, X, e, c, h => by
    unfold mE at h
    split at h
    · exact lit_ok h
    · cases h
  | .rd i, s, X, e, c, h => by
    unfold mE at h
    split at h
    · exact imp_e (c.nm h) fun σ H Q q => te_rd q
    · cases h
  | .vw i, s, X, e, c, h => by
    unfold mE at h
    split at h
    · exact imp_e (c.nm h) fun σ H Q q => te_vw q
    · cases h
  | .fz i, s, X, e, c, h => by
    unfold mE at h
    split at h
    · exact imp_e (c.nm h) fun σ H Q q => te_fz q
    · cases h
  | .mv i, s, X, e, c, h => by
    unfold mE at h
    split at h
    · exact imp_e (c.nm h) fun σ H Q q => te_mv q
    · cases h
  | .glob k, s, X, e, c, h => by
    unfold mE at h
    split at h
    · rename_i x pos
      simp only [Bool.and_eq_true, decide_eq_true_eq] at h
      obtain ⟨v, u, e1, e2, e3⟩ := c.glb k x h.1
      obtain ⟨g1, g2⟩ := c.gl' h.2
      refine imp_e (pe_glob g1 e1 e2 g2) fun σ H Q q => ?_
      simp only [ev] at q
      exact te_lit e3 q
    · cases h
  | .bin o a b, s, X, e, c, h => by
    unfold mE at h
    split at h
    · simp only [Bool.and_eq_true, decide_eq_true_eq] at h
      obtain ⟨⟨h1, h2⟩, h3⟩ := h
      subst h1
      refine imp_e (pe_op (bin_op _) (snd a c h2) (snd b c h3)) fun σ H Q q => ?_
      simp only [ev] at q
      refine te_op2 (r := rBin X.K _) ?_ q
      rw [← c.K]; exact bin_ok _
    · cases h
  | .un o a, s, X, e, c, h => by
    unfold mE at h
    split at h
    · simp only [Bool.and_eq_true, decide_eq_true_eq] at h
      obtain ⟨h1, h2⟩ := h
      subst h1
      refine imp_e (pe_un (un_op _) (snd a c h2)) fun σ H Q q => ?_
      simp only [ev] at q
      exact te_op1 (un_ok _) q
    · cases h
  | .not a, s, X, e, c, h => by
    unfold mE at h
    split at h
    · exact imp_e (pe_not (snd a c h)) fun σ H Q q => te_not q
    · cases h
  | .cmp o a b, s, X, e, c, h => by
    unfold mE at h
    split at h
    · simp only [Bool.and_eq_true, decide_eq_true_eq] at h
      obtain ⟨⟨⟨h1, h2⟩, h3⟩, h4⟩ := h
      subst h1
      refine imp_e (pe_cmpR (cmp_op c.units _) (snd a c h2) (snd b c h3) (behind_nset h4)) fun σ H Q q => ?_
      simp only [ev] at q
      refine te_op2 (r := rCmp X.K _) ?_ q
      rw [← c.K]; exact cmp_ok _
    · cases h
  | .bop w es, s, X, e, c, h => by
    unfold mE at h
    split at h
    · simp only [Bool.and_eq_true] at h
      refine imp_e (sndB es (va := false) c h.2 .And) fun σ H Q q => ?_
      simp only [ev] at q
      rw [h.1] at q
      exact q
    · simp only [Bool.and_eq_true] at h
      refine imp_e (sndB es (va := false) c h.2 .Or) fun σ H Q q => ?_
      simp only [ev] at q
      rw [show w = false by simpa using h.1] at q
      exact q
    · cases h
  | .ite cd a b, s, X, e, c, h => by
    unfold mE at h
    split at h
    · simp only [Bool.and_eq_true] at h
      obtain ⟨⟨⟨h1, h2⟩, h3⟩, h4⟩ := h
      exact imp_e (pe_ifExp (sndT cd c h1 h2) (snd a c h3) (snd b c h4)) fun σ H Q q => te_ite q
    · cases h
  | .tup es, s, X, e, c, h => by
    unfold mE at h
    split at h
    · exact imp_e (pe_tupD (snds es c h)) fun σ H Q q => te_tup q
    · cases h
  | .lst es, s, X, e, c, h => by
    unfold mE at h
    split at h
    · exact imp_e (pe_lst (snds es c h)) fun σ H Q q => te_lst q
    · cases h
  | .sub a i, s, X, e, c, h => by
    unfold mE at h
    split at h
    · simp only [Bool.and_eq_true] at h
      obtain ⟨⟨h1, h2⟩, h3⟩ := h
      refine imp_e (pe_ix ix_seq (snd a c h1) (snd i c h2) (plain_ix h3)) fun σ H Q q => ?_
      simp only [ev] at q
      refine te_op2 (r := rIx X.K) ?_ q
      rw [← c.K]; exact sub_ok
    · cases h
  | .slc a hl hu lo hi, s, X, e, c, h => by
    unfold mE at h
    split at h
    · rename_i x l u p1 p2
      simp only [Bool.and_eq_true] at h
      obtain ⟨⟨⟨⟨h1, h2⟩, h3⟩, h4⟩, h5⟩ := h
      have z1 : hl = false → lo = .lit .non := fun z => by
        subst z
        simp only [Bool.false_or] at h4
        split at h4
        · rfl
        · cases h4
      have z2 : hu = false → hi = .lit .non := fun z => by
        subst z
        simp only [Bool.false_or] at h5
        split at h5
        · rfl
        · cases h5
      have pl : PO X l (if hl = true then tPart (tE R lo.q lo.v (ev gl cs lo)) else tNoPart) := by
        split at h2
        · exact po_some (snd lo c h2)
        · exact po_none
        · cases h2
      have pu : PO X u (if hu = true then tPart (tE R hi.q hi.v (ev gl cs hi)) else tNoPart) := by
        split at h3
        · exact po_some (snd hi c h3)
        · exact po_none
        · cases h3
      refine imp_e (pe_slice sl_op (snd a c h1) pl pu) fun σ H Q q => ?_
      refine te_slc (r := rSl X.K) ?_ z1 z2 q
      rw [← c.K]; exact slc_ok _ _
    · cases h
  | .bi o es, s, X, e, c, h => by
    unfold mE at h
    split at h
    · rename_i x xp y ys pos
      simp only [Bool.and_eq_true] at h
      obtain ⟨⟨h1, h2⟩, h3⟩ := h
      obtain ⟨g1, g2⟩ := c.gl' h2
      have hn := mEs_all h3
      simp only [List.all_cons, Bool.and_eq_true] at hn
      have pa := snds es c h3
      have fin : ∀ {σ : L2.St} {H : Hp} {Q : VK}, tE R (E.bi o es).q (E.bi o es).v (ev gl cs (.bi o es)) σ H Q → tCB (obR X.K o) (tA R es.q es.vs (evs gl cs es)) σ H Q := fun {σ H Q} q => by
        simp only [ev] at q
        refine te_op (r := obR X.K o) ?_ q
        rw [← c.K]; exact ob_ok o
      by_cases hg : o = .gcd
      · subst hg
        simp only [obB, decide_eq_true_eq] at h1
        exact imp_e (pe_callBfun (ob_call c.calm c.units .gcd) g1 (c.mods _ h1) pa g2 (star_cons hn.1) (star_any hn.2)) fun σ H Q q => fin q
      · obtain ⟨b1, b2⟩ := obBoot hg
        have hx : x = obN o ∧ x ∈ m.free := by
          cases o <;> first
            | exact absurd rfl hg
            | (simp only [obB, Bool.and_eq_true, decide_eq_true_eq] at h1; exact h1)
        rw [← hx.1] at b1 b2
        have oc := ob_call c.calm c.units o
        cases o <;> first
          | exact absurd rfl hg
          | exact imp_e (pe_callB oc g1 (c.free x hx.2) b1 pa b2 g2 (star_cons hn.1) (star_any hn.2)) fun σ H Q q => fin q
          | exact imp_e (pe_callTy oc g1 (c.free x hx.2) b1 pa b2 g2 (star_cons hn.1) (star_any hn.2)) fun σ H Q q => fin q
    · cases h
  | .isi ts br a, s, X, e, c, h => by
    unfold mE at h
    split at h
    · simp only [Bool.and_eq_true, decide_eq_true_eq] at h
      obtain ⟨⟨⟨⟨⟨h1, h2⟩, h3⟩, h4⟩, h5⟩, h6⟩ := h
      subst h1
      obtain ⟨g1, g2⟩ := c.gl' h3
      exact pe_isi c (snd a c h5) h2 g1 h4 h6
    · cases h
  | .frz a, s, X, e, c, h => by
    unfold mE at h
    exact imp_e (snd a c h) fun σ H Q q => te_frz q
  | .bm o a es, s, X, e, c, h => by
    unfold mE at h
    split at h
    · rename_i x y apos z zs cpos
      simp only [Bool.and_eq_true, decide_eq_true_eq] at h
      obtain ⟨⟨⟨⟨⟨h1, h2⟩, h3⟩, h4⟩, h5⟩, h6⟩ := h
      subst h1
      have hn := mEs_all h4
      have hn' := hn
      simp only [List.all_cons, Bool.and_eq_true] at hn
      obtain ⟨⟨i1, a1, a2, a3⟩, ⟨i2, b1, b2, b3⟩⟩ := bmSlots o
      have po := snd a c h3
      have pa := snds es c h4
      have all := star_all (env := X.env) (pos := cpos) hn'
      have few : ((backTo cpos (starEach (z :: zs) X.env)).all (fun x => !x.1) && (backToKw cpos (keywordEach [] X.env)).all (fun x => x.1.isSome) && decide ((z :: zs).length + ([] : List Keyword).length + (if ([] : List Keyword).isEmpty then 0 else 1) < 30)) = true := by
        rw [all]
        have a2 : decide ((z :: zs).length + ([] : List Keyword).length + (if ([] : List Keyword).isEmpty then 0 else 1) < 30) = true := by
          rw [decide_eq_true_eq]
          simp only [List.length_nil, List.isEmpty_nil, if_true]
          omega
        rw [a2]; rfl
      have p1 := pe_bmD (apos := apos) a1 a2 (a3 X c.units) po pa (abOk_base h2) h5 (by
        rw [List.all_eq_true]
        intro w hw
        have := List.all_eq_true.mp hn' w hw
        cases w <;> first | rfl | cases this) h6 (star_cons hn.1) (star_any hn.2) all
      have p2 := pe_bm (apos := apos) PySem.F.plainAttrs_list b1 b2 (b3 X c.units) po pa (abOk_base h2) few h5 (star_cons hn.1) (star_any hn.2)
      refine imp_e (pe_either p1 p2) fun σ H Q q => ?_
      rw [← c.K]
      exact te_bm q
    · cases h
  | .bk mx a dd, s, X, e, c, h => by
    unfold mE at h
    split at h
    · rename_i x xp y k z kp pos
      simp only [Bool.and_eq_true, decide_eq_true_eq] at h
      obtain ⟨⟨⟨⟨⟨⟨h1, h2⟩, h3⟩, h4⟩, h5⟩, h6⟩, h7⟩ := h
      subst h1; subst h2
      obtain ⟨g1, g2⟩ := c.gl' h4
      obtain ⟨b1, b2⟩ := bigBoot mx
      refine imp_e (pe_callBK (cr_bigD mx c.calm c.units) g1 (c.free _ h3) b1 (pa_cons (snd a c h6) pa_nil (star_cons h5)) (pk_cons (snd dd c h7) pk_nil) b2 g2 (by rw [star_cons h5]; rfl) (by rw [star_cons h5]; rfl)) fun σ H Q q => ?_
      simp only [ev] at q
      have k := te_op (vs := [a.v, dd.v]) (bk_ok mx) (te_cast (q' := a.q && (dd.q && true)) q (by simp [E.q]))
      refine te_mono (ta_two k) fun v H1 k1 => te_mono k1 fun w H2 k2 => ?_
      obtain ⟨x', y', e1, k3⟩ := k2
      cases e1
      rw [← c.K]
      exact k3
    · cases h
  | .mu o i es, s, X, e, c, h => by
    unfold mE at h
    split at h
    · rename_i x xp y apos ys cpos
      simp only [Bool.and_eq_true, decide_eq_true_eq] at h
      obtain ⟨⟨⟨⟨h1, h2⟩, h3⟩, h4⟩, h5⟩ := h
      obtain ⟨id, sl, ty, mt⟩ := muSlot o
      rw [← h1] at sl
      have hn := mEs_all h3
      have pa := snds es c h3
      have hq : (E.mu o i es).q = false := rfl
      cases ys with
      | nil =>
        refine imp_e (pe_bm0 PySem.F.plainAttrs_list sl ty mt (c.nm h2) rfl h4) fun σ H Q q => ?_
        obtain ⟨v, hv, tv, k⟩ := te_mu q
        refine ⟨v, hv, by rw [← c.K]; exact tv, ?_⟩
        cases es with
        | nil => exact ta_nil k
        | cons a es => unfold mEs at h3; cases h3
      | cons y ys =>
        simp only [List.all_cons, Bool.and_eq_true] at hn
        refine imp_e (pe_bm PySem.F.plainAttrs_list sl ty mt (c.nm h2) pa rfl ?_ h4 (star_cons hn.1) (star_any hn.2)) fun σ H Q q => ?_
        · have a1 := star_all (es := y :: ys) (env := X.env) (pos := cpos) (by simp [hn])
          rw [a1]
          have a2 : decide ((y :: ys).length + ([] : List Keyword).length + (if ([] : List Keyword).isEmpty then 0 else 1) < 30) = true := by
            rw [decide_eq_true_eq]
            simp only [List.length_nil, List.isEmpty_nil, if_true]
            omega
          rw [a2]
          rfl
        · obtain ⟨v, hv, tv, k⟩ := te_mu q
          exact ⟨v, hv, by rw [← c.K]; exact tv, k⟩
    · cases h
  | .call i as, s, X, e, c, h => by
    unfold mE at h
    split at h
    · rename_i x xp ys pos
      simp only [Bool.and_eq_true, decide_eq_true_eq] at h
      obtain ⟨⟨⟨h1, h2⟩, h3⟩, h4⟩ := h
      have h1' : ∃ io, m.fnm[i]? = some (x, as.len, io) ∧ ∀ k ∈ as.kpos 0, k ∈ io := by
        split at h1
        · rename_i y n io e
          simp only [Bool.and_eq_true, decide_eq_true_eq, List.all_eq_true] at h1
          exact ⟨io, by rw [e, h1.1.1, h1.1.2], h1.2⟩
        · cases h1
      obtain ⟨io, h1, hk⟩ := h1'
      obtain ⟨f, fd, ps, f1, f2, f3, f4⟩ := c.fns i x as.len io h1
      obtain ⟨g1, g2⟩ := c.gl' h2
      have hn := mAs_all h3
      have pa := sndAs as c h3
      cases ys with
      | nil =>
        refine imp_e (pe_call0 f4 c.rm g1 f1 f2 f3 .nil pass0 g2) fun σ H Q q => ?_
        have k := te_call h4 rfl hk q
        cases as with
        | nil => exact tas_nil k
        | io j as => unfold mAs at h3; cases h3
        | dat a as => unfold mAs at h3; cases h3
      | cons y ys =>
        simp only [List.all_cons, Bool.and_eq_true] at hn
        exact imp_e (pe_call f4 c.rm g1 f1 f2 f3 .nil pass0 pa g2 (star_cons hn.1) (star_any hn.2)) fun σ H Q q => te_call h4 rfl hk q
    · cases h
  | .lc a t it cd own, s, X, e, c, h => by
    unfold mE at h
    split at h
    · rename_i elt tg iter ifs scope pos
      simp only [Bool.and_eq_true, decide_eq_true_eq, List.all_eq_true] at h
      obtain ⟨⟨⟨⟨⟨⟨⟨h1, h2⟩, h3⟩, h4⟩, h5⟩, h6⟩, h7⟩, h8⟩ := h
      refine imp_e (pe_lc (own := ownP m own) c.calm (by rw [c.N]; exact c.nd) (sndI it c h1) (blkOk_by (by rw [c.N, c.sc]; exact h3)) (fun s0 H C cl fp => (c.blk s0 H C cl fp).pg h5) (fun s0 H C cl fp => sndC cd (c.blk s0 H C cl fp) h7) (fun s0 H C cl fp => snd a (c.blk s0 H C cl fp) h8) (folded_nset h2)) fun σ H Q q => ?_
      rw [h4]
      exact te_lc h6 q
    · cases h
  | .lc2 a t it cd t2 it2 cd2 own own2, s, X, e, c, h => by
    unfold mE at h
    split at h
    · rename_i elt tg iter ifs tg2 iter2 ifs2 scope pos
      simp only [Bool.and_eq_true, decide_eq_true_eq, List.all_eq_true] at h
      obtain ⟨⟨⟨⟨⟨⟨⟨⟨⟨⟨⟨⟨⟨h1, h2⟩, h3⟩, h4⟩, h5⟩, h6⟩, h7⟩, h8⟩, h9⟩, h10⟩, h11⟩, h12⟩, h13⟩, h14⟩ := h
      refine imp_e (pe_lc2 (own := ownP m own) (vs1 := own2) c.calm (by rw [c.N]; exact c.nd) (sndI it c h1) (blkOk_by (by rw [c.N, c.sc]; exact h3)) (by rw [h4]; exact h13) (fun s0 H C cl fp => (c.blk s0 H C cl fp).pg h5) (fun s0 H C cl fp => sndC cd (c.blk s0 H C cl fp) h7)
        (fun s0 H C cl fp => sndI it2 (c.blk s0 H C cl fp) h9) (fun s0 H C cl fp => (c.blk s0 H C cl fp).pg h11) (fun s0 H C cl fp => sndC cd2 (c.blk s0 H C cl fp) h14) (fun s0 H C cl fp => snd a (c.blk s0 H C cl fp) h8) (folded_nset h2) (fun env => folded_nset h10)) fun σ H Q q => ?_
      rw [h4]
      exact te_lc2 h6 h12 h13 q
    · cases h
theorem sndT : ∀ (ie : E) {s : Sc} {X : Cx} {e : Expr}, Cok m R gl cs d s X → mE m ie s e = true → tOk ie e = true → PT X e (tT R ie.q (ev gl cs ie))
  | .not a, s, X, e, c, h, k => by
    unfold mE at h
    split at h
    · exact imp_t (pt_not (sndT a c h (by simpa [tOk] using k))) fun σ H Q q => tt_not q
    · cases h
  | .bop w es, s, X, e, c, h, k => by
    unfold mE at h
    split at h
    · simp only [Bool.and_eq_true] at h
      refine imp_t (sndBT es c h.2 (by simpa [tOk] using k) .And).pt fun σ H Q q => ?_
      simp only [ev] at q
      rw [h.1] at q
      exact q
    · simp only [Bool.and_eq_true] at h
      refine imp_t (sndBT es c h.2 (by simpa [tOk] using k) .Or).pt fun σ H Q q => ?_
      simp only [ev] at q
      rw [show w = false by simpa using h.1] at q
      exact q
    · cases h
  | .cmp o a b, s, X, e, c, h, k => by
    unfold mE at h
    split at h
    · simp only [Bool.and_eq_true, decide_eq_true_eq] at h
      obtain ⟨⟨⟨h1, h2⟩, h3⟩, h4⟩ := h
      subst h1
      refine imp_t (pt_cmpR (cmp_op c.units _) (snd a c h2) (snd b c h3) (behind_nset h4)) fun σ H Q q => ?_
      have q2 := tt_te (va := false) q
      simp only [ev] at q2
      refine te_op2 (r := rCmp X.K _) ?_ q2
      rw [← c.K]; exact cmp_ok _
    · cases h
  | .lit p, s, X, e, c, h, k => imp_t (pt_val (snd (.lit p) c h) (isTrue_plainT (by simpa [tOk] using k))) fun σ H Q q => tt_te q
  | .rd i, s, X, e, c, h, k => imp_t (pt_val (snd (.rd i) c h) (isTrue_plainT (by simpa [tOk] using k))) fun σ H Q q => tt_te q
  | .vw i, s, X, e, c, h, k => imp_t (pt_val (snd (.vw i) c h) (isTrue_plainT (by simpa [tOk] using k))) fun σ H Q q => tt_te q
  | .fz i, s, X, e, c, h, k => imp_t (pt_val (snd (.fz i) c h) (isTrue_plainT (by simpa [tOk] using k))) fun σ H Q q => tt_te q
  | .mv i, s, X, e, c, h, k => imp_t (pt_val (snd (.mv i) c h) (isTrue_plainT (by simpa [tOk] using k))) fun σ H Q q => tt_te q
  | .glob i, s, X, e, c, h, k => imp_t (pt_val (snd (.glob i) c h) (isTrue_plainT (by simpa [tOk] using k))) fun σ H Q q => tt_te q
  | .bin o a b, s, X, e, c, h, k => imp_t (pt_val (snd (.bin o a b) c h) (isTrue_plainT (by simpa [tOk] using k))) fun σ H Q q => tt_te q
  | .un o a, s, X, e, c, h, k => imp_t (pt_val (snd (.un o a) c h) (isTrue_plainT (by simpa [tOk] using k))) fun σ H Q q => tt_te q
  | .ite o a b, s, X, e, c, h, k => imp_t (pt_val (snd (.ite o a b) c h) (isTrue_plainT (by simpa [tOk] using k))) fun σ H Q q => tt_te q
  | .tup es, s, X, e, c, h, k => imp_t (pt_val (snd (.tup es) c h) (isTrue_plainT (by simpa [tOk] using k))) fun σ H Q q => tt_te q
  | .lst es, s, X, e, c, h, k => imp_t (pt_val (snd (.lst es) c h) (isTrue_plainT (by simpa [tOk] using k))) fun σ H Q q => tt_te q
  | .sub a b, s, X, e, c, h, k => imp_t (pt_val (snd (.sub a b) c h) (isTrue_plainT (by simpa [tOk] using k))) fun σ H Q q => tt_te q
  | .slc a b1 b2 x y, s, X, e, c, h, k => imp_t (pt_val (snd (.slc a b1 b2 x y) c h) (isTrue_plainT (by simpa [tOk] using k))) fun σ H Q q => tt_te q
  | .bi o es, s, X, e, c, h, k => imp_t (pt_val (snd (.bi o es) c h) (isTrue_plainT (by simpa [tOk] using k))) fun σ H Q q => tt_te q
  | .frz a, s, X, e, c, h, k => imp_t (pt_val (snd (.frz a) c h) (isTrue_plainT (by simpa [tOk] using k))) fun σ H Q q => tt_te q
  | .bm o a es, s, X, e, c, h, k => imp_t (pt_val (snd (.bm o a es) c h) (isTrue_plainT (by simpa [tOk] using k))) fun σ H Q q => tt_te q
  | .bk o a es, s, X, e, c, h, k => imp_t (pt_val (snd (.bk o a es) c h) (isTrue_plainT (by simpa [tOk] using k))) fun σ H Q q => tt_te q
  | .isi o es a, s, X, e, c, h, k => imp_t (pt_val (snd (.isi o es a) c h) (isTrue_plainT (by simpa [tOk] using k))) fun σ H Q q => tt_te q
  | .mu o i es, s, X, e, c, h, k => imp_t (pt_val (snd (.mu o i es) c h) (isTrue_plainT (by simpa [tOk] using k))) fun σ H Q q => tt_te q
  | .call o es, s, X, e, c, h, k => imp_t (pt_val (snd (.call o es) c h) (isTrue_plainT (by simpa [tOk] using k))) fun σ H Q q => tt_te q
  | .lc a t it cd own, s, X, e, c, h, k => imp_t (pt_val (snd (.lc a t it cd own) c h) (isTrue_plainT (by simpa [tOk] using k))) fun σ H Q q => tt_te q
  | .lc2 a t it cd t2 it2 cd2 own own2, s, X, e, c, h, k => imp_t (pt_val (snd (.lc2 a t it cd t2 it2 cd2 own own2) c h) (isTrue_plainT (by simpa [tOk] using k))) fun σ H Q q => tt_te q
theorem snds : ∀ (es : Es) {s : Sc} {X : Cx} {xs : List Expr}, Cok m R gl cs d s X → mEs m es s xs = true → PA X xs (tA R es.q es.vs (evs gl cs es))
  | .nil, s, X, xs, c, h => by
    unfold mEs at h
    split at h
    · exact imp_a pa_nil fun σ H Q q => ta_nil q
    · cases h
  | .cons a es, s, X, xs, c, h => by
    unfold mEs at h
    split at h
    · simp only [Bool.and_eq_true] at h
      exact imp_a (pa_cons (snd a c h.1.2) (snds es c h.2) (star_cons h.1.1)) fun σ H Q q => ta_cons q
    · cases h
theorem sndB : ∀ (es : Es) {s : Sc} {X : Cx} {xs : List Expr} {pos : Pos} {va : Bool}, Cok m R gl cs d s X → mEs m es s xs = true → ∀ (op : BoolOp), PE X (.BoolOp op xs pos) (tE R es.q va (evB gl cs (match op with | .And => true | .Or => false) es))
  | .nil, s, X, xs, pos, va, c, h, op => ⟨fun _ _ _ _ _ _ ⟨_, _, _, _, _, _, e, _⟩ => by simp only [evB] at e; cases e⟩
  | .cons a .nil, s, X, xs, pos, va, c, h, op => by
    unfold mEs at h
    split at h
    · rename_i x xs
      simp only [Bool.and_eq_true] at h
      have e : xs = [] := by
        have := h.2
        unfold mEs at this
        split at this
        · rfl
        · cases this
      subst e
      exact imp_e (pe_one (snd a c h.1.2)) fun σ H Q q => te_b1 q
    · cases h
  | .cons a (.cons b es), s, X, xs, pos, va, c, h, op => by
    unfold mEs at h
    split at h
    · rename_i x xs
      simp only [Bool.and_eq_true] at h
      cases xs with
      | nil => have := h.2; unfold mEs at this; cases this
      | cons y ys =>
        have ha := snd a c h.1.2
        cases op with
        | And =>
          refine imp_e (pe_and ha (sndB (.cons b es) (va := va) c h.2 .And)) fun σ H Q q => ?_
          refine te_mono (te_bc q) fun v H1 ⟨c0, e, k⟩ => ⟨c0, e, ?_⟩
          cases c0 with
          | true => exact iteT (by rw [if_pos rfl] at k; exact k)
          | false => exact iteF (by rw [if_neg (by decide)] at k; exact k)
        | Or =>
          refine imp_e (pe_or ha (sndB (.cons b es) (va := va) c h.2 .Or)) fun σ H Q q => ?_
          refine te_mono (te_bc q) fun v H1 ⟨c0, e, k⟩ => ⟨c0, e, ?_⟩
          cases c0 with
          | true => exact iteT (by rw [if_neg (by decide)] at k; exact k)
          | false => exact iteF (by rw [if_pos rfl] at k; exact k)
    · cases h
theorem sndBT : ∀ (es : Es) {s : Sc} {X : Cx} {xs : List Expr} {pos : Pos}, Cok m R gl cs d s X → mEs m es s xs = true → tOks es xs = true → ∀ (op : BoolOp), PW X (.BoolOp op xs pos) (tT R es.q (evB gl cs (match op with | .And => true | .Or => false) es))
  | .nil, s, X, xs, pos, c, h, k, op => ⟨fun _ _ _ _ _ _ _ ⟨_, _, _, _, _, _, e, _⟩ => by simp only [evB] at e; cases e⟩
  | .cons a .nil, s, X, xs, pos, c, h, k, op => by
    unfold mEs at h
    split at h
    · rename_i x xs
      simp only [Bool.and_eq_true] at h
      simp only [tOks, Bool.and_eq_true] at k
      have e : xs = [] := by
        have := h.2
        unfold mEs at this
        split at this
        · rfl
        · cases this
      subst e
      have ha := sndT a c h.1.2 k.1
      cases op with
      | And => exact ⟨fun w pins s0 σ H Q I q => (pw_and1 ha).run w pins s0 σ H Q I (tt_b1 q)⟩
      | Or => exact ⟨fun w pins s0 σ H Q I q => (pw_or1 ha).run w pins s0 σ H Q I (tt_b1 q)⟩
    · cases h
  | .cons a (.cons b es), s, X, xs, pos, c, h, k, op => by
    unfold mEs at h
    split at h
    · rename_i x xs
      simp only [Bool.and_eq_true] at h
      cases xs with
      | nil => have := h.2; unfold mEs at this; cases this
      | cons y ys =>
        simp only [tOks, Bool.and_eq_true] at k
        have ha := sndT a c h.1.2 k.1
        have k2 : tOks (.cons b es) (y :: ys) = true := by simp only [tOks, Bool.and_eq_true]; exact k.2
        cases op with
        | And =>
          have hb := sndBT (.cons b es) (pos := pos) c h.2 k2 .And
          refine ⟨fun w pins s0 σ H Q I q => (pw_and ha hb).run w pins s0 σ H Q I ?_⟩
          obtain ⟨M, ρ, F, en, r, ρ', h1, h2⟩ := tt_bc q
          refine ⟨M, ρ, F, en, r, ρ', h1, fun H' M' F' P => ?_⟩
          have z := h2 H' M' F' P
          cases r with
          | true => exact iteT (by rw [if_pos rfl] at z; exact z)
          | false => exact iteF (by rw [if_neg (by decide)] at z; exact z)
        | Or =>
          have hb := sndBT (.cons b es) (pos := pos) c h.2 k2 .Or
          refine ⟨fun w pins s0 σ H Q I q => (pw_or ha hb).run w pins s0 σ H Q I ?_⟩
          obtain ⟨M, ρ, F, en, r, ρ', h1, h2⟩ := tt_bc q
          refine ⟨M, ρ, F, en, r, ρ', h1, fun H' M' F' P => ?_⟩
          have z := h2 H' M' F' P
          cases r with
          | true => exact iteT (by rw [if_neg (by decide)] at z; exact z)
          | false => exact iteF (by rw [if_pos rfl] at z; exact z)
    · cases h
theorem sndAs : ∀ (as : As) {s : Sc} {X : Cx} {xs : List Expr}, Cok m R gl cs d s X → mAs m as s xs = true → PA X xs (tAs R as.q as (evAs gl cs as))
  | .nil, s, X, xs, c, h => by
    unfold mAs at h
    split at h
    · exact imp_a pa_nil fun σ H Q q => tas_nil q
    · cases h
  | .io i as, s, X, xs, c, h => by
    unfold mAs at h
    split at h
    · simp only [Bool.and_eq_true] at h
      exact imp_a (pa_cons (c.nm h.1) (sndAs as c h.2) (star_cons rfl)) fun σ H Q q => tas_io q
    · cases h
  | .dat a as, s, X, xs, c, h => by
    unfold mAs at h
    split at h
    · simp only [Bool.and_eq_true] at h
      exact imp_a (pa_cons (snd a c h.1.2) (sndAs as c h.2) (star_cons h.1.1)) fun σ H Q q => tas_dat q
    · cases h
theorem sndC : ∀ (es : Es) {s : Sc} {X : Cx} {xs : List Expr}, Cok m R gl cs d s X → mC m es s xs = true → PTs X xs (tT R es.q (evC gl cs es))
  | .nil, s, X, xs, c, h => by
    unfold mC at h
    split at h
    · refine ⟨fun pins s0 σ H Q I q => pts_nil.run pins s0 σ H Q I ?_⟩
      obtain ⟨M, ρ, F, en, r, ρ', h1, h2⟩ := q
      simp only [evC] at h1
      cases h1
      exact h2 H M F (.refl en)
    · cases h
  | .cons a es, s, X, xs, c, h => by
    unfold mC at h
    split at h
    · simp only [Bool.and_eq_true] at h
      refine ⟨fun pins s0 σ H Q I q => (pts_one (sndT a c h.1 h.2)).run pins s0 σ H Q I ?_⟩
      obtain ⟨M, ρ, F, en, r, ρ', h1, h2⟩ := q
      simp only [evC] at h1
      exact ⟨M, ρ, F, en, r, ρ', h1, fun H' M' F' P => h2 H' M' F' (P.weak fun z => by simpa [Es.q] using z)⟩
    · cases h
theorem sndI : ∀ (it : I) {s : Sc} {X : Cx} {tg e : Expr}, Cok m R gl cs d s X → mI m it s tg e = true → PI X tg e (tI R it.q (evI gl cs it))
  | .seq a, s, X, tg, e, c, h => by
    unfold mI at h
    have pa := snd a c h
    exact imp_i (pi_or (pi_list pa) (pi_tup pa)) fun σ H Rr q => ti_seq c.K q
  | .range1 a, s, X, tg, e, c, h => by
    unfold mI at h
    split at h
    · simp only [Bool.and_eq_true, decide_eq_true_eq] at h
      obtain ⟨⟨⟨⟨h1, h2⟩, h3⟩, h4⟩, h5⟩ := h
      obtain ⟨g1, g2⟩ := c.gl' h3
      subst h1
      exact imp_i (pi_range1 g1 (c.free _ h2) (pa_cons (snd a c h5) pa_nil (star_cons h4)) (star_cons h4)) fun σ H Rr q => ti_range1 q
    · cases h
  | .range2 a b, s, X, tg, e, c, h => by
    unfold mI at h
    split at h
    · simp only [Bool.and_eq_true, decide_eq_true_eq] at h
      obtain ⟨⟨⟨⟨⟨⟨h1, h2⟩, h3⟩, h4⟩, h5⟩, h6⟩, h7⟩ := h
      obtain ⟨g1, g2⟩ := c.gl' h3
      subst h1
      have sb := star_cons (es := []) (env := X.env) h6
      exact imp_i (pi_range2 g1 (c.free _ h2) (pa_cons (snd a c h5) (pa_cons (snd b c h7) pa_nil sb) (star_cons h4)) (by rw [star_cons h4, sb]; rfl) sb) fun σ H Rr q => ti_range2 q
    · cases h
  | .enum a, s, X, tg, e, c, h => by
    unfold mI at h
    split at h
    · simp only [Bool.and_eq_true, decide_eq_true_eq] at h
      obtain ⟨⟨⟨⟨h1, h2⟩, h3⟩, h4⟩, h5⟩ := h
      obtain ⟨g1, g2⟩ := c.gl' h3
      subst h1
      have sa := star_cons (es := []) (env := X.env) h4
      have pa := pa_cons (snd a c h5) pa_nil sa
      exact imp_i (pi_or (pi_enum g1 (c.free _ h2) pa sa) (pi_enumT g1 (c.free _ h2) pa sa)) fun σ H Rr q => ti_enum c.K q
    · cases h
  | .zip a b, s, X, tg, e, c, h => by
    unfold mI at h
    split at h
    · simp only [Bool.and_eq_true, decide_eq_true_eq] at h
      obtain ⟨⟨⟨⟨⟨⟨h1, h2⟩, h3⟩, h4⟩, h5⟩, h6⟩, h7⟩ := h
      obtain ⟨g1, g2⟩ := c.gl' h3
      subst h1
      have sb := star_cons (es := []) (env := X.env) h6
      exact imp_i (pi_zipA g1 (c.free _ h2) (pa_cons (snd a c h5) (pa_cons (snd b c h7) pa_nil sb) (star_cons h4)) (star_cons h4) (by rw [sb]; rfl)) fun σ H Rr q => ti_zip c.K q
    · cases h
end
end
end Ev

set_option Elab.async false
set_option linter.all false
set_option maxHeartbeats 8000000
set_option autoImplicit false
namespace Ev
open PySem PySem.Spec PyProof.Rows L2 RZ
section
variable {R : RC} {H H' H1 H2 : Hp} {M M' M1 M2 : Mt} {X : Cx} {σ σ1 σ2 : L2.St} {ρ ρ1 ρ2 ρ' : Env} {F F1 F2 : Fp} {v : V} {f g : List Addr} {gl : Nat → PV} {cs : CS} {p : PV} {q va : Bool} {io : List Nat} {D : Ends}

structure SPost (R : RC) (io : List Nat) (H : Hp) (M : Mt) (F : Fp) (σ σ' : L2.St) (ρ' : Env) (H' : Hp) (M' : Mt) (F' : Fp) : Prop where
  env : EnvOk R H' M' σ' ρ' F'
  mv : Mv H M F.any H' M'
  fnew : ∀ a, F'.any a → F.any a ∨ H a = none
  io : ∀ i ∈ io, σ'[i]? = σ[i]?
theorem SPost.trans (tr : ∀ a, M a → H a ≠ none) (a : SPost R io H M F σ σ1 ρ1 H1 M1 F1) (b : SPost R io H1 M1 F1 σ1 σ2 ρ2 H2 M2 F2) : SPost R io H M F σ σ2 ρ2 H2 M2 F2 :=
  ⟨b.env, a.mv.trans b.mv a.fnew tr, fun x h => back_new a.mv a.fnew (b.fnew x h), fun i hi => (b.io i hi).trans (a.io i hi)⟩
theorem SPost.refl (e : EnvOk R H M σ ρ F) : SPost R io H M F σ σ ρ H M F := ⟨e, .refl, fun _ h => .inl h, fun _ _ => rfl⟩
theorem PostT.s (P : PostT R H M F σ q ρ ρ1 H1 M1 F1) : SPost R io H M F σ σ ρ1 H1 M1 F1 := ⟨P.env, P.mv, P.fnew, fun _ _ => rfl⟩
def SOk (R : RC) (io : List Nat) (σ : L2.St) (H : Hp) (M : Mt) (F : Fp) (res : SRes) (D : Ends) : Prop := match res with
  | .nx ρ' => ∀ σ' H' M' F', SPost R io H M F σ σ' ρ' H' M' F' → D.nx σ' H'
  | .bk ρ' => ∀ σ' H' M' F', SPost R io H M F σ σ' ρ' H' M' F' → D.bk σ' H'
  | .ct ρ' => ∀ σ' H' M' F', SPost R io H M F σ σ' ρ' H' M' F' → D.ct σ' H'
  | .rt p ρ' => ∀ v σ' H' M' F' f, SPost R io H M F σ σ' ρ' H' M' F' → Rep R H' M' p v f → (f.Nodup ∧ ∀ a ∈ f, ¬ F'.any a) → (∀ a ∈ f, F.any a ∨ H a = none) → D.rt v H'
  | .stuck => False
  | .exn _ _ _ => False
theorem SOk.shift {res : SRes} (tr : ∀ a, M a → H a ≠ none) (P : SPost R io H M F σ σ1 ρ1 H1 M1 F1) (h : SOk R io σ H M F res D) : SOk R io σ1 H1 M1 F1 res D := by
  cases res with
  | nx ρ' => exact fun σ' H' M' F' Q => h σ' H' M' F' (P.trans tr Q)
  | bk ρ' => exact fun σ' H' M' F' Q => h σ' H' M' F' (P.trans tr Q)
  | ct ρ' => exact fun σ' H' M' F' Q => h σ' H' M' F' (P.trans tr Q)
  | rt p ρ' => exact fun v σ' H' M' F' f Q r o n => h v σ' H' M' F' f (P.trans tr Q) r o fun a ha => back_new P.mv P.fnew (n a ha)
  | stuck => exact h
  | exn _ _ _ => exact h
def tSt (R : RC) (io : List Nat) (g : Env → SRes) : TS := fun D σ H => ∃ M ρ F, EnvOk R H M σ ρ F ∧ SOk R io σ H M F (g ρ) D
theorem imp_s {st : Stmt} {t u : TS} (h : PS X st t) (w : ∀ D σ H, u D σ H → t D σ H) : PS X st u := ⟨fun pins s σ H D I q => h.run pins s σ H D I (w D σ H q)⟩
theorem imp_ss {st : List Stmt} {t u : TS} (h : PSs X st t) (w : ∀ D σ H, u D σ H → t D σ H) : PSs X st u := ⟨fun pins s σ H D I q => h.run pins s σ H D I (w D σ H q)⟩

/-- from an expression's value on -/
theorem to_ok {x : Res PV} {k : PV → Env → SRes} (h : SOk R io σ H M F (x.to k) D) : ∃ p ρ1, x = .ok p ρ1 ∧ SOk R io σ H M F (k p ρ1) D := by
  cases x with
  | ok p ρ1 => exact ⟨p, ρ1, rfl, h⟩
  | stuck => exact h.elim
  | exn _ _ _ => exact h.elim
theorem tos_ok {x : Res (List PV)} {k : List PV → Env → SRes} (h : SOk R io σ H M F (x.to k) D) : ∃ p ρ1, x = .ok p ρ1 ∧ SOk R io σ H M F (k p ρ1) D := by
  cases x with
  | ok p ρ1 => exact ⟨p, ρ1, rfl, h⟩
  | stuck => exact h.elim
  | exn _ _ _ => exact h.elim
theorem ts_seq {s : S} {s2 : S} {ss : Ss} {fu : Nat} (h : tSt R io (evSs gl cs fu (.cons s (.cons s2 ss))) D σ H) : tSeq (tSt R io (evS gl cs fu s)) (tSt R io (evSs gl cs fu (.cons s2 ss))) D σ H := by
  obtain ⟨M, ρ, F, e, k⟩ := h
  refine ⟨M, ρ, F, e, ?_⟩
  have k : SOk R io σ H M F ((evS gl cs fu s ρ).seq (evSs gl cs fu (.cons s2 ss))) D := by
    have : evSs gl cs fu (.cons s (.cons s2 ss)) ρ = (evS gl cs fu s ρ).seq (evSs gl cs fu (.cons s2 ss)) := by rw [evSs]
    rw [← this]; exact k
  cases r : evS gl cs fu s ρ with
  | nx ρ1 =>
    rw [r] at k
    exact fun σ' H' M' F' P => ⟨M', ρ1, F', P.env, SOk.shift e.tr P k⟩
  | bk ρ1 => rw [r] at k; exact k
  | ct ρ1 => rw [r] at k; exact k
  | rt p ρ1 => rw [r] at k; exact k
  | stuck => rw [r] at k; exact k
  | exn _ _ _ => rw [r] at k; exact k
theorem ts_asg {t : T} {e : E} {fu : Nat} (hio : ∀ i ∈ t.slots, i ∉ io) (h : tSt R io (evS gl cs fu (.set t e)) D σ H) : tE R e.q e.v (ev gl cs e) σ H fun x H1 => gT R.K t x σ H1 D.nx := by
  obtain ⟨M, ρ, F, en, k⟩ := h
  simp only [evS] at k
  obtain ⟨p, ρ1, ee, k⟩ := to_ok k
  split at k
  · rename_i c
    split at k
    · rename_i ρ2 ea
      refine ⟨M, ρ, F, en, p, ρ1, ee, fun v H1 M1 F1 f P => ?_⟩
      obtain ⟨o1, o2⟩ := ownC P.rep P.own c
      refine asg_ok P.env P.rep o1 o2 ea fun σ' F' e2 an out len zz => ?_
      refine k σ' H1 M1 F' ⟨e2, P.mv, fun a z => ?_, fun i hi => (out i fun z => hio i z hi).1⟩
      rcases an a z with y | y
      · exact P.fnew a y
      · exact P.ffr a y
    · exact k.elim
  · exact k.elim
theorem isLst_ok {p : Option PV} (h : isLst p = true) : ∃ w l, p = some (.lst w l) := by
  unfold isLst at h
  split at h
  · exact ⟨_, _, rfl⟩
  · cases h
theorem ts_setAt {i : Nat} {ix e : E} {fu : Nat} (h : tSt R io (evS gl cs fu (.setAt i ix e)) D σ H) : tE R e.q e.v (ev gl cs e) σ H fun x H1 => gSub (tVar i) (tE R ix.q ix.v (ev gl cs ix)) rSetL x σ H1 D.nx := by
  obtain ⟨M, ρ, F, en, k⟩ := h
  simp only [evS] at k
  obtain ⟨p, ρ1, ee, k⟩ := to_ok k
  split at k
  · rename_i c
    simp only [Bool.and_eq_true] at c
    obtain ⟨pq, ρ2, ei, k⟩ := to_ok k
    split at k
    · rename_i kk l hg
      split at k
      · rename_i j hj
        refine ⟨M, ρ, F, en, p, ρ1, ee, fun v H1 M1 F1 f P => ?_⟩
        obtain ⟨w0, l0, hs⟩ := isLst_ok c.2
        obtain ⟨v0, hv0, r0⟩ := P.env.at' i _ (getE_some hs)
        obtain ⟨a, xs0, g0, k1, k2, k3, _⟩ := rep_lst r0
        obtain ⟨t1, rp⟩ := P.frz en c.1
        refine ⟨v0, hv0, _, ρ1, F1, t1.env, _, ρ2, ei, fun y H2 M2 F2 f2 P2 => ?_⟩
        have rp2 := rep_stay P2.mv (gM_of t1.env) (gm_of t1.env) rp fun _ z => (nomatch z)
        obtain ⟨v1, hv1, r1⟩ := P2.env.at' i _ (getE_some hg)
        rw [hv0] at hv1
        have ev : v0 = v1 := by simpa using hv1
        subst ev
        obtain ⟨b, xs, g, j1, j2, j3, j4, _⟩ := rep_lst r1
        have eb : b = a := by rw [k1] at j1; injection j1 with z; exact z.symm
        subst eb
        obtain ⟨mA, hF⟩ := j4 rfl
        have ng := P2.env.nd i
        rw [hF] at ng
        obtain ⟨g', d1, d2⟩ := reps_set j j3 rp2
        have t2 := t1.then en P2.tt
        have an : b ∉ g' := fun z => (List.nodup_cons.mp ng).1 (d2.mem z)
        refine ⟨b, xs, kk, j, j1, (rep_int P2.rep).1, j2, by rw [reps_len j3]; exact hj, ?_⟩
        have e2 := upd_env P2.env (by rw [hv0, j1]) j2 mA hF d1 ((List.nodup_cons.mp ng).2.sublist d2) (fun x hx => .inl (d2.mem hx)) an
        have m2 := Mv.at (o := .lst (xs.set j v)) (H := H2) mA
        have mu2 : ∀ x, x = b → F2.any x := fun x z => ⟨i, by rw [hF, z]; simp⟩
        refine k σ _ M2 _ ⟨e2, t2.mv.trans m2 (fun x z => t2.fnew x (mu2 x z)) en.tr, fun x z => ?_, fun _ _ => rfl⟩
        rcases put_any z with y | y
        · exact t2.fnew x y
        · rcases List.mem_cons.mp y with y | y
          · exact t2.fnew x (mu2 x y)
          · exact t2.fnew x ⟨i, by rw [hF]; simp [d2.mem y]⟩
      · exact k.elim
    · exact k.elim
  · exact k.elim
theorem ts_par {i j : Nat} {a b : E} {fu : Nat} (hi : i ∉ io) (hj : j ∉ io) (h : tSt R io (evS gl cs fu (.par i j a b)) D σ H) : tPar i j (tCons (tE R a.q a.v (ev gl cs a)) (tCons (tE R b.q b.v (ev gl cs b)) tNil)) D σ H := by
  obtain ⟨M, ρ, F, en, k⟩ := h
  simp only [evS] at k
  obtain ⟨p, ρ1, ea, k⟩ := to_ok k
  split at k
  · rename_i c
    obtain ⟨p2, ρ2, eb, k⟩ := to_ok k
    split at k
    · rename_i c2
      simp only [Bool.and_eq_true, decide_eq_true_eq] at c2
      obtain ⟨⟨⟨c3, c4⟩, c5⟩, c6⟩ := c2
      refine ⟨M, ρ, F, en, p, ρ1, ea, fun v H1 M1 F1 f P => ?_⟩
      refine ⟨M1, ρ1, F1, P.env, p2, ρ2, eb, fun w H2 M2 F2 f2 P2 => ?_⟩
      refine ⟨v, w, rfl, ?_⟩
      have ef := rep_pure c P.rep
      subst ef
      have ef2 := rep_pure c3 P2.rep
      subst ef2
      have r1 := rep_stay P2.mv (gM_of P.env) (gm_of P.env) P.rep fun _ z => (nomatch z)
      have e1 := P2.env.put' (i := i) r1 List.nodup_nil (fun _ z => (nomatch z)) c5
      have e2 := e1.put' (i := j) P2.rep List.nodup_nil (fun _ z => (nomatch z)) (by rw [List.length_set]; exact c6)
      have t := P.tt.then en P2.tt
      refine k _ H2 M2 _ ⟨e2, t.mv, fun x z => ?_, fun y hy => ?_⟩
      · rcases put_any z with z | z
        · rcases put_any z with z | z
          · exact t.fnew x z
          · cases z
        · cases z
      · rw [List.getElem?_set_ne (fun (z : j = y) => hj (by rw [z]; exact hy)), List.getElem?_set_ne (fun (z : i = y) => hi (by rw [z]; exact hy))]
    · exact k.elim
  · exact k.elim
def augR (o : Operator) : TIp := match o with
  | .Add => ipI fun i j => i + j
  | .Sub => ipI fun i j => i - j
  | _ => fun _ _ _ _ => False
theorem aug_op (o : Operator) : PIp X o (augR o) := by
  cases o <;> first
    | exact ip_add
    | exact ip_sub
    | exact fun _ _ _ _ _ _ _ _ _ _ _ _ h => h.elim
theorem ts_aug {i : Nat} {o : Operator} {e : E} {fu : Nat} (hi : i ∉ io) (h : tSt R io (evS gl cs fu (.aug i o e)) D σ H) : tAug i (tE R e.q e.v (ev gl cs e)) (augR o) D σ H := by
  obtain ⟨M, ρ, F, en, k⟩ := h
  simp only [evS] at k
  obtain ⟨p, ρ1, ee, k⟩ := to_ok k
  split at k
  · rename_i p0 hp
    split at k
    · rename_i r hr
      obtain ⟨v0, hv0, r0⟩ := en.at' i _ (getE_some hp)
      refine ⟨v0, hv0, M, ρ, F, en, p, ρ1, ee, fun y H1 M1 F1 f P => ?_⟩
      unfold augOp at hr
      split at hr
      · rename_i a b
        have ha := (rep_int r0).1
        have hb := (rep_int P.rep).1
        have hlen : i < ρ1.length := by
          rw [P.env.len]; exact (List.getElem?_eq_some_iff.mp hv0).1
        have fin : ∀ n : Int, r = .int n → D.nx (σ.set i (some (.int n))) H1 := fun n e => by
          subst e
          have e2 := P.env.put' (i := i) (p := .int n) (v := .int n) .int List.nodup_nil (fun _ z => (nomatch z)) hlen
          refine k _ H1 M1 _ ⟨e2, P.mv, fun x z => ?_, fun y hy => ?_⟩
          · rcases put_any z with z | z
            · exact P.fnew x z
            · cases z
          · rw [List.getElem?_set_ne (fun (z : i = y) => hi (by rw [z]; exact hy))]
        cases o <;> simp only at hr <;> try cases hr
        · exact ⟨a, b, ha, hb, fin _ rfl⟩
        · exact ⟨a, b, ha, hb, fin _ rfl⟩
      · cases hr
    · exact k.elim
  · exact k.elim
theorem ts_expr {e : E} {fu : Nat} (h : tSt R io (evS gl cs fu (.expr e)) D σ H) : tDrop (tE R e.q e.v (ev gl cs e)) D σ H := by
  obtain ⟨M, ρ, F, en, k⟩ := h
  simp only [evS] at k
  obtain ⟨p, ρ1, ee, k⟩ := to_ok k
  exact ⟨M, ρ, F, en, p, ρ1, ee, fun y H1 M1 F1 f P => k σ H1 M1 F1 P.tt.s⟩
theorem ts_ret {e : E} {fu : Nat} (h : tSt R io (evS gl cs fu (.ret e)) D σ H) : tRet (tE R e.q e.v (ev gl cs e)) D σ H := by
  obtain ⟨M, ρ, F, en, k⟩ := h
  simp only [evS] at k
  obtain ⟨p, ρ1, ee, k⟩ := to_ok k
  split at k
  · rename_i c
    exact ⟨M, ρ, F, en, p, ρ1, ee, fun y H1 M1 F1 f P => k y σ H1 M1 F1 f P.tt.s P.rep (ownC P.rep P.own c) P.ffr⟩
  · exact k.elim
theorem ts_retN {fu : Nat} (h : tSt R io (evS gl cs fu .retN) D σ H) : tRetN D σ H := by
  obtain ⟨M, ρ, F, en, k⟩ := h
  simp only [evS] at k
  exact k .non σ H M F [] (.refl en) .non ⟨List.nodup_nil, fun _ z => (nomatch z)⟩ fun _ z => (nomatch z)
theorem ts_ite {c : E} {a b : Ss} {fu : Nat} (h : tSt R io (evS gl cs fu (.ite c a b)) D σ H) : tIfS (tT R c.q (ev gl cs c)) (tSt R io (evSs gl cs fu a)) (tSt R io (evSs gl cs fu b)) D σ H := by
  obtain ⟨M, ρ, F, en, k⟩ := h
  simp only [evS] at k
  obtain ⟨p, ρ1, ee, k⟩ := to_ok k
  split at k
  · exact ⟨M, ρ, F, en, true, ρ1, ee, fun H1 M1 F1 P => iteT ⟨M1, ρ1, F1, P.env, SOk.shift en.tr P.s k⟩⟩
  · exact ⟨M, ρ, F, en, false, ρ1, ee, fun H1 M1 F1 P => iteF ⟨M1, ρ1, F1, P.env, SOk.shift en.tr P.s k⟩⟩
  · exact k.elim
/-- behind a turn -/
theorem turn_ok {r : SRes} {g : Env → SRes} {N : L2.St → Hp → Prop} (h : SOk R io σ H M F (r.turn g) D) (hn : ∀ ρ', SOk R io σ H M F (g ρ') D → ∀ σ' H' M' F', SPost R io H M F σ σ' ρ' H' M' F' → N σ' H') :
    SOk R io σ H M F r { D with nx := N, ct := N, bk := D.nx } := by
  cases r with
  | nx ρ' => exact fun σ' H' M' F' P => hn ρ' h σ' H' M' F' P
  | ct ρ' => exact fun σ' H' M' F' P => hn ρ' h σ' H' M' F' P
  | bk ρ' => exact h
  | rt p ρ' => exact h
  | stuck => exact h
  | exn _ _ _ => exact h
theorem ts_for {t : T} {it : I} {b : Ss} {fu : Nat} (hio : ∀ i ∈ t.slots, i ∉ io) (h : tSt R io (evS gl cs fu (.for t it b)) D σ H) : tFor (tI R it.q (evI gl cs it)) (gT R.K t) (tSt R io (evSs gl cs fu b)) D σ H := by
  obtain ⟨M, ρ, F, en, k⟩ := h
  simp only [evS] at k
  obtain ⟨xs, ρb, ei, k⟩ := tos_ok k
  refine ⟨M, ρ, F, en, xs, ρb, ei, fun J Hb Mb Fb P itok => ?_⟩
  obtain ⟨G, Y, wk, itk⟩ := itok
  refine for_it wk (fun i σc Hc => ∃ Mc ρc Fc, EnvOk R Hc Mc σc ρc Fc ∧ ItAt R Hc Mc xs G Y ∧ SOk R io σc Hc Mc Fc (forLoop (asgT t) (evSs gl cs fu b) (xs.drop i) ρc) D) ?_ ?_ ?_ ?_
  · exact ⟨Mb, ρb, Fb, P.env, itk, SOk.shift en.tr P.s k⟩
  · rintro i σc Hc hi ⟨Mc, ρc, Fc, e1, e2, _⟩
    exact (e2 Hc Mc NoG .refl (fun _ z => z.elim) (fun _ z => z.elim) e1.tr).1
  · rintro i x σc Hc H3 hi ⟨Mc, ρc, Fc, e1, e2, e3⟩ hY
    have hx : xs[i]? = some xs[i] := List.getElem?_eq_getElem hi
    obtain ⟨m3, r3⟩ := (e2 Hc Mc NoG .refl (fun _ z => z.elim) (fun _ z => z.elim) e1.tr).2 i x H3 _ hx hY
    have tr3 : ∀ a, Mc a → H3 a ≠ none := fun a h => m3.th a (e1.tr a h)
    have e4 := e1.stay m3 tr3
    have ia3 := e2.move m3 (fun _ z => z.elim) (fun _ z => z.elim) e1.tr
    have s3 : SPost R io Hc Mc Fc σc σc ρc H3 Mc Fc := ⟨e4, m3.mono fun _ z => z.elim, fun _ z => .inl z, fun _ _ => rfl⟩
    rw [List.drop_eq_getElem_cons hi] at e3
    unfold forLoop at e3
    split at e3
    · exact e3.elim
    · rename_i ρ1 ea
      refine asg_ok e4 r3 List.nodup_nil (fun _ z => (nomatch z)) ea fun σ2 F2 e5 an out len zz => ?_
      have s4 : SPost R io H3 Mc Fc σc σ2 ρ1 H3 Mc F2 := ⟨e5, .refl, fun a z => (an a z).elim .inl fun y => (nomatch y), fun i hi => (out i fun z => hio i z hi).1⟩
      refine ⟨Mc, ρ1, F2, e5, ?_⟩
      refine turn_ok (SOk.shift e1.tr (s3.trans e1.tr s4) e3) fun ρ' hs σ' H' M' F' P' => ?_
      exact ⟨M', ρ', F', P'.env, ia3.move P'.mv (gM_of e5) (gm_of e5) tr3, SOk.shift tr3 P' hs⟩
  · rintro σc Hc ⟨Mc, ρc, Fc, e1, e2, e3⟩
    rw [List.drop_of_length_le (Nat.le_refl _)] at e3
    exact e3 σc Hc Mc Fc (.refl e1)
theorem ts_while {c : E} {b : Ss} {fu : Nat} (h : tSt R io (evS gl cs fu (.while c b)) D σ H) : tWhile (tT R c.q (ev gl cs c)) (tSt R io (evSs gl cs fu b)) D σ H := by
  obtain ⟨M, ρ, F, en, k⟩ := h
  simp only [evS] at k
  refine ⟨fun n σc Hc => ∃ Mc ρc Fc, EnvOk R Hc Mc σc ρc Fc ∧ SOk R io σc Hc Mc Fc (whileLoop (ev gl cs c) (evSs gl cs fu b) n ρc) D, ⟨fu, M, ρ, F, en, k⟩, ?_⟩
  rintro n σc Hc ⟨Mc, ρc, Fc, e1, e3⟩
  cases n with
  | zero => exact e3.elim
  | succ n =>
    unfold whileLoop at e3
    obtain ⟨p, ρ1, ee, e3⟩ := to_ok e3
    split at e3
    · refine ⟨Mc, ρc, Fc, e1, true, ρ1, ee, fun H1 M1 F1 P => iteT ⟨fun σ' H' => ∃ Mc ρc Fc, EnvOk R H' Mc σ' ρc Fc ∧ SOk R io σ' H' Mc Fc (whileLoop (ev gl cs c) (evSs gl cs fu b) n ρc) D, fun σ' H' z => ⟨n, Nat.lt_succ_self n, z⟩, M1, ρ1, F1, P.env, ?_⟩⟩
      exact turn_ok (SOk.shift e1.tr P.s e3) fun ρ' hs σ' H' M' F' P' => ⟨M', ρ', F', P'.env, SOk.shift P.env.tr P' hs⟩
    · exact ⟨Mc, ρc, Fc, e1, false, ρ1, ee, fun H1 M1 F1 P => iteF (e3 σc H1 M1 F1 P.s)⟩
    · exact e3.elim
end
end Ev

set_option Elab.async false
set_option linter.all false
set_option maxHeartbeats 8000000
set_option autoImplicit false
namespace Ev
open PySem PySem.Spec PyProof.Rows L2 RZ

/-! ### statements and their tree -/
def ncmp : Expr → Bool
  | .ListComp _ _ _ _ => false | .SetComp _ _ _ _ => false | .DictComp _ _ _ _ _ => false
  | _ => true
def ntup : Expr → Bool | .Tuple _ _ _ => false | _ => true
/-- name = [..] on one line -/
def swB (s : Sc) (e : Expr) (x : Str) (pos : Pos) : Bool := match e with
  | .ListComp _ _ scope _ => (match s.sc.names.lookup x with | some .local => true | _ => false) && (pos.line == e.pos.line) && !(scope.names.any fun (n, k) => n == x && (k == .local || k == .cell))
  | _ => false
def parB (s : Sc) (x y : Str) (px py : Pos) (a b : Expr) : Bool :=
  (match s.sc.names.lookup x with | some .local => true | _ => false) && (match s.sc.names.lookup y with | some .local => true | _ => false) && (px.line == py.line) && !(x == y) && nst a && nst b && !([a, b].all (foldedForSure 8)) && !([a, b].all (constantsAlone 8))
mutual
def mS (m : MC) (io : List Nat) (s : Sc) : S → Stmt → Bool
  | .set t a, st => match st with
    | .Assign [tg] e _ => mE m a s e && mTg m s t tg && t.slots.all (fun i => !decide (i ∈ io)) && (match tg with
      | .Name x p => ncmp e || (match e with | .ListComp _ _ _ _ => true | _ => false)
      | _ => ntup e && (ncmp e || (match e with | .ListComp _ _ _ _ => true | _ => false)))
    | _ => false
  | .setAt i ix a, st => match st with
    | .Assign [.Subscript (.Name x _) y _] e _ => mE m a s e && nmB m s i x && mE m ix s y && nslc y && (ncmp e || (match e with | .ListComp _ _ _ _ => true | _ => false))
    | _ => false
  | .par i j a b, st => match st with
    | .Assign [.Tuple [.Name x px, .Name y py] _ _] (.Tuple [u, v] _ _) _ => decide (m.N[i]? = some x) && decide (m.N[j]? = some y) && decide (i ≠ j) && parB s x y px py u v && mE m a s u && mE m b s v && !decide (i ∈ io) && !decide (j ∈ io)
    | _ => false
  | .aug i o a, st => match st with
    | .AugAssign (.Name x _) o' e _ => decide (o' = o) && decide (m.N[i]? = some x) && stB s x && mE m a s e && !decide (i ∈ io)
    | _ => false
  | .expr a, st => match st with
    | .Expr e _ => mE m a s e && ncmp e
    | _ => false
  | .ite c a b, st => match st with
    | .If e xs ys _ => mE m c s e && tOk c e && mSs m io s a xs && mSs m io s b ys
    | _ => false
  | .for t it b, st => match st with
    | .For tg iter xs [] _ => mI m it s tg iter && nset iter && mTg m s t tg && t.slots.all (fun i => !decide (i ∈ io)) && mSs m io s b xs
    | _ => false
  | .while c b, st => match st with
    | .While e xs [] _ => mE m c s e && tOk c e && mSs m io s b xs
    | _ => false
  | .ret a, st => match st with
    | .Return (some e) _ => mE m a s e
    | _ => false
  | .retN, st => match st with
    | .Return none _ => true
    | _ => false
  | .brk, st => match st with
    | .Break _ => true
    | _ => false
  | .cont, st => match st with
    | .Continue _ => true
    | _ => false
  | .pass, st => match st with
    | .Pass _ => true
    | _ => false
def mSs (m : MC) (io : List Nat) (s : Sc) : Ss → List Stmt → Bool
  | .nil, xs => match xs with
    | [] => true
    | _ => false
  | .cons a ss, xs => match xs with
    | x :: xs => mS m io s a x && mSs m io s ss xs
    | [] => false
end
section
variable {m : MC} {R : RC} {gl : Nat → PV} {cs : CS} {d : Nat} {fu : Nat} {io : List Nat} {s : Sc} {X : Cx}
theorem sw_ncmp {e : Expr} {t : Option Expr} {l : Nat} {env : PySem.Env} (h : ncmp e = true) : swapsWith e t l env = pure false := by
  cases e <;> first | rfl | cases h
theorem sw_tgt {elt : Expr} {gs : List Comprehension} {scope : Scope} {pos : Pos} {t : Expr} {l : Nat} {env : PySem.Env} (h : ∀ x p, t ≠ .Name x p) : swapsWith (.ListComp elt gs scope pos) (some t) l env = pure false := by
  cases t <;> first | rfl | exact absurd rfl (h _ _)
theorem blockKind_fn {env : PySem.Env} (h : env.scope.kind = .function) : (env.blockKind == .function) = true := by
  unfold PySem.Env.blockKind; rw [h]; rfl
theorem sw_val {elt : Expr} {gs : List Comprehension} {scope : Scope} {pos p : Pos} {x : Str} {l : Nat} {env : PySem.Env} (hk : env.scope.kind = .function) (hs : env.scope = s.sc) :
    swapsWith (.ListComp elt gs scope pos) (some (.Name x p)) l env = pure (swB s (.ListComp elt gs scope pos) x p) := by
  have e1 := blockKind_fn hk
  unfold swapsWith swB
  simp only [e1, Expr.pos]
  have e2 : (env.kindOf x == some .local) = (match s.sc.names.lookup x with | some .local => true | _ => false) := by
    show (env.scope.names.lookup x == some .local) = _
    rw [hs]
    cases s.sc.names.lookup x with
    | none => rfl
    | some k => cases k <;> rfl
  rw [e2]
  rfl
theorem swapped_ntup {t e : Expr} {env : PySem.Env} (h : ntup e = true) : swappedStores [t] e env = pure none := by
  cases t <;> cases e <;> first | rfl | cases h
theorem swapped_name {x : Str} {p : Pos} {e : Expr} {env : PySem.Env} : swappedStores [.Name x p] e env = pure none := by
  cases e <;> rfl
theorem swapped_sub {a b : Expr} {p : Pos} {e : Expr} {env : PySem.Env} : swappedStores [.Subscript a b p] e env = pure none := by
  cases e <;> rfl
theorem Cok.kind (c : Cok m R gl cs d s X) (hx : s.sc.kind = .function) : X.env.scope.kind = .function := by rw [c.sc]; exact hx

/-- name = [..], the old value dropped late -/
theorem snd_swap0 {i : Nat} {a : E} {x : Str} {p pos cpos : Pos} {elt : Expr} {gs : List Comprehension} {scope : Scope} (c : Cok m R gl cs d s X) (hk : s.sc.kind = .function) (h : mE m a s (.ListComp elt gs scope cpos) = true) (hi : m.N[i]? = some x) (hsw : swB s (.ListComp elt gs scope cpos) x p = true) (nf : ∀ b, a ≠ .frz b) :
    PS X (.Assign [.Name x p] (.ListComp elt gs scope cpos) pos) (fun D σ H => tE R a.q a.v (ev gl cs a) σ H fun v H1 => gName i v σ H1 D.nx) := by
  have hl : X.env.scope.names.lookup x = some .local := by
    rw [c.sc]
    unfold swB at hsw
    simp only [Bool.and_eq_true] at hsw
    have := hsw.1.1
    split at this
    · rename_i e; exact e
    · cases this
  have hs2 : swapsWith (.ListComp elt gs scope cpos) (some (.Name x p)) pos.line X.env = pure true := by rw [sw_val (s := s) (c.kind hk) c.sc, hsw]
  have hN : X.N.Nodup := by rw [c.N]; exact c.nd
  have hi' : X.N[i]? = some x := by rw [c.N]; exact hi
  cases a with
  | lc a t it cd own =>
    unfold mE at h
    split at h
    · rename_i elt' tg iter ifs scope' pos' heq
      cases heq
      simp only [Bool.and_eq_true, decide_eq_true_eq, List.all_eq_true] at h
      obtain ⟨⟨⟨⟨⟨⟨⟨h1, h2⟩, h3⟩, h4⟩, h5⟩, h6⟩, h7⟩, h8⟩ := h
      refine imp_s (ps_setLc (own := ownP m own) c.calm hN hi' hl hs2 (sndI it c h1) (blkOk_by (by rw [c.N, c.sc]; exact h3)) (fun s0 H C cl fp => (c.blk s0 H C cl fp).pg h5) (fun s0 H C cl fp => sndC cd (c.blk s0 H C cl fp) h7) (fun s0 H C cl fp => snd a (c.blk s0 H C cl fp) h8) (folded_nset h2)) fun D σ H q => ?_
      rw [h4]
      exact te_lc h6 q
    · cases h
  | lc2 a t it cd t2 it2 cd2 own own2 =>
    unfold mE at h
    split at h
    · rename_i elt' tg iter ifs tg2 iter2 ifs2 scope' pos' heq
      cases heq
      simp only [Bool.and_eq_true, decide_eq_true_eq, List.all_eq_true] at h
      obtain ⟨⟨⟨⟨⟨⟨⟨⟨⟨⟨⟨⟨⟨h1, h2⟩, h3⟩, h4⟩, h5⟩, h6⟩, h7⟩, h8⟩, h9⟩, h10⟩, h11⟩, h12⟩, h13⟩, h14⟩ := h
      refine imp_s (ps_setLc2 (own := ownP m own) (vs1 := own2) c.calm hN hi' hl hs2 (sndI it c h1) (blkOk_by (by rw [c.N, c.sc]; exact h3)) (by rw [h4]; exact h13) (fun s0 H C cl fp => (c.blk s0 H C cl fp).pg h5) (fun s0 H C cl fp => sndC cd (c.blk s0 H C cl fp) h7)
        (fun s0 H C cl fp => sndI it2 (c.blk s0 H C cl fp) h9) (fun s0 H C cl fp => (c.blk s0 H C cl fp).pg h11) (fun s0 H C cl fp => sndC cd2 (c.blk s0 H C cl fp) h14) (fun s0 H C cl fp => snd a (c.blk s0 H C cl fp) h8) (folded_nset h2) (fun env => folded_nset h10)) fun D σ H q => ?_
      rw [h4]
      exact te_lc2 h6 h12 h13 q
    · cases h
  | frz b => exact absurd rfl (nf b)
  | _ =>
    unfold mE at h
    first
      | cases h
      | (split at h <;> first | cases h | (rename_i heq; cases heq))
theorem snd_swap : ∀ (a : E) {i : Nat} {x : Str} {p pos cpos : Pos} {elt : Expr} {gs : List Comprehension} {scope : Scope} (c : Cok m R gl cs d s X) (hk : s.sc.kind = .function) (h : mE m a s (.ListComp elt gs scope cpos) = true) (hi : m.N[i]? = some x) (hsw : swB s (.ListComp elt gs scope cpos) x p = true),
    PS X (.Assign [.Name x p] (.ListComp elt gs scope cpos) pos) (fun D σ H => tE R a.q a.v (ev gl cs a) σ H fun v H1 => gName i v σ H1 D.nx)
  | .frz b, i, x, p, pos, cpos, elt, gs, scope, c, hk, h, hi, hsw => by
    unfold mE at h
    exact imp_s (snd_swap b c hk h hi hsw) fun D σ H q => te_frz q
  | .lit a0, i, x, p, pos, cpos, elt, gs, scope, c, hk, h, hi, hsw => snd_swap0 c hk h hi hsw fun _ z => (nomatch z)
  | .rd a0, i, x, p, pos, cpos, elt, gs, scope, c, hk, h, hi, hsw => snd_swap0 c hk h hi hsw fun _ z => (nomatch z)
  | .vw a0, i, x, p, pos, cpos, elt, gs, scope, c, hk, h, hi, hsw => snd_swap0 c hk h hi hsw fun _ z => (nomatch z)
  | .fz a0, i, x, p, pos, cpos, elt, gs, scope, c, hk, h, hi, hsw => snd_swap0 c hk h hi hsw fun _ z => (nomatch z)
  | .mv a0, i, x, p, pos, cpos, elt, gs, scope, c, hk, h, hi, hsw => snd_swap0 c hk h hi hsw fun _ z => (nomatch z)
  | .glob a0, i, x, p, pos, cpos, elt, gs, scope, c, hk, h, hi, hsw => snd_swap0 c hk h hi hsw fun _ z => (nomatch z)
  | .bin a0 a1 a2, i, x, p, pos, cpos, elt, gs, scope, c, hk, h, hi, hsw => snd_swap0 c hk h hi hsw fun _ z => (nomatch z)
  | .un a0 a1, i, x, p, pos, cpos, elt, gs, scope, c, hk, h, hi, hsw => snd_swap0 c hk h hi hsw fun _ z => (nomatch z)
  | .not a0, i, x, p, pos, cpos, elt, gs, scope, c, hk, h, hi, hsw => snd_swap0 c hk h hi hsw fun _ z => (nomatch z)
  | .cmp a0 a1 a2, i, x, p, pos, cpos, elt, gs, scope, c, hk, h, hi, hsw => snd_swap0 c hk h hi hsw fun _ z => (nomatch z)
  | .bop a0 a1, i, x, p, pos, cpos, elt, gs, scope, c, hk, h, hi, hsw => snd_swap0 c hk h hi hsw fun _ z => (nomatch z)
  | .ite a0 a1 a2, i, x, p, pos, cpos, elt, gs, scope, c, hk, h, hi, hsw => snd_swap0 c hk h hi hsw fun _ z => (nomatch z)
  | .tup a0, i, x, p, pos, cpos, elt, gs, scope, c, hk, h, hi, hsw => snd_swap0 c hk h hi hsw fun _ z => (nomatch z)
  | .lst a0, i, x, p, pos, cpos, elt, gs, scope, c, hk, h, hi, hsw => snd_swap0 c hk h hi hsw fun _ z => (nomatch z)
  | .sub a0 a1, i, x, p, pos, cpos, elt, gs, scope, c, hk, h, hi, hsw => snd_swap0 c hk h hi hsw fun _ z => (nomatch z)
  | .slc a0 a1 a2 a3 a4, i, x, p, pos, cpos, elt, gs, scope, c, hk, h, hi, hsw => snd_swap0 c hk h hi hsw fun _ z => (nomatch z)
  | .bi a0 a1, i, x, p, pos, cpos, elt, gs, scope, c, hk, h, hi, hsw => snd_swap0 c hk h hi hsw fun _ z => (nomatch z)
  | .isi a0 a1 a2, i, x, p, pos, cpos, elt, gs, scope, c, hk, h, hi, hsw => snd_swap0 c hk h hi hsw fun _ z => (nomatch z)
  | .mu a0 a1 a2, i, x, p, pos, cpos, elt, gs, scope, c, hk, h, hi, hsw => snd_swap0 c hk h hi hsw fun _ z => (nomatch z)
  | .bm a0 a1 a2, i, x, p, pos, cpos, elt, gs, scope, c, hk, h, hi, hsw => snd_swap0 c hk h hi hsw fun _ z => (nomatch z)
  | .bk a0 a1 a2, i, x, p, pos, cpos, elt, gs, scope, c, hk, h, hi, hsw => snd_swap0 c hk h hi hsw fun _ z => (nomatch z)
  | .call a0 a1, i, x, p, pos, cpos, elt, gs, scope, c, hk, h, hi, hsw => snd_swap0 c hk h hi hsw fun _ z => (nomatch z)
  | .lc a0 a1 a2 a3 a4, i, x, p, pos, cpos, elt, gs, scope, c, hk, h, hi, hsw => snd_swap0 c hk h hi hsw fun _ z => (nomatch z)
  | .lc2 a0 a1 a2 a3 a4 a5 a6 a7 a8, i, x, p, pos, cpos, elt, gs, scope, c, hk, h, hi, hsw => snd_swap0 c hk h hi hsw fun _ z => (nomatch z)
theorem snd_set {t : T} {a : E} {tg e : Expr} {pos : Pos} (c : Cok m R gl cs d s X) (hk : s.sc.kind = .function) (h : mS m io s (.set t a) (.Assign [tg] e pos) = true) : PS X (.Assign [tg] e pos) (tSt R io (evS gl cs fu (.set t a))) := by
  simp only [mS, Bool.and_eq_true, List.all_eq_true, Bool.not_eq_true', decide_eq_false_iff_not] at h
  obtain ⟨⟨⟨h1, h2⟩, h3⟩, h4⟩ := h
  have pe := snd a c h1
  have pg := c.pg h2
  have hio : ∀ i ∈ t.slots, i ∉ io := h3
  have hN : X.N.Nodup := by rw [c.N]; exact c.nd
  cases t with
  | nm i =>
    cases tg <;> simp only [mTg] at h2 <;> try cases h2
    rename_i x p
    simp only [Bool.and_eq_true, decide_eq_true_eq] at h2
    obtain ⟨l, f⟩ := c.st h2.2
    have hi' : X.N[i]? = some x := by rw [c.N]; exact h2.1
    by_cases hn : ncmp e = true
    · exact imp_s (ps_set hN hi' l pe (sw_ncmp hn) f) fun D σ H q => ts_asg hio q
    · simp only [Bool.or_eq_true] at h4
      rcases h4 with z | z
      · exact absurd z hn
      · split at z
        · rename_i elt gs scope cpos
          cases hw : swB s (.ListComp elt gs scope cpos) x p with
          | true => exact imp_s (snd_swap a c hk h1 h2.1 hw) fun D σ H q => ts_asg hio q
          | false => exact imp_s (ps_set hN hi' l pe (by rw [sw_val (s := s) (c.kind hk) c.sc, hw]) f) fun D σ H q => ts_asg hio q
        · cases z
  | tp is =>
    cases tg <;> simp only [mTg] at h2 <;> try cases h2
    rename_i es k p
    simp only [Bool.and_eq_true, Bool.or_eq_true] at h4
    have hsw : swapsWithSole [.Tuple es k p] e pos.line X.env = pure false := by
      show swapsWith e (some (.Tuple es k p)) pos.line X.env = pure false
      rcases h4.2 with z | z
      · exact sw_ncmp z
      · split at z
        · exact sw_tgt fun _ _ z => nomatch z
        · cases z
    exact imp_s (ps_asg pe pg hsw (swapped_ntup h4.1) rfl) fun D σ H q => ts_asg hio q
theorem star_any2 {u v : Expr} (hu : nst u = true) (hv : nst v = true) : ([u, v].any fun | .Starred .. => true | _ => false) = false := by
  cases u <;> cases v <;> first | rfl | exact (Bool.false_ne_true hu).elim | exact (Bool.false_ne_true hv).elim
theorem swapped_par {x y : Str} {px py pt pt2 : Pos} {k k2 : Nat} {u v : Expr} {env : PySem.Env} (hk : env.scope.kind = .function) (lx : env.scope.names.lookup x = some .local) (ly : env.scope.names.lookup y = some .local) (hl : (px.line == py.line) = true) (hxy : (x == y) = false)
    (hu : nst u = true) (hv : nst v = true) (h1 : [u, v].all (foldedForSure 8) = false) (h2 : [u, v].all (constantsAlone 8) = false) : swappedStores [.Tuple [.Name x px, .Name y py] k pt] (.Tuple [u, v] k2 pt2) env = pure (some [x, y]) := by
  have e1 := blockKind_fn hk
  have kx : env.kindOf x = some .local := lx
  have ky : env.kindOf y = some .local := ly
  have e2 : (env.blockKind != .function) = false := by rw [bne, e1]; rfl
  have hl2 : (py.line == px.line) = true := by rw [beq_iff_eq] at hl ⊢; exact hl.symm
  have e3 : ([x, y] : List Str).eraseDups = [x, y] := by
    have : ¬ y = x := fun e => by rw [e] at hxy; simp at hxy
    simp [List.eraseDups_cons, this]
  unfold swappedStores
  have e4 := star_any2 hu hv
  simp only [e2, e4, h1, h2, List.length_cons, List.length_nil, List.head?_cons, Option.map_some, Option.getD_some, List.filterMap_cons, List.filterMap_nil, kx, ky, Expr.pos, hl2, beq_self_eq_true, Bool.and_true, Bool.true_and, if_true, e3]
  have fin : ∀ b : Bool, b = false → (if b = true then (pure none : Sem (Option (List Str))) else pure (some [x, y])) = pure (some [x, y]) := by
    intro b hb
    subst hb
    rfl
  exact fin _ e4
theorem snd_par {i j : Nat} {a b : E} {x y : Str} {px py pt pt2 pos : Pos} {k k2 : Nat} {u v : Expr} (c : Cok m R gl cs d s X) (hk : s.sc.kind = .function) (h : mS m io s (.par i j a b) (.Assign [.Tuple [.Name x px, .Name y py] k pt] (.Tuple [u, v] k2 pt2) pos) = true) :
    PS X (.Assign [.Tuple [.Name x px, .Name y py] k pt] (.Tuple [u, v] k2 pt2) pos) (tSt R io (evS gl cs fu (.par i j a b))) := by
  simp only [mS, Bool.and_eq_true, Bool.not_eq_true', decide_eq_false_iff_not, decide_eq_true_eq] at h
  obtain ⟨⟨⟨⟨⟨⟨⟨h1, h2⟩, h3⟩, h4⟩, h5⟩, h6⟩, h7⟩, h8⟩ := h
  unfold parB at h4
  simp only [Bool.and_eq_true, Bool.not_eq_true'] at h4
  obtain ⟨⟨⟨⟨⟨⟨⟨g1, g2⟩, g3⟩, g4⟩, g5⟩, g6⟩, g7⟩, g8⟩ := h4
  have lx : X.env.scope.names.lookup x = some .local := by
    rw [c.sc]
    split at g1
    · rename_i e; exact e
    · cases g1
  have ly : X.env.scope.names.lookup y = some .local := by
    rw [c.sc]
    split at g2
    · rename_i e; exact e
    · cases g2
  have hN : X.N.Nodup := by rw [c.N]; exact c.nd
  refine imp_s (ps_par c.calm hN (by rw [c.N]; exact h1) (by rw [c.N]; exact h2) h3 lx ly (pa_cons (snd a c h5) (pa_cons (snd b c h6) pa_nil (star_cons g6)) (star_cons g5)) ?_ ?_) fun D σ H q => ts_par h7 h8 q
  · exact swapped_par (c.kind hk) lx ly g3 g4 g5 g6 g7 g8
  · exact sw_ncmp (e := .Tuple [u, v] k2 pt2) (t := some (.Tuple [.Name x px, .Name y py] k pt)) (l := pos.line) (env := X.env) rfl
/-- a statement's own look at what a callee may raise is none -/
abbrev POwn (X : Cx) : Prop := PassesOwn (model X.prog X.w) X.A X.env X.xe
mutual
theorem snd_s : ∀ (a : S) {st : Stmt}, POwn X → Cok m R gl cs d s X → s.sc.kind = .function → mS m io s a st = true → PS X st (tSt R io (evS gl cs fu a))
  | .set t a, st, hp, c, hk, h => by
    unfold mS at h
    split at h
    · exact snd_set c hk (by unfold mS; exact h)
    · cases h
  | .setAt i ix a, st, hp, c, hk, h => by
    unfold mS at h
    split at h
    · rename_i x xp y sp e pos
      simp only [Bool.and_eq_true] at h
      obtain ⟨⟨⟨⟨h1, h2⟩, h3⟩, h4⟩, h5⟩ := h
      have hsw : swapsWithSole [.Subscript (.Name x xp) y sp] e pos.line X.env = pure false := by
        show swapsWith e (some (.Subscript (.Name x xp) y sp)) pos.line X.env = pure false
        simp only [Bool.or_eq_true] at h5
        rcases h5 with z | z
        · exact sw_ncmp z
        · split at z
          · exact sw_tgt fun _ _ z => nomatch z
          · cases z
      refine imp_s (ps_asg (snd a c h1) (pg_sub (c.nm h2) (snd ix c h3) set_list ?_) hsw swapped_sub rfl) fun D σ H q => ts_setAt q
      intro v
      cases y <;> first | rfl | cases h4
    · cases h
  | .par i j a b, st, hp, c, hk, h => by
    unfold mS at h
    split at h
    · exact snd_par c hk (by unfold mS; exact h)
    · cases h
  | .aug i o a, st, hp, c, hk, h => by
    unfold mS at h
    split at h
    · simp only [Bool.and_eq_true, Bool.not_eq_true', decide_eq_false_iff_not, decide_eq_true_eq] at h
      obtain ⟨⟨⟨⟨h1, h2⟩, h3⟩, h4⟩, h5⟩ := h
      obtain ⟨l, f⟩ := c.st h3
      rw [h1]
      exact imp_s (ps_aug (by rw [c.N]; exact c.nd) (by rw [c.N]; exact h2) l (snd a c h4) (aug_op o) f) fun D σ H q => ts_aug h5 q
    · cases h
  | .expr a, st, hp, c, hk, h => by
    unfold mS at h
    split at h
    · simp only [Bool.and_eq_true] at h
      exact imp_s (ps_expr (snd a c h.1) (sw_ncmp h.2)) fun D σ H q => ts_expr q
    · cases h
  | .ite cd a b, st, hp, c, hk, h => by
    unfold mS at h
    split at h
    · simp only [Bool.and_eq_true] at h
      obtain ⟨⟨⟨h1, h2⟩, h3⟩, h4⟩ := h
      exact imp_s (ps_if (sndT cd c h1 h2) (snd_ss a hp c hk h3) (snd_ss b hp c hk h4)) fun D σ H q => ts_ite q
    · cases h
  | .for t it b, st, hp, c, hk, h => by
    unfold mS at h
    split at h
    · simp only [Bool.and_eq_true, List.all_eq_true, Bool.not_eq_true', decide_eq_false_iff_not] at h
      obtain ⟨⟨⟨⟨h1, h2⟩, h3⟩, h4⟩, h5⟩ := h
      exact imp_s (ps_for hp c.calm (sndI it c h1) (c.pg h3) (snd_ss b hp c hk h5) (folded_nset h2)) fun D σ H q => ts_for h4 q
    · cases h
  | .while cd b, st, hp, c, hk, h => by
    unfold mS at h
    split at h
    · simp only [Bool.and_eq_true] at h
      obtain ⟨⟨h1, h2⟩, h3⟩ := h
      exact imp_s (ps_while hp (sndT cd c h1 h2) (snd_ss b hp c hk h3)) fun D σ H q => ts_while q
    · cases h
  | .ret a, st, hp, c, hk, h => by
    unfold mS at h
    split at h
    · exact imp_s (ps_ret (snd a c h)) fun D σ H q => ts_ret q
    · cases h
  | .retN, st, hp, c, hk, h => by
    unfold mS at h
    split at h
    · exact imp_s ps_retN fun D σ H q => ts_retN q
    · cases h
  | .brk, st, hp, c, hk, h => by
    unfold mS at h
    split at h
    · exact imp_s ps_break fun D σ H ⟨M, ρ, F, en, k⟩ => by simp only [evS] at k; exact k σ H M F (.refl en)
    · cases h
  | .cont, st, hp, c, hk, h => by
    unfold mS at h
    split at h
    · exact imp_s ps_continue fun D σ H ⟨M, ρ, F, en, k⟩ => by simp only [evS] at k; exact k σ H M F (.refl en)
    · cases h
  | .pass, st, hp, c, hk, h => by
    unfold mS at h
    split at h
    · exact imp_s ps_pass fun D σ H ⟨M, ρ, F, en, k⟩ => by simp only [evS] at k; exact k σ H M F (.refl en)
    · cases h
theorem snd_ss : ∀ (a : Ss) {sts : List Stmt}, POwn X → Cok m R gl cs d s X → s.sc.kind = .function → mSs m io s a sts = true → PSs X sts (tSt R io (evSs gl cs fu a))
  | .nil, sts, hp, c, hk, h => by
    unfold mSs at h
    split at h
    · exact imp_ss pss_nil fun D σ H ⟨M, ρ, F, en, k⟩ => by simp only [evSs] at k; exact k σ H M F (.refl en)
    · cases h
  | .cons a .nil, sts, hp, c, hk, h => by
    unfold mSs at h
    split at h
    · rename_i x xs
      simp only [Bool.and_eq_true] at h
      have e : xs = [] := by
        have := h.2
        unfold mSs at this
        split at this
        · rfl
        · cases this
      subst e
      exact imp_ss (pss_one (snd_s a hp c hk h.1)) fun D σ H ⟨M, ρ, F, en, k⟩ => by simp only [evSs] at k; exact ⟨M, ρ, F, en, k⟩
    · cases h
  | .cons a (.cons b ss), sts, hp, c, hk, h => by
    unfold mSs at h
    split at h
    · simp only [Bool.and_eq_true] at h
      exact imp_ss (pss_cons (snd_s a hp c hk h.1) (snd_ss (.cons b ss) hp c hk h.2)) fun D σ H q => ts_seq q
    · cases h
end
end
end Ev

set_option Elab.async false
set_option linter.all false
set_option maxHeartbeats 8000000
set_option autoImplicit false
namespace Ev
open PySem PySem.Spec PyProof.Rows L2 RZ

/-! ### defs, tables -/
structure FnT where
  name : Str
  N : List Str
  np : Nat
  io : List Nat
  body : Ss
def backIo (io : List Nat) : Nat → List PV → Env → Option (List PV)
  | _, [], _ => some []
  | k, p :: ps, ρ => if k ∈ io then (match getE k ρ, backIo io (k + 1) ps ρ with
      | some q, some l => some (q :: l)
      | _, _ => none) else (backIo io (k + 1) ps ρ).map (p :: ·)
def runFn (gl : Nat → PV) (cs : CS) (fu : Nat) (fd : FnT) (ps : List PV) : CRes :=
  match evSs gl cs fu fd.body (ps.map some ++ List.replicate (fd.N.length - ps.length) none) with
  | .rt p ρ => (match backIo fd.io 0 ps ρ with
    | some l => .ok p l
    | none => .stuck)
  | .nx ρ => (match backIo fd.io 0 ps ρ with
    | some l => .ok .non l
    | none => .stuck)
  | _ => .stuck
def callN (tbl : List FnT) (gl : Nat → PV) (fu : Nat) : Nat → CS
  | 0 => fun _ _ => .stuck
  | d + 1 => fun i ps => match tbl[i]? with
    | some fd => if ps.length = fd.np then runFn gl (callN tbl gl fu d) fu fd ps else .stuck
    | none => .stuck
def fnms (tbl : List FnT) : List (Str × Nat × List Nat) := tbl.map fun fd => (fd.name, fd.np, fd.io)
def scopeB (N P : List Str) (sc : Scope) : Bool := decide (sc.kind = .function) && !sc.isCoroutine && !sc.isGenerator && decide N.Nodup && decide (N.take P.length = P) &&
  P.all (fun x => match sc.names.lookup x with | some .local => true | some .cell => true | _ => false) && sc.names.all (fun y => decide (y.2 ≠ .free))
def defB (m : MC) (fd : FnT) (st : Stmt) : Bool := scopeB fd.N (fd.N.take fd.np) (defScope st) && mSs m fd.io ⟨defScope st, fun _ => true⟩ fd.body (defBody st) && decide (fd.np ≤ fd.N.length)

theorem scope_ok {N P : List Str} {sc : Scope} (h : scopeB N P sc = true) : FnScope N P sc := by
  simp only [scopeB, Bool.and_eq_true, decide_eq_true_eq, Bool.not_eq_true', List.all_eq_true] at h
  obtain ⟨⟨⟨⟨⟨⟨h1, h2⟩, h3⟩, h4⟩, h5⟩, h6⟩, h7⟩ := h
  refine ⟨h1, h2, h3, h4, h5, fun x hx => ?_, h7⟩
  have := h6 x hx
  split at this
  · rename_i e; exact .inl e
  · rename_i e; exact .inr e
  · cases this

section
variable {R : RC} {H H' : Hp} {M M' : Mt} {F F' : Fp} {ps l : List PV} {vs : List V} {io : List Nat}
theorem backIo_len : ∀ {k : Nat} {ps l : List PV} {ρ : Env}, backIo io k ps ρ = some l → l.length = ps.length
  | k, [], l, ρ, h => by cases h; rfl
  | k, p :: ps, l, ρ, h => by
    unfold backIo at h
    split at h
    · split at h
      · rename_i q l' e1 e2; cases h; simp [backIo_len e2]
      · cases h
    · obtain ⟨l', e, h⟩ := Option.map_eq_some_iff.mp h
      subst h; simp [backIo_len e]
theorem backIo_at : ∀ {k : Nat} {ps l : List PV} {ρ : Env} {j : Nat} {q : PV}, backIo io k ps ρ = some l → l[j]? = some q → (k + j ∈ io ∧ getE (k + j) ρ = some q) ∨ (k + j ∉ io ∧ ps[j]? = some q)
  | k, [], l, ρ, j, q, h, e => by cases h; simp at e
  | k, p :: ps, l, ρ, j, q, h, e => by
    unfold backIo at h
    split at h
    · rename_i hk
      split at h
      · rename_i q' l' e1 e2
        cases h
        cases j with
        | zero => simp at e; subst e; exact .inl ⟨hk, e1⟩
        | succ j =>
          have := backIo_at (j := j) e2 (by simpa using e)
          rw [show k + 1 + j = k + (j + 1) by omega] at this
          simpa using this
      · cases h
    · rename_i hk
      obtain ⟨l', e2, h⟩ := Option.map_eq_some_iff.mp h
      subst h
      cases j with
      | zero => simp at e; subst e; exact .inr ⟨hk, rfl⟩
      | succ j =>
        have := backIo_at (j := j) e2 (by simpa using e)
        rw [show k + 1 + j = k + (j + 1) by omega] at this
        simpa using this
theorem map_some_at {α : Type} {l : List α} {j : Nat} {x : α} (h : (l.map some)[j]? = some (some x)) : l[j]? = some x := by
  rw [List.getElem?_map] at h
  obtain ⟨y, e, h⟩ := Option.map_eq_some_iff.mp h
  cases h; exact e
/-- the body's slots at the entry -/
theorem start_env {N : List Str} (e : EnvOk R H M (vs.map some) (ps.map some) F) (hN : vs.length ≤ N.length) : EnvOk R H M (L2.start N vs) (ps.map some ++ List.replicate (N.length - ps.length) none) F := by
  have hl : ps.length = vs.length := by simpa using e.len
  refine ⟨by unfold L2.start; simp [hl], fun i p h => ?_, fun i h => ?_, e.dj, e.nd, e.tr⟩
  · by_cases hi : i < ps.length
    · rw [List.getElem?_append_left (by simpa using hi)] at h
      obtain ⟨v, a, b⟩ := e.at' i p h
      refine ⟨v, ?_, b⟩
      unfold L2.start
      rw [List.getElem?_append_left (by simpa [← hl] using hi)]
      exact a
    · rw [List.getElem?_append_right (by simpa using hi), List.getElem?_replicate] at h
      split at h <;> cases h
  · refine e.no i fun p q => h p ?_
    have hi : i < ps.length := by
      have := (List.getElem?_eq_some_iff.mp q).1
      simpa using this
    rw [List.getElem?_append_left (by simpa using hi)]
    exact q
theorem start_at {N : List Str} {i : Nat} {v : V} (h : vs[i]? = some v) : (L2.start N vs)[i]? = some (some v) := by
  unfold L2.start
  have hi := (List.getElem?_eq_some_iff.mp h).1
  rw [List.getElem?_append_left (by simpa using hi), List.getElem?_map, h]; rfl
/-- a body's end is the call's end -/
theorem end_post {N : List Str} {σ' : L2.St} {ρ' : Env} {p : PV} {v : V} {f : List Addr} (e : EnvOk R H M (vs.map some) (ps.map some) F) (hio : ∀ k, k ∉ io → F k = []) (hb : backIo io 0 ps ρ' = some l) (P : SPost R io H M F (L2.start N vs) σ' ρ' H' M' F')
    (r : Rep R H' M' p v f) (o : f.Nodup ∧ ∀ a ∈ f, ¬ F'.any a) (fr : ∀ a ∈ f, F.any a ∨ H a = none) : ∃ F2, CPost R H M F vs l p v H' M' F2 f := by
  have hl : ps.length = vs.length := by simpa using e.len
  have hll := backIo_len hb
  refine ⟨fun k => if k ∈ io ∧ k < vs.length then F' k else [], ⟨⟨by simp [hll, hl], fun i q h => ?_, fun i h => ?_, fun i j a h1 h2 => ?_, fun i => ?_, P.env.tr⟩, r, ⟨o.1, fun a ha ⟨k, z⟩ => ?_⟩, P.mv, fun a ⟨k, z⟩ => ?_, fr⟩⟩
  · have hq := map_some_at h
    have hi : i < vs.length := by
      have := (List.getElem?_eq_some_iff.mp hq).1
      omega
    have hv : vs[i]? = some vs[i] := List.getElem?_eq_getElem hi
    refine ⟨vs[i], by rw [List.getElem?_map, hv]; rfl, ?_⟩
    rcases backIo_at hb hq with ⟨c1, c2⟩ | ⟨c1, c2⟩
    · rw [Nat.zero_add] at c1 c2
      rw [if_pos ⟨c1, hi⟩]
      obtain ⟨w, a, b⟩ := P.env.at' i q (getE_some c2)
      rw [P.io i c1, start_at hv] at a
      cases a; exact b
    · rw [Nat.zero_add] at c1
      rw [if_neg fun z => c1 z.1]
      obtain ⟨w, a, b⟩ := e.at' i q (by rw [List.getElem?_map, c2]; rfl)
      rw [List.getElem?_map, hv] at a
      cases a
      rw [hio i c1] at b
      exact rep_stay P.mv (gM_of e) (gm_of e) b fun _ z => (nomatch z)
  · split
    · rename_i c
      have hi : i < l.length := by omega
      exact absurd (by rw [List.getElem?_map, List.getElem?_eq_getElem hi]; rfl) (h l[i])
    · rfl
  · split at h1
    · split at h2
      · exact P.env.dj i j a h1 h2
      · cases h2
    · cases h1
  · split
    · exact P.env.nd i
    · exact List.nodup_nil
  · dsimp only at z
    split at z
    · exact o.2 a ha ⟨k, z⟩
    · cases z
  · dsimp only at z
    split at z
    · exact P.fnew a ⟨k, z⟩
    · cases z
end

section
variable {tbl : List FnT} {gl : Nat → PV} {fu : Nat} {R : RC} {P : Program} {w : World} {K : PySem.W.Frag} {mg : Str → Option Value} {base : Heap}
/-- what stands for a def of the table behind the top -/
structure DefOk (K : PySem.W.Frag) (mg : Str → Option Value) (m : MC) (fd : FnT) (f : Addr) (fdt : FuncData) : Prop where
  st : ∃ st, FunD K fd.name fd.name (defArgs st) (defBody st) (defScope st) [] [] f fdt ∧ defB { m with N := fd.N } fd st = true
  mg : mg fd.name = some (.ref f)
  bd : Binds K fdt (fd.N.take fd.np) []
structure TblOk (K : PySem.W.Frag) (mg : Str → Option Value) (R : RC) (gl : Nat → PV) (m : MC) (tbl : List FnT) : Prop where
  KR : R.K = K
  fnm : m.fnm = fnms tbl
  free : ∀ x ∈ m.free, mg x = none
  mods : ∀ p ∈ m.mods, mg p.1 = some (.builtin p.2)
  glb : ∀ k x, m.gnm[k]? = some x → ∃ v u, mg x = some u ∧ RelV v u ∧ ∀ H M, Rep R H M (gl k) v []
  defs : ∀ (i : Nat) (fd : FnT), tbl[i]? = some fd → ∃ f fdt, DefOk K mg m fd f fdt
theorem tbl_okD {m : MC} (T : TblOk K mg R gl m tbl) : ∀ (d i : Nat) (fd : FnT) (f : Addr) (fdt : FuncData), tbl[i]? = some fd → DefOk K mg m fd f fdt → FnOk P w K mg base CX0 d f fdt (fd.N.take fd.np) (fSp R fd.np fd.io (callN tbl gl fu d i))
  | 0, i, fd, f, fdt, h, D => ⟨fun vs H Q E ⟨_, _, _, _, _, _, _, _, z, _⟩ => (by cases z), fun A outer s H args us vs Q E hr he hb hv ⟨_, _, _, _, _, _, _, _, z, _⟩ => (by cases z)⟩
  | d + 1, i, fd, f, fdt, h, D => by
    obtain ⟨st, FD, hB⟩ := D.st
    simp only [defB, Bool.and_eq_true, decide_eq_true_eq] at hB
    obtain ⟨⟨hB, hM⟩, hL⟩ := hB
    have hnp : (fd.N.take fd.np).length = fd.np := by rw [List.length_take]; omega
    refine FD.ok (scope_ok hB) (fun vs H Q E z => by rw [hnp]; exact z.1) fun cdv A outer s H vs Q E hr hsp => ?_
    obtain ⟨hlen, M, ps, F, en, hio, p, ps', hc, k⟩ := hsp
    have hl : ps.length = vs.length := by simpa using en.len
    refine ⟨tSt R fd.io (evSs gl (callN tbl gl fu d) fu fd.body), PSs.nox (snd_ss (m := { m with N := fd.N }) (d := d) (s := ⟨defScope st, fun _ => true⟩) fd.body PassesOwn.never ?_ (scope_ok hB).kind hM), ?_⟩
    · exact ⟨rfl, fun _ _ => rfl, rfl, (scope_ok hB).nd, rfl, T.KR, hr, T.free, T.mods, T.glb, fun j x n io hj => by
        have hj' : (fnms tbl)[j]? = some (x, n, io) := by rw [← T.fnm]; exact hj
        unfold fnms at hj'
        rw [List.getElem?_map] at hj'
        obtain ⟨fd2, e1, e2⟩ := Option.map_eq_some_iff.mp hj'
        cases e2
        obtain ⟨f2, fdt2, D2⟩ := T.defs j fd2 e1
        obtain ⟨st2, FD2, _⟩ := D2.st
        exact ⟨f2, fdt2, _, D2.mg, FD2.kp, D2.bd, tbl_okD T d j fd2 f2 fdt2 e1 D2⟩⟩
    · refine ⟨M, _, F, start_env en (by omega), ?_⟩
      simp only [callN, h] at hc
      rw [if_pos (by omega)] at hc
      unfold runFn at hc
      have fin : ∀ {σ' : L2.St} {H' : Hp} {M' : Mt} {F' : Fp} {ρ' : Env} {l : List PV} {q : PV} {v : V} {g : List Addr}, backIo fd.io 0 ps ρ' = some l → CRes.ok q l = CRes.ok p ps' → SPost R fd.io H M F (L2.start fd.N vs) σ' ρ' H' M' F' → Rep R H' M' q v g → (g.Nodup ∧ ∀ a ∈ g, ¬ F'.any a) → (∀ a ∈ g, F.any a ∨ H a = none) → Q v H' := fun {σ' H' M' F' ρ' l q v g} hb e P r o fr => by
        cases e
        obtain ⟨F2, C⟩ := end_post en hio hb P r o fr
        exact k v H' M' F2 g C
      split at hc
      · rename_i q ρ' er
        split at hc
        · rename_i l hb
          show SOk R fd.io _ H M F (evSs gl (callN tbl gl fu d) fu fd.body (ps.map some ++ List.replicate (fd.N.length - ps.length) none)) _
          rw [er]
          exact fun v σ' H' M' F' g P r o fr => fin hb hc P r o fr
        · cases hc
      · rename_i ρ' er
        split at hc
        · rename_i l hb
          show SOk R fd.io _ H M F (evSs gl (callN tbl gl fu d) fu fd.body (ps.map some ++ List.replicate (fd.N.length - ps.length) none)) _
          rw [er]
          exact fun σ' H' M' F' P => fin hb hc P .non ⟨List.nodup_nil, fun _ z => (nomatch z)⟩ fun _ z => (nomatch z)
        · cases hc
      · cases hc
/-- the law's own call -/
theorem law_sp {tbl : List FnT} {i d : Nat} {io : List Nat} {H : Hp} {a : Addr} {ns : List Int} (h : ∃ l, callN tbl gl fu d i [.scr ns] = .ok (.bl true) l) (hS : SqL R.K H a (ns.map V.int)) : fSp R 1 io (callN tbl gl fu d i) [.ref a] H (fun v _ => v = .bl true) fun _ _ _ => False := by
  obtain ⟨l, h⟩ := h
  refine ⟨rfl, fun _ => False, [.scr ns], fun _ => [], ⟨rfl, fun k p e => ?_, fun _ _ => rfl, fun _ _ _ z => (nomatch z), fun _ => List.nodup_nil, fun _ z => z.elim⟩, fun _ _ => rfl, .bl true, l, h, fun v H' M' F' f C => (rep_bl C.rep).1⟩
  cases k with
  | zero =>
    simp at e; subst e
    refine ⟨.ref a, rfl, ?_⟩
    unfold Rep
    refine ⟨⟨a, rfl, ?_⟩, rfl⟩
    rcases hS with z | z
    · exact .inl ⟨z, fun q => q⟩
    · exact .inr (.inr z)
  | succ k => simp at e
end
end Ev

set_option Elab.async false
set_option linter.all false
set_option maxHeartbeats 4000000
set_option autoImplicit false
namespace Ev
open PySem PySem.Spec PyProof.Rows L2

/-! ### wishes: what the evaluator gives -/
def wpo {α : Type} (x : Option α) (Q : α → Prop) : Prop := match x with
  | some a => Q a
  | none => False
def wp {α : Type} (x : Res α) (Q : α → Env → Prop) : Prop := match x with
  | .ok a ρ => Q a ρ
  | _ => False
def wpc (x : CRes) (Q : PV → List PV → Prop) : Prop := match x with
  | .ok p l => Q p l
  | _ => False
structure Conts where
  N : Env → Prop
  T : PV → Env → Prop
  B : Env → Prop
  C : Env → Prop
def wps (x : SRes) (K : Conts) : Prop := match x with
  | .nx ρ => K.N ρ
  | .rt p ρ => K.T p ρ
  | .bk ρ => K.B ρ
  | .ct ρ => K.C ρ
  | _ => False
/-- a truth value -/
def wpb (p : PV) (Q : Bool → Prop) : Prop := match p with
  | .bl b => Q b
  | _ => False
def wpi (p : PV) (Q : Int → Prop) : Prop := match p with
  | .int b => Q b
  | _ => False
section
variable {α β : Type} {gl : Nat → PV} {cs : CS} {fu : Nat} {ρ : Env}
@[simp] theorem wpo_some {a : α} {Q : α → Prop} : wpo (some a) Q = Q a := rfl
@[simp] theorem wpo_none {Q : α → Prop} : wpo none Q = False := rfl
@[simp] theorem wp_ok {a : α} {Q : α → Env → Prop} : wp (.ok a ρ) Q = Q a ρ := rfl
@[simp] theorem wp_stuck {Q : α → Env → Prop} : wp .stuck Q = False := rfl
@[simp] theorem wpc_ok {p : PV} {l : List PV} {Q : PV → List PV → Prop} : wpc (.ok p l) Q = Q p l := rfl
@[simp] theorem wps_nx {K : Conts} : wps (.nx ρ) K = K.N ρ := rfl
@[simp] theorem wps_rt {K : Conts} {p : PV} : wps (.rt p ρ) K = K.T p ρ := rfl
@[simp] theorem wps_bk {K : Conts} : wps (.bk ρ) K = K.B ρ := rfl
@[simp] theorem wps_ct {K : Conts} : wps (.ct ρ) K = K.C ρ := rfl
@[simp] theorem wpb_bl {b : Bool} {Q : Bool → Prop} : wpb (.bl b) Q = Q b := rfl
@[simp] theorem wpi_int {b : Int} {Q : Int → Prop} : wpi (.int b) Q = Q b := rfl
theorem wpc_mono {x : CRes} {Q Q' : PV → List PV → Prop} (h : wpc x Q) (k : ∀ p l, Q p l → Q' p l) : wpc x Q' := by
  cases x <;> first | exact k _ _ h | exact h
theorem wp_mono {x : Res α} {Q Q' : α → Env → Prop} (h : wp x Q) (k : ∀ p l, Q p l → Q' p l) : wp x Q' := by
  cases x <;> first | exact k _ _ h | exact h
theorem wpo_mono {x : Option α} {Q Q' : α → Prop} (h : wpo x Q) (k : ∀ p, Q p → Q' p) : wpo x Q' := by
  cases x <;> first | exact k _ h | exact h
theorem wps_mono {x : SRes} {K K' : Conts} (h : wps x K) (k1 : ∀ ρ, K.N ρ → K'.N ρ) (k2 : ∀ p ρ, K.T p ρ → K'.T p ρ) (k3 : ∀ ρ, K.B ρ → K'.B ρ) (k4 : ∀ ρ, K.C ρ → K'.C ρ) : wps x K' := by
  cases x <;> first | exact k1 _ h | exact k2 _ _ h | exact k3 _ h | exact k4 _ h | exact h
theorem wp_eq {x : Res α} {Q : α → Env → Prop} (h : wp x Q) : ∃ a ρ, x = .ok a ρ ∧ Q a ρ := by
  cases x <;> first | exact ⟨_, _, rfl, h⟩ | exact h.elim
theorem wpc_eq {x : CRes} {Q : PV → List PV → Prop} (h : wpc x Q) : ∃ p l, x = .ok p l ∧ Q p l := by
  cases x <;> first | exact ⟨_, _, rfl, h⟩ | exact h.elim
theorem wp_bind {x : Res α} {g : α → Env → Res β} {Q : β → Env → Prop} : wp (x.bind g) Q = wp x fun a ρ => wp (g a ρ) Q := by cases x <;> rfl
theorem wp_if {c : Prop} [Decidable c] {x : Res α} {Q : α → Env → Prop} : wp (if c then x else .stuck) Q = (c ∧ wp x Q) := by
  by_cases h : c <;> simp [h]
theorem wps_if {c : Prop} [Decidable c] {x : SRes} {K : Conts} : wps (if c then x else .stuck) K = (c ∧ wps x K) := by
  by_cases h : c
  · simp [h]
  · simp [h, wps]
theorem wpo_need {c : Bool} {x : Option α} {Q : α → Prop} : wpo (need c x) Q = (c = true ∧ wpo x Q) := by
  unfold need
  by_cases h : c = true <;> simp [h]
theorem wpo_bind {x : Option α} {g : α → Option β} {Q : β → Prop} : wpo (x.bind g) Q = wpo x fun a => wpo (g a) Q := by cases x <;> rfl
theorem wpo_map {x : Option α} {g : α → β} {Q : β → Prop} : wpo (x.map g) Q = wpo x fun a => Q (g a) := by cases x <;> rfl

/-! ### expressions -/
theorem w_lit {p : PV} {Q : PV → Env → Prop} : wp (ev gl cs (.lit p) ρ) Q = Q p ρ := rfl
theorem w_rd {i : Nat} {Q : PV → Env → Prop} : wp (ev gl cs (.rd i) ρ) Q = wpo (getE i ρ) fun p => p.pure = true ∧ Q p ρ := by
  simp only [ev]; cases getE i ρ with
  | none => rfl
  | some p => by_cases h : p.pure = true <;> simp [h]
theorem w_vw {i : Nat} {Q : PV → Env → Prop} : wp (ev gl cs (.vw i) ρ) Q = wpo (getE i ρ) fun p => Q p ρ := by
  simp only [ev]; cases getE i ρ <;> rfl
theorem w_fz {i : Nat} {Q : PV → Env → Prop} : wp (ev gl cs (.fz i) ρ) Q = wpo (getE i ρ) fun p => Q p.frz (ρ.set i (some p.frz)) := by
  simp only [ev]; cases getE i ρ <;> rfl
theorem w_mv {i : Nat} {Q : PV → Env → Prop} : wp (ev gl cs (.mv i) ρ) Q = wpo (getE i ρ) fun p => Q p (ρ.set i none) := by
  simp only [ev]; cases getE i ρ <;> rfl
theorem w_op {g : List PV → Option PV} {ga : Ev (List PV)} {Q : PV → Env → Prop} : wp (opEv g ga ρ) Q = wp (ga ρ) fun ps ρ1 => wpo (g ps) fun r => Q r ρ1 := by
  unfold opEv; cases ga ρ with
  | ok ps ρ1 => show wp (match g ps with | some p => .ok p ρ1 | none => .stuck) Q = wpo (g ps) _; cases g ps <;> rfl
  | _ => rfl
theorem w_cons {c va : Bool} {ga : Ev PV} {gs : Ev (List PV)} {Q : List PV → Env → Prop} : wp (consEv c va ga gs ρ) Q = wp (ga ρ) fun p ρ1 => (c || !va || p.pure) = true ∧ wp (gs ρ1) fun ps ρ2 => Q (p :: ps) ρ2 := by
  unfold consEv
  rw [wp_bind]
  congr 1; funext p ρ1
  rw [wp_if, wp_bind]; rfl
theorem w_nil {Q : List PV → Env → Prop} : wp (nilEv ρ) Q = Q [] ρ := rfl
theorem w_bin {o : Operator} {a b : E} {Q : PV → Env → Prop} : wp (ev gl cs (.bin o a b) ρ) Q = wp (ev gl cs a ρ) fun p ρ1 => (b.q && true || !a.v || p.pure) = true ∧ wp (ev gl cs b ρ1) fun q ρ2 => wpo (opBin o [p, q]) fun r => Q r ρ2 := by
  simp only [ev, w_op, w_cons, w_nil, Bool.true_or, true_and]
theorem w_un {o : UnaryOp} {a : E} {Q : PV → Env → Prop} : wp (ev gl cs (.un o a) ρ) Q = wp (ev gl cs a ρ) fun p ρ1 => wpo (opUn o [p]) fun r => Q r ρ1 := by
  simp only [ev, w_op, w_cons, w_nil, Bool.true_or, true_and]
theorem w_cmp {o : CmpOp} {a b : E} {Q : PV → Env → Prop} : wp (ev gl cs (.cmp o a b) ρ) Q = wp (ev gl cs a ρ) fun p ρ1 => (b.q && true || !a.v || p.pure) = true ∧ wp (ev gl cs b ρ1) fun q ρ2 => wpo (opCmp o [p, q]) fun r => Q r ρ2 := by
  simp only [ev, w_op, w_cons, w_nil, Bool.true_or, true_and]
theorem w_sub {a b : E} {Q : PV → Env → Prop} : wp (ev gl cs (.sub a b) ρ) Q = wp (ev gl cs a ρ) fun p ρ1 => (b.q && true || !a.v || p.pure) = true ∧ wp (ev gl cs b ρ1) fun q ρ2 => wpo (opSub [p, q]) fun r => Q r ρ2 := by
  simp only [ev, w_op, w_cons, w_nil, Bool.true_or, true_and]
theorem w_slc {a lo hi : E} {hl hu : Bool} {Q : PV → Env → Prop} : wp (ev gl cs (.slc a hl hu lo hi) ρ) Q = wp (ev gl cs a ρ) fun p ρ1 => (lo.q && (hi.q && true) || !a.v || p.pure) = true ∧ wp (ev gl cs lo ρ1) fun l ρ2 => (hi.q && true || !lo.v || l.pure) = true ∧ wp (ev gl cs hi ρ2) fun u ρ3 => wpo (opSlc hl hu [p, l, u]) fun r => Q r ρ3 := by
  simp only [ev, w_op, w_cons, w_nil, Bool.true_or, true_and]
theorem w_bi {o : OB} {es : Es} {Q : PV → Env → Prop} : wp (ev gl cs (.bi o es) ρ) Q = wp (evs gl cs es ρ) fun ps ρ1 => wpo (obSem o ps) fun r => Q r ρ1 := by
  simp only [ev, w_op]
theorem w_isi {ts : List Ty} {b : Bool} {a : E} {Q : PV → Env → Prop} : wp (ev gl cs (.isi ts b a) ρ) Q = wp (ev gl cs a ρ) fun p ρ1 => wpo (opIsi ts [p]) fun r => Q r ρ1 := by
  simp only [ev, w_op, w_cons, w_nil, Bool.true_or, true_and]
theorem w_bm {o : BM} {a : E} {es : Es} {Q : PV → Env → Prop} : wp (ev gl cs (.bm o a es) ρ) Q = wp (ev gl cs a ρ) fun p ρ1 => (es.q || !a.v || p.pure) = true ∧ wp (evs gl cs es ρ1) fun ps ρ2 => wpo (bmSem o (p :: ps)) fun r => Q r ρ2 := by
  simp only [ev, w_op, w_cons]
theorem w_bk {mx : Bool} {a b : E} {Q : PV → Env → Prop} : wp (ev gl cs (.bk mx a b) ρ) Q = wp (ev gl cs a ρ) fun p ρ1 => (b.q && true || !a.v || p.pure) = true ∧ wp (ev gl cs b ρ1) fun q ρ2 => wpo (bkSem mx [p, q]) fun r => Q r ρ2 := by
  simp only [ev, w_op, w_cons, w_nil, Bool.true_or, true_and]
theorem w_frz {a : E} {Q : PV → Env → Prop} : wp (ev gl cs (.frz a) ρ) Q = wp (ev gl cs a ρ) fun p ρ1 => (!a.v || p.pure) = true ∧ Q p.frz ρ1 := by
  simp only [ev, wp_bind, wp_if, wp_ok]
theorem w_not {a : E} {Q : PV → Env → Prop} : wp (ev gl cs (.not a) ρ) Q = wp (ev gl cs a ρ) fun p ρ1 => wpb p fun b => Q (.bl (!b)) ρ1 := by
  simp only [ev, wp_bind]
  congr 1; funext p ρ1
  cases p <;> rfl
theorem w_ite {c a b : E} {Q : PV → Env → Prop} : wp (ev gl cs (.ite c a b) ρ) Q = wp (ev gl cs c ρ) fun p ρ1 => wpb p fun t => if t = true then wp (ev gl cs a ρ1) Q else wp (ev gl cs b ρ1) Q := by
  simp only [ev, wp_bind]
  congr 1; funext p ρ1
  cases p <;> first
    | rfl
    | (rename_i t; cases t <;> simp)
theorem w_tup {es : Es} {Q : PV → Env → Prop} : wp (ev gl cs (.tup es) ρ) Q = wp (evs gl cs es ρ) fun ps ρ1 => (ownOk es.vs ps && lenOk ps.length) = true ∧ Q (.tup (frzs ps)) ρ1 := by
  simp only [ev, wp_bind, wp_if, wp_ok]
theorem w_lst {es : Es} {Q : PV → Env → Prop} : wp (ev gl cs (.lst es) ρ) Q = wp (evs gl cs es ρ) fun ps ρ1 => (ownOk es.vs ps && lenOk ps.length) = true ∧ Q (.lst true ps) ρ1 := by
  simp only [ev, wp_bind, wp_if, wp_ok]
theorem w_mu {o : OMu} {i : Nat} {es : Es} {Q : PV → Env → Prop} : wp (ev gl cs (.mu o i es) ρ) Q = (isLst (getE i ρ) = true ∧ wp (evs gl cs es ρ) fun ps ρ1 => ownOk es.vs ps = true ∧ wpo (getE i ρ1) fun p => ∃ l, p = .lst true l ∧ wpo (muSem o l ps) fun r => Q r.1 (ρ1.set i (some (.lst true r.2)))) := by
  simp only [ev, wp_bind, wp_if]
  congr 2; funext ps ρ1
  congr 1
  cases getE i ρ1 with
  | none => rfl
  | some p =>
    cases p <;> first
      | (rename_i w l; cases w <;> first
          | (show wp .stuck Q = _; simp)
          | (show wp (match muSem o l ps with | some (r, l') => .ok r _ | none => .stuck) Q = _
             simp only [wpo_some, PV.lst.injEq, true_and, exists_eq_left']
             cases muSem o l ps <;> rfl))
      | (show wp .stuck Q = _; simp)
theorem w_call {f : Nat} {as : As} {Q : PV → Env → Prop} : wp (ev gl cs (.call f as) ρ) Q = wp (evAs gl cs as ρ) fun ps ρ1 => wpo (fillAs ps as ρ1) fun l => wpc (cs f l) fun p l' => Q p (backAs l' as ρ1) := by
  simp only [ev, wp_bind]
  congr 1; funext ps ρ1
  cases fillAs ps as ρ1 with
  | none => rfl
  | some l =>
    show wp (match cs f l with | .ok p l' => .ok p _ | .exn c d l' => .exn c d _ | .stuck => .stuck) Q = wpc (cs f l) _
    cases cs f l <;> rfl
theorem w_lc {e : E} {t : T} {it : I} {c : Es} {own : List Nat} {Q : PV → Env → Prop} : wp (ev gl cs (.lc e t it c own) ρ) Q = wp (evI gl cs it ρ) fun xs ρ1 => (plainOwn ρ1 own && lenOk xs.length) = true ∧
    wp (lcLoop own (asgT t) (evC gl cs c) (eltEv e.v (ev gl cs e)) xs ρ1) fun ps ρ2 => Q (.lst true ps) (backE ρ1 ρ2 own) := by
  simp only [ev, wp_bind, wp_if, wp_ok]
theorem w_lc2 {e : E} {t t2 : T} {it it2 : I} {c c2 : Es} {own own2 : List Nat} {Q : PV → Env → Prop} : wp (ev gl cs (.lc2 e t it c t2 it2 c2 own own2) ρ) Q = wp (evI gl cs it ρ) fun xs ρ1 => plainOwn ρ1 own = true ∧
    wp (lcLoop own (asgT t) (evC gl cs c) (fun ρ => (evI gl cs it2 ρ).bind fun ys ρ2 => lcLoop own2 (asgT t2) (evC gl cs c2) (eltEv e.v (ev gl cs e)) ys ρ2) xs ρ1) fun ps ρ2 => lenOk ps.length = true ∧ Q (.lst true ps) (backE ρ1 ρ2 own) := by
  simp only [ev, wp_bind, wp_if, wp_ok]
theorem w_elt {v : Bool} {g : Ev PV} {Q : List PV → Env → Prop} : wp (eltEv v g ρ) Q = wp (g ρ) fun p ρ1 => (!v || p.pure) = true ∧ Q [p] ρ1 := by
  unfold eltEv
  simp only [wp_bind, wp_if, wp_ok]
theorem w_bop {w : Bool} {es : Es} {Q : PV → Env → Prop} : wp (ev gl cs (.bop w es) ρ) Q = wp (evB gl cs w es ρ) Q := rfl
theorem w_b1 {w : Bool} {e : E} {Q : PV → Env → Prop} : wp (evB gl cs w (.cons e .nil) ρ) Q = wp (ev gl cs e ρ) fun p ρ1 => wpb p fun b => Q (.bl b) ρ1 := by
  simp only [evB, wp_bind]
  congr 1; funext p ρ1
  cases p <;> rfl
theorem w_b2 {w : Bool} {e e2 : E} {es : Es} {Q : PV → Env → Prop} : wp (evB gl cs w (.cons e (.cons e2 es)) ρ) Q = wp (ev gl cs e ρ) fun p ρ1 => wpb p fun b => if b = w then wp (evB gl cs w (.cons e2 es) ρ1) Q else Q (.bl b) ρ1 := by
  rw [evB_cons]
  simp only [wp_bind]
  congr 1; funext p ρ1
  cases p <;> first
    | rfl
    | (rename_i b; by_cases h : b = w <;> simp [h])
theorem w_es0 {Q : List PV → Env → Prop} : wp (evs gl cs .nil ρ) Q = Q [] ρ := rfl
theorem w_es {e : E} {es : Es} {Q : List PV → Env → Prop} : wp (evs gl cs (.cons e es) ρ) Q = wp (ev gl cs e ρ) fun p ρ1 => (es.q || !e.v || p.pure) = true ∧ wp (evs gl cs es ρ1) fun ps ρ2 => Q (p :: ps) ρ2 := by
  simp only [evs, w_cons]
theorem w_as0 {Q : List PV → Env → Prop} : wp (evAs gl cs .nil ρ) Q = Q [] ρ := rfl
theorem w_as1 {i : Nat} {as : As} {Q : List PV → Env → Prop} : wp (evAs gl cs (.io i as) ρ) Q = ((getE i ρ).isSome = true ∧ wp (evAs gl cs as ρ) fun ps ρ1 => Q (.non :: ps) ρ1) := by
  simp only [evAs, wp_if, wp_bind, wp_ok]
theorem w_as2 {e : E} {as : As} {Q : List PV → Env → Prop} : wp (evAs gl cs (.dat e as) ρ) Q = wp (ev gl cs e ρ) fun p ρ1 => (!e.v || p.pure) = true ∧ wp (evAs gl cs as ρ1) fun ps ρ2 => Q (p.frz :: ps) ρ2 := by
  simp only [evAs, wp_if, wp_bind, wp_ok]
theorem w_c0 {Q : PV → Env → Prop} : wp (evC gl cs .nil ρ) Q = Q (.bl true) ρ := rfl
theorem w_c1 {e : E} {Q : PV → Env → Prop} : wp (evC gl cs (.cons e .nil) ρ) Q = wp (ev gl cs e ρ) Q := rfl
theorem w_seq {e : E} {Q : List PV → Env → Prop} : wp (evI gl cs (.seq e) ρ) Q = wp (ev gl cs e ρ) fun p ρ1 => (!e.v || p.pure) = true ∧ wpo (itemsOf p) fun l => Q l ρ1 := by
  simp only [evI, wp_bind, wp_if]
  congr 1; funext p ρ1
  unfold resO
  cases itemsOf p <;> rfl
theorem w_range1 {e : E} {Q : List PV → Env → Prop} : wp (evI gl cs (.range1 e) ρ) Q = wp (ev gl cs e ρ) fun p ρ1 => wpi p fun j => bnd62 j = true ∧ Q (rangeP 0 j.toNat) ρ1 := by
  simp only [evI, wp_bind]
  congr 1; funext p ρ1
  cases p <;> first
    | rfl
    | (rename_i j; by_cases h : bnd62 j = true <;> simp [h])
theorem w_range2 {e e2 : E} {Q : List PV → Env → Prop} : wp (evI gl cs (.range2 e e2) ρ) Q = wp (ev gl cs e ρ) fun p ρ1 => wp (ev gl cs e2 ρ1) fun q ρ2 => wpi p fun i => wpi q fun j => (bnd62 i && bnd62 j) = true ∧ Q (rangeP i (j - i).toNat) ρ2 := by
  simp only [evI, wp_bind]
  congr 1; funext p ρ1
  congr 1; funext q ρ2
  cases p <;> first
    | rfl
    | (cases q <;> first
        | rfl
        | (rename_i i j; show wp (if (bnd62 i && bnd62 j) = true then .ok _ ρ2 else .stuck) Q = _; rw [wp_if]; rfl))
theorem w_enum {e : E} {Q : List PV → Env → Prop} : wp (evI gl cs (.enum e) ρ) Q = wp (ev gl cs e ρ) fun p ρ1 => (!e.v || p.pure) = true ∧ wpo (itemsOf p) fun l => Q (enumP 0 l) ρ1 := by
  simp only [evI, wp_bind, wp_if]
  congr 1; funext p ρ1
  cases itemsOf p <;> rfl
theorem w_zip {e e2 : E} {Q : List PV → Env → Prop} : wp (evI gl cs (.zip e e2) ρ) Q = wp (ev gl cs e ρ) fun p ρ1 => wp (ev gl cs e2 ρ1) fun q ρ2 => (p.pure && q.pure) = true ∧ wpo (itemsZ p q) fun l => Q l ρ2 := by
  simp only [evI, wp_bind, wp_if]
  congr 1; funext p ρ1
  congr 1; funext q ρ2
  cases itemsZ p q <;> rfl

/-! ### statements -/
theorem wps_to {x : Res α} {g : α → Env → SRes} {K : Conts} : wps (x.to g) K = wp x fun a ρ => wps (g a ρ) K := by cases x <;> rfl
theorem wps_seq {x : SRes} {g : Env → SRes} {K : Conts} : wps (x.seq g) K = wps x { K with N := fun ρ => wps (g ρ) K } := by cases x <;> rfl
theorem wps_turn {x : SRes} {g : Env → SRes} {K : Conts} : wps (x.turn g) K = wps x { K with N := fun ρ => wps (g ρ) K, C := fun ρ => wps (g ρ) K, B := K.N } := by cases x <;> rfl
theorem s_nil {K : Conts} : wps (evSs gl cs fu .nil ρ) K = K.N ρ := rfl
theorem s_one {s : S} {K : Conts} : wps (evSs gl cs fu (.cons s .nil) ρ) K = wps (evS gl cs fu s ρ) K := rfl
/-- the statements behind, not looked at yet -/
def seqN (gl : Nat → PV) (cs : CS) (fu : Nat) (ss : Ss) (K : Conts) (ρ : Env) : Prop := wps (evSs gl cs fu ss ρ) K
theorem seqN_app {ss : Ss} {K : Conts} : seqN gl cs fu ss K ρ = wps (evSs gl cs fu ss ρ) K := rfl
theorem s_cons {s s2 : S} {ss : Ss} {K : Conts} : wps (evSs gl cs fu (.cons s (.cons s2 ss)) ρ) K = wps (evS gl cs fu s ρ) { K with N := fun ρ => wps (evSs gl cs fu (.cons s2 ss) ρ) K } := by
  rw [← wps_seq]; rfl
theorem s_consN {s s2 : S} {ss : Ss} {K : Conts} : wps (evSs gl cs fu (.cons s (.cons s2 ss)) ρ) K = wps (evS gl cs fu s ρ) ⟨seqN gl cs fu (.cons s2 ss) K, K.T, K.B, K.C⟩ := s_cons
theorem s_set {t : T} {e : E} {K : Conts} : wps (evS gl cs fu (.set t e) ρ) K = wp (ev gl cs e ρ) fun p ρ1 => (!e.v || p.pure) = true ∧ wpo (asgT t p ρ1) K.N := by
  simp only [evS, wps_to, wps_if]
  congr 1; funext p ρ1
  cases asgT t p ρ1 <;> rfl
theorem s_setAt {i : Nat} {ix e : E} {K : Conts} : wps (evS gl cs fu (.setAt i ix e) ρ) K = wp (ev gl cs e ρ) fun p ρ1 => ((!e.v || p.pure) && isLst (getE i ρ1)) = true ∧ wp (ev gl cs ix ρ1) fun q ρ2 => wpi q fun k => wpo (getE i ρ2) fun r => ∃ l, r = .lst true l ∧ wpo (ixN l.length k) fun j => K.N (ρ2.set i (some (.lst true (l.set j p.frz)))) := by
  simp only [evS, wps_to, wps_if]
  congr 1; funext p ρ1
  congr 2; funext q ρ2
  cases q <;> first
    | (cases getE i ρ2 with
      | none => rfl
      | some r =>
        cases r <;> first
          | (rename_i w l; cases w <;> first
              | (show wps .stuck K = _; simp [wps])
              | (rename_i k; show wps (match ixN l.length k with | some j => .nx _ | none => .stuck) K = _
                 simp only [wpi_int, wpo_some, PV.lst.injEq, true_and, exists_eq_left']
                 cases ixN l.length k <;> rfl))
          | (show wps .stuck K = _; simp [wps, wpi]))
    | rfl
theorem s_par {i j : Nat} {a b : E} {K : Conts} : wps (evS gl cs fu (.par i j a b) ρ) K = wp (ev gl cs a ρ) fun p ρ1 => p.pure = true ∧ wp (ev gl cs b ρ1) fun q ρ2 => (q.pure && decide (i ≠ j) && decide (i < ρ2.length) && decide (j < ρ2.length)) = true ∧ K.N ((ρ2.set i (some p)).set j (some q)) := by
  simp only [evS, wps_to, wps_if, wps_nx]
theorem s_aug {i : Nat} {o : Operator} {e : E} {K : Conts} : wps (evS gl cs fu (.aug i o e) ρ) K = wp (ev gl cs e ρ) fun q ρ1 => wpo (getE i ρ) fun p => wpo (augOp o p q) fun r => K.N (ρ1.set i (some r)) := by
  simp only [evS, wps_to]
  congr 1; funext q ρ1
  cases getE i ρ with
  | none => rfl
  | some p =>
    rw [wpo_some]
    show wps (match augOp o p q with | some r => .nx _ | none => .stuck) K = _
    cases augOp o p q <;> rfl
theorem s_expr {e : E} {K : Conts} : wps (evS gl cs fu (.expr e) ρ) K = wp (ev gl cs e ρ) fun _ ρ1 => K.N ρ1 := by
  simp only [evS, wps_to, wps_nx]
theorem s_ite {c : E} {a b : Ss} {K : Conts} : wps (evS gl cs fu (.ite c a b) ρ) K = wp (ev gl cs c ρ) fun p ρ1 => wpb p fun t => if t = true then wps (evSs gl cs fu a ρ1) K else wps (evSs gl cs fu b ρ1) K := by
  simp only [evS, wps_to]
  congr 1; funext p ρ1
  cases p <;> first
    | rfl
    | (rename_i t; cases t <;> simp)
theorem s_for {t : T} {it : I} {b : Ss} {K : Conts} : wps (evS gl cs fu (.for t it b) ρ) K = wp (evI gl cs it ρ) fun xs ρ1 => wps (forLoop (asgT t) (evSs gl cs fu b) xs ρ1) K := by
  simp only [evS, wps_to]
theorem s_while {c : E} {b : Ss} {K : Conts} : wps (evS gl cs fu (.while c b) ρ) K = wps (whileLoop (ev gl cs c) (evSs gl cs fu b) fu ρ) K := rfl
theorem s_ret {e : E} {K : Conts} : wps (evS gl cs fu (.ret e) ρ) K = wp (ev gl cs e ρ) fun p ρ1 => (!e.v || p.pure) = true ∧ K.T p ρ1 := by
  simp only [evS, wps_to, wps_if, wps_rt]
theorem s_retN {K : Conts} : wps (evS gl cs fu .retN ρ) K = K.T .non ρ := rfl
theorem s_brk {K : Conts} : wps (evS gl cs fu .brk ρ) K = K.B ρ := rfl
theorem s_cont {K : Conts} : wps (evS gl cs fu .cont ρ) K = K.C ρ := rfl
theorem s_pass {K : Conts} : wps (evS gl cs fu .pass ρ) K = K.N ρ := rfl

/-! ### loops -/
theorem for_inv {asg : PV → Env → Option Env} {b : Env → SRes} {K : Conts} (Inv : List PV → Env → Prop)
    (hs : ∀ x xs ρ, Inv (x :: xs) ρ → wpo (asg x ρ) fun ρ1 => wps (b ρ1) { K with N := Inv xs, C := Inv xs, B := K.N }) (he : ∀ ρ, Inv [] ρ → K.N ρ) : ∀ xs ρ, Inv xs ρ → wps (forLoop asg b xs ρ) K
  | [], ρ, h => he ρ h
  | x :: xs, ρ, h => by
    have z := hs x xs ρ h
    unfold forLoop
    cases e : asg x ρ with
    | none => rw [e] at z; exact z.elim
    | some ρ1 =>
      rw [e] at z
      show wps ((b ρ1).turn (forLoop asg b xs)) K
      rw [wps_turn]
      exact wps_mono z (fun ρ q => for_inv Inv hs he xs ρ q) (fun _ _ q => q) (fun _ q => q) (fun ρ q => for_inv Inv hs he xs ρ q)
theorem lc_inv {own : List Nat} {asg : PV → Env → Option Env} {cnd : Ev PV} {elt : Ev (List PV)} {Q : List PV → Env → Prop} (Inv : List PV → List PV → Env → Prop)
    (hs : ∀ ps x xs ρ, Inv ps (x :: xs) ρ → wpo (asg x (wipeE ρ own)) fun ρ1 => wp (cnd ρ1) fun b ρ2 => wpb b fun t => if t = true then wp (elt ρ2) fun q ρ3 => Inv (ps ++ q) xs ρ3 else Inv ps xs ρ2)
    (he : ∀ ps ρ, Inv ps [] ρ → Q ps ρ) : ∀ xs ps ρ, Inv ps xs ρ → wp (lcLoop own asg cnd elt xs ρ) fun qs ρ => Q (ps ++ qs) ρ
  | [], ps, ρ, h => by
    show Q (ps ++ []) ρ
    rw [List.append_nil]; exact he ps ρ h
  | x :: xs, ps, ρ, h => by
    have z := hs ps x xs ρ h
    unfold lcLoop
    cases e : asg x (wipeE ρ own) with
    | none => rw [e] at z; exact z.elim
    | some ρ1 =>
      rw [e] at z
      rw [wpo_some] at z
      show wp ((cnd ρ1).bind _) _
      rw [wp_bind]
      refine wp_mono z fun b ρ2 z => ?_
      cases b <;> try exact z.elim
      rename_i t
      cases t with
      | true =>
        show wp ((elt ρ2).bind _) _
        rw [wp_bind]
        have z' : wp (elt ρ2) fun q ρ3 => Inv (ps ++ q) xs ρ3 := z
        refine wp_mono z' fun q ρ3 z => ?_
        rw [wp_bind]
        refine wp_mono (lc_inv Inv hs he xs (ps ++ q) ρ3 z) fun qs ρ4 z => ?_
        rw [wp_ok, ← List.append_assoc]; exact z
      | false => exact lc_inv Inv hs he xs ps ρ2 z
theorem lc_start {own : List Nat} {asg : PV → Env → Option Env} {cnd : Ev PV} {elt : Ev (List PV)} {Q : List PV → Env → Prop} {xs : List PV} (Inv : List PV → List PV → Env → Prop) (h0 : Inv [] xs ρ)
    (hs : ∀ ps x xs ρ, Inv ps (x :: xs) ρ → wpo (asg x (wipeE ρ own)) fun ρ1 => wp (cnd ρ1) fun b ρ2 => wpb b fun t => if t = true then wp (elt ρ2) fun q ρ3 => Inv (ps ++ q) xs ρ3 else Inv ps xs ρ2)
    (he : ∀ ps ρ, Inv ps [] ρ → Q ps ρ) : wp (lcLoop own asg cnd elt xs ρ) Q := lc_inv (Q := Q) Inv hs he xs [] ρ h0

/-! ### a def -/
theorem w_fn {tbl : List FnT} {d i : Nat} {fd : FnT} {ps : List PV} {Q : PV → List PV → Prop} (h : tbl[i]? = some fd) (hl : ps.length = fd.np)
    (w : wps (evSs gl (callN tbl gl fu d) fu fd.body (ps.map some ++ List.replicate (fd.N.length - ps.length) none)) ⟨fun ρ => wpo (backIo fd.io 0 ps ρ) fun l => Q .non l, fun p ρ => wpo (backIo fd.io 0 ps ρ) fun l => Q p l, fun _ => False, fun _ => False⟩) : wpc (callN tbl gl fu (d + 1) i ps) Q := by
  unfold callN
  rw [h]
  show wpc (if ps.length = fd.np then runFn gl (callN tbl gl fu d) fu fd ps else .stuck) Q
  rw [if_pos hl]
  unfold runFn
  revert w
  generalize evSs gl (callN tbl gl fu d) fu fd.body (ps.map some ++ List.replicate (fd.N.length - ps.length) none) = x
  intro w
  cases x <;> first
    | exact w.elim
    | (rename_i ρ; revert w; show wpo (backIo fd.io 0 ps ρ) _ → wpc (match backIo fd.io 0 ps ρ with | some l => _ | none => _) Q; cases backIo fd.io 0 ps ρ <;> exact fun w => w)

/-! ### slots -/
@[simp] theorem getE_0 {x : Option PV} {ρ : Env} : getE 0 (x :: ρ) = x := by unfold getE; simp
@[simp] theorem getE_s {n : Nat} {x : Option PV} {ρ : Env} : getE (n + 1) (x :: ρ) = getE n ρ := by unfold getE; simp
end
end Ev

set_option Elab.async false
set_option linter.all false
set_option maxHeartbeats 4000000
set_option autoImplicit false
namespace Ev
open PySem PySem.Spec PyProof.Rows L2

theorem need_t {α : Type} {x : Option α} : need true x = x := rfl
/-! ### operations, one by one -/
section
variable {Q : PV → Prop} {i j : Int} {l m : List PV} {p q r : PV} {ρ : Env} {x0 x1 x2 x3 x4 x5 x6 x7 x8 x9 x10 x11 x12 x13 x14 x15 : Option PV}
theorem op_add : opBin .Add [.int i, .int j] = some (.int (i + j)) := rfl
theorem op_sub : opBin .Sub [.int i, .int j] = some (.int (i - j)) := rfl
theorem op_mul : wpo (opBin .Mult [.int i, .int j]) Q = (mulOk i j = true ∧ Q (.int (i * j))) := by
  show wpo (need _ _) Q = _
  rw [wpo_need]; rfl
theorem op_div : wpo (opBin .FloorDiv [.int i, .int j]) Q = ((!decide (j = 0) && decide (j.natAbs.log2 < 9000)) = true ∧ Q (.int (divI i j))) := by
  show wpo (need _ _) Q = _
  rw [wpo_need]; rfl
theorem op_mod : wpo (opBin .Mod [.int i, .int j]) Q = ((!decide (j = 0)) = true ∧ Q (.int (modI i j))) := by
  show wpo (need _ _) Q = _
  rw [wpo_need]; rfl
theorem op_pow : wpo (opBin .Pow [.int i, .int j]) Q = (powOk i j = true ∧ Q (.int (i ^ j.toNat))) := by
  show wpo (need _ _) Q = _
  rw [wpo_need]; rfl
theorem op_and : opBin .BitAnd [.int i, .int j] = some (.int (Builtin.bitAnd i j)) := rfl
theorem op_or : opBin .BitOr [.int i, .int j] = some (.int (Builtin.bitOr i j)) := rfl
theorem op_lcat {w w' : Bool} : wpo (opBin .Add [.lst w l, .lst w' m]) Q = ((pures l && pures m && lenOk (l.length + m.length)) = true ∧ Q (.lst true (l ++ m))) := by
  show wpo (need _ _) Q = _
  rw [wpo_need]; rfl
theorem op_tcat : wpo (opBin .Add [.tup l, .tup m]) Q = (lenOk (l.length + m.length) = true ∧ Q (.tup (l ++ m))) := by
  show wpo (need _ _) Q = _
  rw [wpo_need]; rfl
theorem cmp_lt : opCmp .Lt [.int i, .int j] = some (.bl (decide (i < j))) := rfl
theorem cmp_le : opCmp .LtE [.int i, .int j] = some (.bl (decide (i ≤ j))) := rfl
theorem cmp_gt : opCmp .Gt [.int i, .int j] = some (.bl (decide (j < i))) := rfl
theorem cmp_ge : opCmp .GtE [.int i, .int j] = some (.bl (decide (j ≤ i))) := rfl
theorem cmp_is : opCmp .Is [p, .non] = some (.bl p.isN) := rfl
theorem cmp_isn : opCmp .IsNot [p, .non] = some (.bl (!p.isN)) := rfl
theorem shapedInt (i : Int) : SeqAt.shaped (.int i) = true := rfl
theorem eq_int : opEq (.int i) (.int j) = some (decide (i = j)) := by
  unfold opEq
  show need (SeqAt.shaped (.int i) && SeqAt.shaped (.int j)) (some (PyData.eqv (.int i) (.int j))) = _
  rw [shapedInt, shapedInt]
  show some (i == j) = _
  by_cases h : i = j <;> simp [h]
theorem eq_bl {a b : Bool} : opEq (.bl a) (.bl b) = some (a == b) := rfl
theorem cmp_eq : opCmp .Eq [.int i, .int j] = some (.bl (decide (i = j))) := by
  show (opEq (.int i) (.int j)).map PV.bl = _
  rw [eq_int]; rfl
theorem cmp_ne : opCmp .NotEq [.int i, .int j] = some (.bl (!decide (i = j))) := by
  show (opEq (.int i) (.int j)).map (fun b => PV.bl (!b)) = _
  rw [eq_int]; rfl
theorem cmp_neb {a b : Bool} : opCmp .NotEq [.bl a, .bl b] = some (.bl (!(a == b))) := by
  show (opEq (.bl a) (.bl b)).map (fun b => PV.bl (!b)) = _
  rw [eq_bl]; rfl
theorem cmp_eqb {a b : Bool} : opCmp .Eq [.bl a, .bl b] = some (.bl (a == b)) := by
  show (opEq (.bl a) (.bl b)).map PV.bl = _
  rw [eq_bl]; rfl
theorem atI_n {α : Type} {xs : List α} {n : Nat} : atI xs (n : Int) = xs[n]? := by
  unfold atI ixN
  rw [if_pos (by omega)]
  by_cases h : (n : Int) < xs.length
  · rw [if_pos h]; simp
  · rw [if_neg h]
    have : xs.length ≤ n := by omega
    simp [this]
theorem sub_tn {n : Nat} : opSub [.tup l, .int (n : Int)] = l[n]? := atI_n
theorem sub_ln {n : Nat} : wpo (opSub [.lst false l, .int (n : Int)]) Q = wpo l[n]? Q := by
  show wpo (atI l (n : Int)) Q = _
  rw [atI_n]
theorem sub_lt {n : Nat} : wpo (opSub [.lst true l, .int (n : Int)]) Q = wpo l[n]? fun p => p.pure = true ∧ Q p := by
  show wpo ((atI l (n : Int)).bind fun p => need p.pure (some p)) Q = _
  rw [atI_n, wpo_bind]
  cases l[n]? with
  | none => rfl
  | some p => rw [wpo_some, wpo_need]; rfl
theorem sub_t0 : opSub [.tup (p :: l), .int 0] = some p := sub_tn (n := 0)
theorem sub_t1 : opSub [.tup (p :: q :: l), .int 1] = some q := sub_tn (n := 1)
theorem sub_t2 : opSub [.tup (p :: q :: r :: l), .int 2] = some r := sub_tn (n := 2)
theorem sub_l0 : opSub [.lst false (p :: l), .int 0] = some p := by show atI _ _ = _; exact atI_n (n := 0)
theorem sub_l1 : opSub [.lst false (p :: q :: l), .int 1] = some q := by show atI _ _ = _; exact atI_n (n := 1)
theorem sub_l2 : opSub [.lst false (p :: q :: r :: l), .int 2] = some r := by show atI _ _ = _; exact atI_n (n := 2)
theorem lenOk_of {n : Nat} (h : n ≤ 1000000) : lenOk n = true := by
  unfold lenOk
  rw [decide_eq_true_eq, sizeLine_eq]
  omega
theorem lenOk_0 : lenOk 0 = true := lenOk_of (by omega)
theorem lenOk_1 : lenOk 1 = true := lenOk_of (by omega)
theorem lenOk_2 : lenOk 2 = true := lenOk_of (by omega)
theorem lenOk_3 : lenOk 3 = true := lenOk_of (by omega)
theorem lenOk_4 : lenOk 4 = true := lenOk_of (by omega)
theorem lenOk_5 : lenOk 5 = true := lenOk_of (by omega)
theorem lenOk_6 : lenOk 6 = true := lenOk_of (by omega)
theorem mu_append {Q : PV × List PV → Prop} : wpo (muSem .append l [p]) Q = (decide (l.length < sizeLine) = true ∧ Q (.non, l ++ [p])) := by
  show wpo (need _ _) Q = _
  rw [wpo_need]; rfl
theorem mu_reverse {Q : PV × List PV → Prop} : wpo (muSem .reverse l []) Q = Q (.non, l.reverse) := rfl
theorem mu_pop {Q : PV × List PV → Prop} : wpo (muSem .pop l []) Q = wpo l[l.length - 1]? fun p => p.pure = true ∧ Q (p, l.dropLast) := by
  show wpo (Option.bind _ _) Q = _
  rw [wpo_bind]
  congr 1; funext p
  rw [wpo_need]; rfl
theorem small_of {n : Nat} (h : n ≤ 1000000) : decide (n < sizeLine) = true := by rw [decide_eq_true_eq, sizeLine_eq]; omega
theorem getE_1 : getE 1 (x0 :: x1 :: ρ) = x1 := rfl
theorem getE_2 : getE 2 (x0 :: x1 :: x2 :: ρ) = x2 := rfl
theorem getE_3 : getE 3 (x0 :: x1 :: x2 :: x3 :: ρ) = x3 := rfl
theorem getE_4 : getE 4 (x0 :: x1 :: x2 :: x3 :: x4 :: ρ) = x4 := rfl
theorem getE_5 : getE 5 (x0 :: x1 :: x2 :: x3 :: x4 :: x5 :: ρ) = x5 := rfl
theorem getE_6 : getE 6 (x0 :: x1 :: x2 :: x3 :: x4 :: x5 :: x6 :: ρ) = x6 := rfl
theorem getE_7 : getE 7 (x0 :: x1 :: x2 :: x3 :: x4 :: x5 :: x6 :: x7 :: ρ) = x7 := rfl
theorem getE_8 : getE 8 (x0 :: x1 :: x2 :: x3 :: x4 :: x5 :: x6 :: x7 :: x8 :: ρ) = x8 := rfl
theorem getE_9 : getE 9 (x0 :: x1 :: x2 :: x3 :: x4 :: x5 :: x6 :: x7 :: x8 :: x9 :: ρ) = x9 := rfl
theorem getE_10 : getE 10 (x0 :: x1 :: x2 :: x3 :: x4 :: x5 :: x6 :: x7 :: x8 :: x9 :: x10 :: ρ) = x10 := rfl
theorem getE_11 : getE 11 (x0 :: x1 :: x2 :: x3 :: x4 :: x5 :: x6 :: x7 :: x8 :: x9 :: x10 :: x11 :: ρ) = x11 := rfl
theorem getE_12 : getE 12 (x0 :: x1 :: x2 :: x3 :: x4 :: x5 :: x6 :: x7 :: x8 :: x9 :: x10 :: x11 :: x12 :: ρ) = x12 := rfl
theorem getE_13 : getE 13 (x0 :: x1 :: x2 :: x3 :: x4 :: x5 :: x6 :: x7 :: x8 :: x9 :: x10 :: x11 :: x12 :: x13 :: ρ) = x13 := rfl
theorem getE_14 : getE 14 (x0 :: x1 :: x2 :: x3 :: x4 :: x5 :: x6 :: x7 :: x8 :: x9 :: x10 :: x11 :: x12 :: x13 :: x14 :: ρ) = x14 := rfl
theorem getE_15 : getE 15 (x0 :: x1 :: x2 :: x3 :: x4 :: x5 :: x6 :: x7 :: x8 :: x9 :: x10 :: x11 :: x12 :: x13 :: x14 :: x15 :: ρ) = x15 := rfl
theorem frzs_int (ns : List Int) : frzs (ns.map PV.int) = ns.map PV.int := by
  induction ns with
  | nil => rfl
  | cons n ns ih => rw [List.map_cons, frzs, ih]; rfl
theorem pures_int (ns : List Int) : pures (ns.map PV.int) = true := by
  induction ns with
  | nil => rfl
  | cons n ns ih => rw [List.map_cons, pures, ih]; rfl
theorem asInts_int (ns : List Int) : asInts (ns.map PV.int) = some ns := by
  induction ns with
  | nil => rfl
  | cons n ns ih => rw [List.map_cons, asInts, ih]; rfl
end
/-! ### sizes -/
theorem log2_lt {n k : Nat} (h : n < 2 ^ (k + 1)) : n.log2 ≤ k := by
  by_cases z : n = 0
  · subst z; simp
  · exact Nat.lt_succ_iff.mp ((Nat.log2_lt z).mpr h)
theorem mulOk_of {i j : Int} {a b : Nat} (hi : i.natAbs < 2 ^ (a + 1)) (hj : j.natAbs < 2 ^ (b + 1)) (h : a + b < 1000000) : mulOk i j = true := by
  unfold mulOk
  have h1 := log2_lt hi
  have h2 := log2_lt hj
  have : decide (i.natAbs.log2 + j.natAbs.log2 < 1000000) = true := decide_eq_true (by omega)
  rw [this]; simp
theorem mulOk_l {i j : Int} (h : -(2 ^ 64) < i ∧ i < 2 ^ 64) : mulOk i j = true := by
  have h2 : i.natAbs < 2 ^ 64 := by omega
  unfold mulOk smallI
  rw [decide_eq_true h2]; rfl
theorem mulOk_r {i j : Int} (h : -(2 ^ 64) < j ∧ j < 2 ^ 64) : mulOk i j = true := by
  have h2 : j.natAbs < 2 ^ 64 := by omega
  unfold mulOk smallI
  rw [decide_eq_true h2]; simp

/-! ### loops over a list's items -/
section
variable {α S : Type} {ρ : Env}
theorem lc_map {own : List Nat} {asg : PV → Env → Option Env} {cnd : Ev PV} {elt : Ev (List PV)} {Q : List PV → Env → Prop} (item : α → PV) (out : α → List PV) (E : Env → Prop) (l : List α) (h0 : E ρ)
    (hs : ∀ a ∈ l, ∀ ρ, E ρ → wpo (asg (item a) (wipeE ρ own)) fun ρ1 => wp (cnd ρ1) fun b ρ2 => wpb b fun t => if t = true then wp (elt ρ2) (fun q ρ3 => q = out a ∧ E ρ3) else out a = [] ∧ E ρ2)
    (he : ∀ ρ, E ρ → Q (l.flatMap out) ρ) : wp (lcLoop own asg cnd elt (l.map item) ρ) Q := by
  refine lc_start (fun ps xs ρ => ∃ a b, a ++ b = l ∧ ps = a.flatMap out ∧ xs = b.map item ∧ E ρ) ⟨[], l, rfl, rfl, rfl, h0⟩ ?_ ?_
  · rintro ps x xs ρ ⟨a, b, hab, rfl, hb, hE⟩
    cases b with
    | nil => cases hb
    | cons c b =>
      rw [List.map_cons] at hb
      injection hb with h1 h2
      subst h1; subst h2
      have hc : c ∈ l := by rw [← hab]; simp
      refine wpo_mono (hs c hc ρ hE) fun ρ1 h => wp_mono h fun p ρ2 h => ?_
      cases p <;> try exact h.elim
      rename_i t
      have e1 : (a ++ [c]).flatMap out = a.flatMap out ++ out c := by simp
      cases t with
      | true =>
        have h' : wp (elt ρ2) (fun q ρ3 => q = out c ∧ E ρ3) := h
        show wp (elt ρ2) _
        refine wp_mono h' fun q ρ3 h => ?_
        obtain ⟨rfl, h⟩ := h
        exact ⟨a ++ [c], b, by rw [← hab]; simp, e1.symm, rfl, h⟩
      | false =>
        have h' : out c = [] ∧ E ρ2 := h
        show ∃ a1 b1, _
        exact ⟨a ++ [c], b, by rw [← hab]; simp, by rw [e1, h'.1, List.append_nil], rfl, h'.2⟩
  · rintro ps ρ ⟨a, b, hab, rfl, hb, hE⟩
    have : b = [] := by cases b <;> first | rfl | cases hb
    subst this
    rw [List.append_nil] at hab
    subst hab
    exact he ρ hE
theorem for_list {asg : PV → Env → Option Env} {b : Env → SRes} {K : Conts} (item : α → PV) (P : S → Env → Prop) (stp : S → α → S) : ∀ (l : List α) (s : S) (ρ : Env), P s ρ →
    (∀ s a ρ, a ∈ l → P s ρ → wpo (asg (item a) ρ) fun ρ1 => wps (b ρ1) ⟨P (stp s a), K.T, K.N, P (stp s a)⟩) → (∀ ρ, P (l.foldl stp s) ρ → K.N ρ) → wps (forLoop asg b (l.map item) ρ) K
  | [], s, ρ, h0, hs, he => he ρ h0
  | a :: l, s, ρ, h0, hs, he => by
    have z := hs s a ρ (List.mem_cons_self ..) h0
    rw [List.map_cons]
    unfold forLoop
    cases e : asg (item a) ρ with
    | none => rw [e] at z; exact z.elim
    | some ρ1 =>
      rw [e] at z
      show wps ((b ρ1).turn (forLoop asg b (l.map item))) K
      rw [wps_turn]
      have go : ∀ ρ, P (stp s a) ρ → wps (forLoop asg b (l.map item) ρ) K := fun ρ h => for_list item P stp l (stp s a) ρ h (fun s c ρ hc => hs s c ρ (List.mem_cons_of_mem _ hc)) he
      exact wps_mono z go (fun _ _ q => q) (fun _ q => q) go
theorem for_nat {asg : PV → Env → Option Env} {b : Env → SRes} {K : Conts} (P : Nat → Env → Prop) : ∀ (n k : Nat) (ρ : Env), P k ρ →
    (∀ i ρ, k ≤ i → i < k + n → P i ρ → wpo (asg (.int (i : Int)) ρ) fun ρ1 => wps (b ρ1) ⟨P (i + 1), K.T, K.N, P (i + 1)⟩) → (∀ ρ, P (k + n) ρ → K.N ρ) → wps (forLoop asg b ((List.range' k n).map fun i : Nat => PV.int (i : Int)) ρ) K
  | 0, k, ρ, h0, hs, he => he ρ h0
  | n + 1, k, ρ, h0, hs, he => by
    have z := hs k ρ (Nat.le_refl _) (by omega) h0
    rw [List.range'_succ, List.map_cons]
    unfold forLoop
    cases e : asg (.int (k : Int)) ρ with
    | none => rw [e] at z; exact z.elim
    | some ρ1 =>
      rw [e] at z
      show wps ((b ρ1).turn (forLoop asg b ((List.range' (k + 1) n).map fun i : Nat => PV.int (i : Int)))) K
      rw [wps_turn]
      have go : ∀ ρ, P (k + 1) ρ → wps (forLoop asg b ((List.range' (k + 1) n).map fun i : Nat => PV.int (i : Int)) ρ) K := fun ρ h => for_nat P n (k + 1) ρ h (fun i ρ h1 h2 => hs i ρ (by omega) (by omega)) (fun ρ h => he ρ (by rw [show k + (n + 1) = k + 1 + n by omega]; exact h))
      exact wps_mono z go (fun _ _ q => q) (fun _ q => q) go
theorem for_range {asg : PV → Env → Option Env} {b : Env → SRes} {K : Conts} (P : Nat → Env → Prop) (n : Nat) (h0 : P 0 ρ)
    (hs : ∀ i ρ, i < n → P i ρ → wpo (asg (.int (i : Int)) ρ) fun ρ1 => wps (b ρ1) ⟨P (i + 1), K.T, K.N, P (i + 1)⟩) (he : ∀ ρ, P n ρ → K.N ρ) : wps (forLoop asg b ((List.range n).map fun i : Nat => PV.int (i : Int)) ρ) K := by
  rw [List.range_eq_range']
  exact for_nat P n 0 ρ h0 (fun i ρ _ h => hs i ρ (by omega)) (fun ρ h => he ρ (by rwa [Nat.zero_add] at h))
end
end Ev

set_option Elab.async false
set_option linter.all false
set_option maxRecDepth 100000
set_option maxHeartbeats 8000000
set_option autoImplicit false
namespace K78
open PySem PySem.Spec PyProof.Rows L2 Ev

/-- 0 bids, 1 winner -/
def f_second_price : FnT := { name := "second_price", N := ["bids", "winner"], np := 1, io := [], body := (.cons (.set (.nm 1) (.bm .index (.rd 0) (.cons (.bi .max (.cons (.rd 0) .nil)) .nil))) (.cons (.ret (.tup (.cons (.rd 1) (.cons (.bk true (.bin .Add (.slc (.rd 0) false true (.lit .non) (.rd 1)) (.slc (.rd 0) true false (.bin .Add (.rd 1) (.lit (.int 1))) (.lit .non))) (.lit (.int 0))) .nil)))) .nil)) }
/-- 0 bids, 1 found, 2 row, 3 told, 4 things -/
def f_sharings : FnT := { name := "sharings", N := ["bids", "found", "row", "told", "things"], np := 1, io := [], body := (.cons (.set (.nm 1) (.frz (.lst (.cons (.tup .nil) .nil)))) (.cons (.for (.nm 2) (.seq (.rd 0)) (.cons (.set (.nm 1) (.frz (.lc2 (.bin .Add (.rd 3) (.tup (.cons (.rd 4) .nil))) (.nm 3) (.seq (.rd 1)) .nil (.nm 4) (.range1 (.bi .len (.cons (.rd 2) .nil))) (.cons (.call 2 (.dat (.rd 3) (.dat (.rd 4) .nil))) .nil) [3, 4] [4]))) .nil)) (.cons (.ret (.rd 1)) .nil))) }
/-- 0 told, 1 things, 2 other -/
def f_is_free : FnT := { name := "is_free", N := ["told", "things", "other"], np := 2, io := [], body := (.cons (.ret (.bi .all (.cons (.lc (.cmp .Eq (.bin .BitAnd (.rd 2) (.rd 1)) (.lit (.int 0))) (.nm 2) (.seq (.rd 0)) .nil [2]) .nil))) .nil) }
/-- 0 bids, 1 sharing, 2 row, 3 things -/
def f_worth_of_sharing : FnT := { name := "worth_of_sharing", N := ["bids", "sharing", "row", "things"], np := 2, io := [], body := (.cons (.ret (.bi .sum (.cons (.lc (.sub (.rd 2) (.rd 3)) (.tp (.cons (.nm 2) (.cons (.nm 3) .nil))) (.zip (.rd 0) (.rd 1)) .nil [2, 3]) .nil))) .nil) }
/-- 0 bids, 1 best, 2 sharing -/
def f_best_sharing : FnT := { name := "best_sharing", N := ["bids", "best", "sharing"], np := 1, io := [], body := (.cons (.set (.nm 1) (.lit .non)) (.cons (.for (.nm 2) (.seq (.call 1 (.dat (.rd 0) .nil))) (.cons (.ite (.bop false (.cons (.cmp .Is (.rd 1) (.lit .non)) (.cons (.cmp .Gt (.call 3 (.dat (.rd 0) (.dat (.rd 2) .nil))) (.call 3 (.dat (.rd 0) (.dat (.rd 1) .nil)))) .nil))) (.cons (.set (.nm 1) (.rd 2)) .nil) .nil) .nil)) (.cons (.ret (.rd 1)) .nil))) }
/-- 0 bids, 1 best, 2 whole, 3 found, 4 bidder, 5 row, 6 others, 7 without -/
def f_payments : FnT := { name := "payments", N := ["bids", "best", "whole", "found", "bidder", "row", "others", "without"], np := 1, io := [], body := (.cons (.set (.nm 1) (.call 4 (.dat (.rd 0) .nil))) (.cons (.set (.nm 2) (.call 3 (.dat (.rd 0) (.dat (.rd 1) .nil)))) (.cons (.set (.nm 3) (.lst .nil)) (.cons (.for (.tp (.cons (.nm 4) (.cons (.nm 5) .nil))) (.enum (.rd 0)) (.cons (.set (.nm 6) (.frz (.bin .Add (.slc (.rd 0) false true (.lit .non) (.rd 4)) (.slc (.rd 0) true false (.bin .Add (.rd 4) (.lit (.int 1))) (.lit .non))))) (.cons (.set (.nm 7) (.call 3 (.dat (.rd 6) (.dat (.call 4 (.dat (.rd 6) .nil)) .nil)))) (.cons (.expr (.mu .append 3 (.cons (.bin .Sub (.rd 7) (.bin .Sub (.rd 2) (.sub (.rd 5) (.sub (.rd 1) (.rd 4))))) .nil))) .nil)))) (.cons (.ret (.bi .tuple (.cons (.vw 3) .nil))) .nil))))) }
/-- 0 n, 1 d, 2 divisor -/
def f_fraction : FnT := { name := "fraction", N := ["n", "d", "divisor"], np := 2, io := [], body := (.cons (.ite (.cmp .Lt (.rd 1) (.lit (.int 0))) (.cons (.par 0 1 (.un .USub (.rd 0)) (.un .USub (.rd 1))) .nil) .nil) (.cons (.set (.nm 2) (.bi .gcd (.cons (.rd 0) (.cons (.rd 1) .nil)))) (.cons (.ret (.tup (.cons (.bin .FloorDiv (.rd 0) (.rd 2)) (.cons (.bin .FloorDiv (.rd 1) (.rd 2)) .nil)))) .nil))) }
/-- 0 f, 1 g -/
def f_add : FnT := { name := "add", N := ["f", "g"], np := 2, io := [], body := (.cons (.ret (.call 6 (.dat (.bin .Add (.bin .Mult (.sub (.rd 0) (.lit (.int 0))) (.sub (.rd 1) (.lit (.int 1)))) (.bin .Mult (.sub (.rd 1) (.lit (.int 0))) (.sub (.rd 0) (.lit (.int 1))))) (.dat (.bin .Mult (.sub (.rd 0) (.lit (.int 1))) (.sub (.rd 1) (.lit (.int 1)))) .nil)))) .nil) }
/-- 0 f, 1 g -/
def f_subtract : FnT := { name := "subtract", N := ["f", "g"], np := 2, io := [], body := (.cons (.ret (.call 6 (.dat (.bin .Sub (.bin .Mult (.sub (.rd 0) (.lit (.int 0))) (.sub (.rd 1) (.lit (.int 1)))) (.bin .Mult (.sub (.rd 1) (.lit (.int 0))) (.sub (.rd 0) (.lit (.int 1))))) (.dat (.bin .Mult (.sub (.rd 0) (.lit (.int 1))) (.sub (.rd 1) (.lit (.int 1)))) .nil)))) .nil) }
/-- 0 f, 1 g -/
def f_multiply : FnT := { name := "multiply", N := ["f", "g"], np := 2, io := [], body := (.cons (.ret (.call 6 (.dat (.bin .Mult (.sub (.rd 0) (.lit (.int 0))) (.sub (.rd 1) (.lit (.int 0)))) (.dat (.bin .Mult (.sub (.rd 0) (.lit (.int 1))) (.sub (.rd 1) (.lit (.int 1)))) .nil)))) .nil) }
/-- 0 f, 1 g -/
def f_divide : FnT := { name := "divide", N := ["f", "g"], np := 2, io := [], body := (.cons (.ret (.call 6 (.dat (.bin .Mult (.sub (.rd 0) (.lit (.int 0))) (.sub (.rd 1) (.lit (.int 1)))) (.dat (.bin .Mult (.sub (.rd 0) (.lit (.int 1))) (.sub (.rd 1) (.lit (.int 0)))) .nil)))) .nil) }
/-- 0 f, 1 g, 2 left, 3 right -/
def f_compare_fractions : FnT := { name := "compare_fractions", N := ["f", "g", "left", "right"], np := 2, io := [], body := (.cons (.set (.nm 2) (.bin .Mult (.sub (.rd 0) (.lit (.int 0))) (.sub (.rd 1) (.lit (.int 1))))) (.cons (.set (.nm 3) (.bin .Mult (.sub (.rd 1) (.lit (.int 0))) (.sub (.rd 0) (.lit (.int 1))))) (.cons (.ite (.cmp .Eq (.rd 2) (.rd 3)) (.cons (.ret (.lit (.int 0))) .nil) .nil) (.cons (.ret (.ite (.cmp .Lt (.rd 2) (.rd 3)) (.un .USub (.lit (.int 1))) (.lit (.int 1)))) .nil)))) }
/-- 0 script, 1 many, 2 cells, 3 left, 4 draws, 5 k, 6 place, 7 cell, 8 mixed -/
def f_law_draws : FnT := { name := "_law_draws", N := ["script", "many", "cells", "left", "draws", "k", "place", "cell", "mixed"], np := 2, io := [], body := (.cons (.set (.nm 2) (.lc (.bi .int (.cons (.rd 7) .nil)) (.nm 7) (.seq (.rd 0)) .nil [7])) (.cons (.ite (.cmp .Eq (.bi .len (.cons (.vw 2) .nil)) (.lit (.int 0))) (.cons (.expr (.mu .append 2 (.cons (.lit (.int 0)) .nil))) .nil) .nil) (.cons (.set (.nm 3) (.bi .list (.cons (.vw 2) .nil))) (.cons (.set (.nm 4) (.lst .nil)) (.cons (.for (.nm 5) (.range1 (.rd 1)) (.cons (.set (.nm 6) (.bin .Mod (.bi .int (.cons (.rd 5) .nil)) (.bi .len (.cons (.vw 2) .nil)))) (.cons (.ite (.bop true (.cons (.cmp .GtE (.sub (.vw 2) (.rd 6)) (.bin .Pow (.lit (.int 10)) (.lit (.int 18)))) (.cons (.cmp .Gt (.sub (.vw 3) (.rd 6)) (.lit (.int 0))) .nil))) (.cons (.expr (.mu .append 4 (.cons (.bin .Mod (.bi .int (.cons (.sub (.vw 3) (.rd 6)) .nil)) (.lit (.int 1000))) .nil))) (.cons (.setAt 3 (.rd 6) (.bin .FloorDiv (.sub (.vw 3) (.rd 6)) (.lit (.int 1000)))) .nil)) (.cons (.set (.nm 8) (.bin .Mod (.bi .int (.cons (.bin .Add (.bin .Add (.bin .Mult (.sub (.vw 2) (.rd 6)) (.lit (.int 48271))) (.bin .Mult (.rd 5) (.lit (.int 69621)))) (.lit (.int 11))) .nil)) (.lit (.int 2147483647)))) (.cons (.expr (.mu .append 4 (.cons (.bin .Mod (.bi .int (.cons (.bin .Add (.bin .Add (.bin .Mult (.rd 8) (.rd 8)) (.bin .Mult (.lit (.int 3)) (.rd 8))) (.rd 5)) .nil)) (.lit (.int 1000003))) .nil))) .nil))) .nil))) (.cons (.expr (.mu .reverse 4 .nil)) (.cons (.ret (.mv 4)) .nil))))))) }
/-- 0 draws, 1 many -/
def f_law_take : FnT := { name := "_law_take", N := ["draws", "many"], np := 2, io := [0], body := (.cons (.ite (.cmp .Eq (.bi .len (.cons (.vw 0) .nil)) (.lit (.int 0))) (.cons (.ret (.lit (.int 0))) .nil) .nil) (.cons (.ret (.bin .Mod (.bi .int (.cons (.mu .pop 0 .nil) .nil)) (.rd 1))) .nil)) }
/-- 0 draws, 1 row -/
def f_law_pick : FnT := { name := "_law_pick", N := ["draws", "row"], np := 2, io := [0], body := (.cons (.ret (.sub (.rd 1) (.call 13 (.io 0 (.dat (.bi .len (.cons (.rd 1) .nil)) .nil))))) .nil) }
/-- 0 actual, 1 due, 2 k -/
def f_law_same : FnT := { name := "_law_same", N := ["actual", "due", "k"], np := 2, io := [], body := (.cons (.ite (.isi [.tuple, .list] true (.rd 1)) (.cons (.ite (.bop false (.cons (.cmp .NotEq (.isi [.tuple] false (.rd 0)) (.isi [.tuple] false (.rd 1))) (.cons (.cmp .NotEq (.isi [.list] false (.rd 0)) (.isi [.list] false (.rd 1))) .nil))) (.cons (.ret (.lit (.bl false))) .nil) .nil) (.cons (.ite (.cmp .NotEq (.bi .len (.cons (.rd 0) .nil)) (.bi .len (.cons (.rd 1) .nil))) (.cons (.ret (.lit (.bl false))) .nil) .nil) (.cons (.ret (.cmp .NotIn (.lit (.bl false)) (.lc (.call 15 (.dat (.sub (.rd 0) (.rd 2)) (.dat (.sub (.rd 1) (.rd 2)) .nil))) (.nm 2) (.range1 (.bi .len (.cons (.rd 1) .nil))) .nil [2]))) .nil))) .nil) (.cons (.ite (.bop false (.cons (.cmp .NotEq (.isi [.bool] false (.rd 0)) (.isi [.bool] false (.rd 1))) (.cons (.cmp .NotEq (.isi [.int] false (.rd 0)) (.isi [.int] false (.rd 1))) .nil))) (.cons (.ret (.lit (.bl false))) .nil) .nil) (.cons (.ite (.bop false (.cons (.cmp .NotEq (.isi [.str] false (.rd 0)) (.isi [.str] false (.rd 1))) (.cons (.cmp .NotEq (.cmp .Is (.rd 0) (.lit .non)) (.cmp .Is (.rd 1) (.lit .non))) .nil))) (.cons (.ret (.lit (.bl false))) .nil) .nil) (.cons (.ret (.cmp .Eq (.rd 0) (.rd 1))) .nil)))) }
/-- 0 many, 1 sets, 2 found, 3 k, 4 grown, 5 pair, 6 one -/
def f_law_sharings : FnT := { name := "_law_sharings", N := ["many", "sets", "found", "k", "grown", "pair", "one"], np := 2, io := [], body := (.cons (.set (.nm 2) (.frz (.lst (.cons (.frz (.lst (.cons (.tup .nil) (.cons (.lit (.int 0)) .nil)))) .nil)))) (.cons (.for (.nm 3) (.range1 (.rd 0)) (.cons (.set (.nm 4) (.frz (.lst .nil))) (.cons (.for (.nm 5) (.seq (.rd 2)) (.cons (.set (.nm 4) (.frz (.bin .Add (.rd 4) (.lc (.frz (.lst (.cons (.bin .Add (.sub (.rd 5) (.lit (.int 0))) (.tup (.cons (.rd 6) .nil))) (.cons (.bin .BitOr (.sub (.rd 5) (.lit (.int 1))) (.rd 6)) .nil)))) (.nm 6) (.range1 (.rd 1)) (.cons (.cmp .Eq (.bin .BitAnd (.rd 6) (.sub (.rd 5) (.lit (.int 1)))) (.lit (.int 0))) .nil) [6])))) .nil)) (.cons (.set (.nm 2) (.rd 4)) .nil)))) (.cons (.ret (.lc (.sub (.rd 5) (.lit (.int 0))) (.nm 5) (.seq (.rd 2)) .nil [5])) .nil))) }
/-- 0 bids, 1 sharing, 2 k -/
def f_law_sum_of_bids : FnT := { name := "_law_sum_of_bids", N := ["bids", "sharing", "k"], np := 2, io := [], body := (.cons (.ret (.bi .sum (.cons (.lc (.sub (.sub (.rd 0) (.rd 2)) (.sub (.rd 1) (.rd 2))) (.nm 2) (.range1 (.bi .len (.cons (.rd 0) .nil))) .nil [2]) .nil))) .nil) }
/-- 0 bids, 1 sets, 2 best, 3 sharing -/
def f_law_best : FnT := { name := "_law_best", N := ["bids", "sets", "best", "sharing"], np := 2, io := [], body := (.cons (.set (.nm 2) (.lit .non)) (.cons (.for (.nm 3) (.seq (.call 16 (.dat (.bi .len (.cons (.rd 0) .nil)) (.dat (.rd 1) .nil)))) (.cons (.ite (.bop false (.cons (.cmp .Is (.rd 2) (.lit .non)) (.cons (.cmp .Gt (.call 17 (.dat (.rd 0) (.dat (.rd 3) .nil))) (.call 17 (.dat (.rd 0) (.dat (.rd 2) .nil)))) .nil))) (.cons (.set (.nm 2) (.rd 3)) .nil) .nil) .nil)) (.cons (.ret (.rd 2)) .nil))) }
/-- 0 draws, 1 many, 2 sets, 3 scale, 4 rows, 5 rising, 6 k, 7 row, 8 one, 9 bid, 10 part -/
def f_law_drawn_bids : FnT := { name := "_law_drawn_bids", N := ["draws", "many", "sets", "scale", "rows", "rising", "k", "row", "one", "bid", "part"], np := 3, io := [0], body := (.cons (.set (.nm 3) (.call 14 (.io 0 (.dat (.lst (.cons (.lit (.int 1)) (.cons (.lit (.int 1)) (.cons (.bin .Pow (.lit (.int 10)) (.lit (.int 20))) .nil)))) .nil)))) (.cons (.set (.nm 4) (.lst .nil)) (.cons (.set (.nm 5) (.call 13 (.io 0 (.dat (.lit (.int 2)) .nil)))) (.cons (.for (.nm 6) (.range1 (.rd 1)) (.cons (.set (.nm 7) (.lst (.cons (.lit (.int 0)) .nil))) (.cons (.for (.nm 8) (.range2 (.lit (.int 1)) (.rd 2)) (.cons (.set (.nm 9) (.bin .Mult (.call 13 (.io 0 (.dat (.lit (.int 9)) .nil))) (.rd 3))) (.cons (.ite (.cmp .Eq (.rd 5) (.lit (.int 1))) (.cons (.set (.nm 9) (.bi .max (.cons (.bin .Add (.lst (.cons (.rd 9) .nil)) (.lc (.sub (.vw 7) (.rd 10)) (.nm 10) (.range1 (.rd 8)) (.cons (.cmp .Eq (.bin .BitAnd (.rd 10) (.rd 8)) (.rd 10)) .nil) [10])) .nil))) .nil) .nil) (.cons (.expr (.mu .append 7 (.cons (.rd 9) .nil))) .nil)))) (.cons (.expr (.mu .append 4 (.cons (.bi .tuple (.cons (.vw 7) .nil)) .nil))) .nil)))) (.cons (.ret (.lst (.cons (.bi .tuple (.cons (.vw 4) .nil)) (.cons (.rd 5) .nil)))) .nil))))) }
/-- 0 script, 1 draws, 2 shape, 3 best, 4 due, 5 k, 6 told, 7 plain, 8 bids, 9 rising, 10 others, 11 alone, 12 sale, 13 row -/
def f_law_first_half : FnT := { name := "_law_first_half", N := ["script", "draws", "shape", "best", "due", "k", "told", "plain", "bids", "rising", "others", "alone", "sale", "row"], np := 1, io := [], body := (.cons (.set (.nm 1) (.call 12 (.dat (.rd 0) (.dat (.lit (.int 400)) .nil)))) (.cons (.for (.nm 2) (.seq (.lst (.cons (.frz (.lst (.cons (.bin .Add (.lit (.int 1)) (.call 13 (.io 1 (.dat (.lit (.int 4)) .nil)))) (.cons (.lit (.int 4)) .nil)))) (.cons (.frz (.lst (.cons (.bin .Add (.lit (.int 1)) (.call 13 (.io 1 (.dat (.lit (.int 3)) .nil)))) (.cons (.lit (.int 8)) .nil)))) (.cons (.frz (.lst (.cons (.lit (.int 3)) (.cons (.lit (.int 2)) .nil)))) (.cons (.frz (.lst (.cons (.lit (.int 4)) (.cons (.lit (.int 2)) .nil)))) .nil)))))) (.cons (.set (.tp (.cons (.nm 8) (.cons (.nm 9) .nil))) (.frz (.call 19 (.io 1 (.dat (.sub (.rd 2) (.lit (.int 0))) (.dat (.sub (.rd 2) (.lit (.int 1))) .nil)))))) (.cons (.set (.nm 3) (.call 18 (.dat (.rd 8) (.dat (.sub (.rd 2) (.lit (.int 1))) .nil)))) (.cons (.ite (.not (.call 15 (.dat (.call 4 (.dat (.rd 8) .nil)) (.dat (.rd 3) .nil)))) (.cons (.ret (.lit (.bl false))) .nil) .nil) (.cons (.set (.nm 4) (.lst .nil)) (.cons (.for (.nm 5) (.range1 (.bi .len (.cons (.rd 8) .nil))) (.cons (.set (.nm 10) (.frz (.bin .Add (.slc (.rd 8) false true (.lit .non) (.rd 5)) (.slc (.rd 8) true false (.bin .Add (.rd 5) (.lit (.int 1))) (.lit .non))))) (.cons (.set (.nm 11) (.call 17 (.dat (.rd 10) (.dat (.call 18 (.dat (.rd 10) (.dat (.sub (.rd 2) (.lit (.int 1))) .nil))) .nil)))) (.cons (.expr (.mu .append 4 (.cons (.bin .Sub (.rd 11) (.call 17 (.dat (.rd 10) (.dat (.bin .Add (.slc (.rd 3) false true (.lit .non) (.rd 5)) (.slc (.rd 3) true false (.bin .Add (.rd 5) (.lit (.int 1))) (.lit .non))) .nil)))) .nil))) .nil)))) (.cons (.set (.nm 6) (.call 5 (.dat (.rd 8) .nil))) (.cons (.ite (.not (.call 15 (.dat (.rd 6) (.dat (.bi .tuple (.cons (.vw 4) .nil)) .nil)))) (.cons (.ret (.lit (.bl false))) .nil) .nil) (.cons (.ite (.bop true (.cons (.cmp .Eq (.rd 9) (.lit (.int 1))) (.cons (.cmp .In (.lit (.bl true)) (.lc (.bop false (.cons (.cmp .Lt (.sub (.rd 6) (.rd 5)) (.lit (.int 0))) (.cons (.cmp .Gt (.sub (.rd 6) (.rd 5)) (.sub (.sub (.rd 8) (.rd 5)) (.sub (.rd 3) (.rd 5)))) .nil))) (.nm 5) (.range1 (.bi .len (.cons (.rd 8) .nil))) .nil [5])) .nil))) (.cons (.ret (.lit (.bl false))) .nil) .nil) (.cons (.set (.nm 7) (.frz (.lc (.sub (.rd 13) (.lit (.int 1))) (.nm 13) (.seq (.rd 8)) .nil [13]))) (.cons (.ite (.bop true (.cons (.cmp .Eq (.sub (.rd 2) (.lit (.int 1))) (.lit (.int 2))) (.cons (.cmp .Gt (.bi .max (.cons (.rd 7) .nil)) (.lit (.int 0))) (.cons (.cmp .Eq (.bm .count (.rd 7) (.cons (.bi .max (.cons (.rd 7) .nil)) .nil)) (.lit (.int 1))) .nil)))) (.cons (.set (.nm 12) (.call 0 (.dat (.bi .tuple (.cons (.rd 7) .nil)) .nil))) (.cons (.ite (.not (.call 15 (.dat (.rd 6) (.dat (.bi .tuple (.cons (.lc (.bin .Mult (.sub (.rd 12) (.lit (.int 1))) (.bi .int (.cons (.cmp .Eq (.rd 5) (.sub (.rd 12) (.lit (.int 0)))) .nil))) (.nm 5) (.range1 (.bi .len (.cons (.rd 8) .nil))) .nil [5]) .nil)) .nil)))) (.cons (.ret (.lit (.bl false))) .nil) .nil) .nil)) .nil) .nil))))))))))) (.cons (.ret (.lit (.bl true))) .nil))) }
/-- 0 one, 1 other, 2 a, 3 b, 4 turn, 5 c -/
def f_law_gcd : FnT := { name := "_law_gcd", N := ["one", "other", "a", "b", "turn", "c"], np := 2, io := [], body := (.cons (.set (.nm 2) (.bi .abs (.cons (.rd 0) .nil))) (.cons (.set (.nm 3) (.bi .abs (.cons (.rd 1) .nil))) (.cons (.for (.nm 4) (.range1 (.lit (.int 400))) (.cons (.ite (.cmp .Eq (.rd 3) (.lit (.int 0))) (.cons (.brk) .nil) .nil) (.cons (.set (.nm 5) (.bin .Mod (.bi .int (.cons (.rd 2) .nil)) (.rd 3))) (.cons (.set (.nm 2) (.rd 3)) (.cons (.set (.nm 3) (.rd 5)) .nil))))) (.cons (.ret (.rd 2)) .nil)))) }
/-- 0 n, 1 d, 2 c -/
def f_law_frac : FnT := { name := "_law_frac", N := ["n", "d", "c"], np := 2, io := [], body := (.cons (.set (.nm 2) (.bi .max2 (.cons (.lit (.int 1)) (.cons (.call 21 (.dat (.rd 0) (.dat (.rd 1) .nil))) .nil)))) (.cons (.ite (.cmp .Lt (.rd 1) (.lit (.int 0))) (.cons (.set (.nm 2) (.bin .Sub (.lit (.int 0)) (.rd 2))) .nil) .nil) (.cons (.ret (.tup (.cons (.bin .FloorDiv (.rd 0) (.rd 2)) (.cons (.bin .FloorDiv (.rd 1) (.rd 2)) .nil)))) .nil))) }
/-- 0 one, 1 other -/
def f_law_plus : FnT := { name := "_law_plus", N := ["one", "other"], np := 2, io := [], body := (.cons (.ret (.call 22 (.dat (.bin .Add (.bin .Mult (.sub (.rd 0) (.lit (.int 0))) (.sub (.rd 1) (.lit (.int 1)))) (.bin .Mult (.sub (.rd 1) (.lit (.int 0))) (.sub (.rd 0) (.lit (.int 1))))) (.dat (.bin .Mult (.sub (.rd 0) (.lit (.int 1))) (.sub (.rd 1) (.lit (.int 1)))) .nil)))) .nil) }
/-- 0 one, 1 other -/
def f_law_minus : FnT := { name := "_law_minus", N := ["one", "other"], np := 2, io := [], body := (.cons (.ret (.call 22 (.dat (.bin .Sub (.bin .Mult (.sub (.rd 0) (.lit (.int 0))) (.sub (.rd 1) (.lit (.int 1)))) (.bin .Mult (.sub (.rd 1) (.lit (.int 0))) (.sub (.rd 0) (.lit (.int 1))))) (.dat (.bin .Mult (.sub (.rd 0) (.lit (.int 1))) (.sub (.rd 1) (.lit (.int 1)))) .nil)))) .nil) }
/-- 0 one, 1 other -/
def f_law_product : FnT := { name := "_law_product", N := ["one", "other"], np := 2, io := [], body := (.cons (.ret (.call 22 (.dat (.bin .Mult (.sub (.rd 0) (.lit (.int 0))) (.sub (.rd 1) (.lit (.int 0)))) (.dat (.bin .Mult (.sub (.rd 0) (.lit (.int 1))) (.sub (.rd 1) (.lit (.int 1)))) .nil)))) .nil) }
/-- 0 one, 1 other -/
def f_law_quotient : FnT := { name := "_law_quotient", N := ["one", "other"], np := 2, io := [], body := (.cons (.ret (.call 22 (.dat (.bin .Mult (.sub (.rd 0) (.lit (.int 0))) (.sub (.rd 1) (.lit (.int 1)))) (.dat (.bin .Mult (.sub (.rd 0) (.lit (.int 1))) (.sub (.rd 1) (.lit (.int 0)))) .nil)))) .nil) }
/-- 0 draws, 1 small -/
def f_law_great : FnT := { name := "_law_great", N := ["draws", "small"], np := 1, io := [0], body := (.cons (.set (.nm 1) (.bin .Sub (.call 13 (.io 0 (.dat (.lit (.int 19)) .nil))) (.lit (.int 9)))) (.cons (.ite (.cmp .Gt (.call 13 (.io 0 (.dat (.lit (.int 4)) .nil))) (.lit (.int 0))) (.cons (.ret (.rd 1)) .nil) .nil) (.cons (.ret (.bin .Add (.rd 1) (.bin .Mult (.call 14 (.io 0 (.dat (.lst (.cons (.lit (.int 1)) (.cons (.bin .Sub (.lit (.int 0)) (.lit (.int 1))) .nil))) .nil))) (.call 14 (.io 0 (.dat (.lst (.cons (.lit (.int 60)) (.cons (.lit (.int 1000003)) (.cons (.bin .Add (.bin .Pow (.lit (.int 10)) (.lit (.int 15))) (.lit (.int 37))) (.cons (.bin .Add (.bin .Pow (.lit (.int 10)) (.lit (.int 18))) (.lit (.int 9))) .nil))))) .nil)))))) .nil))) }
/-- 0 draws, 1 d -/
def f_law_drawn_fraction : FnT := { name := "_law_drawn_fraction", N := ["draws", "d"], np := 1, io := [0], body := (.cons (.set (.nm 1) (.call 27 (.io 0 .nil))) (.cons (.ite (.cmp .Eq (.rd 1) (.lit (.int 0))) (.cons (.set (.nm 1) (.lit (.int 12))) .nil) .nil) (.cons (.ret (.call 22 (.dat (.call 27 (.io 0 .nil)) (.dat (.rd 1) .nil)))) .nil))) }
/-- 0 script, 1 draws, 2 turn, 3 f, 4 g, 5 c, 6 due -/
def f_law_second_half : FnT := { name := "_law_second_half", N := ["script", "draws", "turn", "f", "g", "c", "due"], np := 1, io := [], body := (.cons (.set (.nm 1) (.call 12 (.dat (.rd 0) (.dat (.lit (.int 300)) .nil)))) (.cons (.for (.nm 2) (.range1 (.lit (.int 8))) (.cons (.set (.nm 3) (.call 28 (.io 1 .nil))) (.cons (.set (.nm 4) (.sub (.lst (.cons (.call 28 (.io 1 .nil)) (.cons (.rd 3) (.cons (.tup (.cons (.bin .Sub (.lit (.int 0)) (.sub (.rd 3) (.lit (.int 0)))) (.cons (.sub (.rd 3) (.lit (.int 1))) .nil))) .nil)))) (.call 14 (.io 1 (.dat (.lst (.cons (.lit (.int 0)) (.cons (.lit (.int 0)) (.cons (.lit (.int 0)) (.cons (.lit (.int 1)) (.cons (.lit (.int 2)) .nil)))))) .nil))))) (.cons (.set (.nm 5) (.call 14 (.io 1 (.dat (.lst (.cons (.lit (.int 1)) (.cons (.bin .Sub (.lit (.int 0)) (.lit (.int 1))) (.cons (.lit (.int 6)) (.cons (.bin .Sub (.lit (.int 0)) (.lit (.int 10))) (.cons (.lit (.int 1000003)) (.cons (.bin .Pow (.lit (.int 2)) (.lit (.int 40))) .nil))))))) .nil)))) (.cons (.ite (.bop false (.cons (.not (.call 15 (.dat (.call 6 (.dat (.bin .Mult (.sub (.rd 3) (.lit (.int 0))) (.rd 5)) (.dat (.bin .Mult (.sub (.rd 3) (.lit (.int 1))) (.rd 5)) .nil))) (.dat (.rd 3) .nil)))) (.cons (.not (.call 15 (.dat (.call 6 (.dat (.lit (.int 0)) (.dat (.rd 5) .nil))) (.dat (.tup (.cons (.lit (.int 0)) (.cons (.lit (.int 1)) .nil))) .nil)))) .nil))) (.cons (.ret (.lit (.bl false))) .nil) .nil) (.cons (.ite (.bop false (.cons (.not (.call 15 (.dat (.call 7 (.dat (.rd 3) (.dat (.rd 4) .nil))) (.dat (.call 23 (.dat (.rd 3) (.dat (.rd 4) .nil))) .nil)))) (.cons (.not (.call 15 (.dat (.call 8 (.dat (.rd 3) (.dat (.rd 4) .nil))) (.dat (.call 24 (.dat (.rd 3) (.dat (.rd 4) .nil))) .nil)))) .nil))) (.cons (.ret (.lit (.bl false))) .nil) .nil) (.cons (.ite (.not (.call 15 (.dat (.call 9 (.dat (.rd 3) (.dat (.rd 4) .nil))) (.dat (.call 25 (.dat (.rd 3) (.dat (.rd 4) .nil))) .nil)))) (.cons (.ret (.lit (.bl false))) .nil) .nil) (.cons (.ite (.bop true (.cons (.cmp .NotEq (.sub (.rd 4) (.lit (.int 0))) (.lit (.int 0))) (.cons (.not (.call 15 (.dat (.call 10 (.dat (.rd 3) (.dat (.rd 4) .nil))) (.dat (.call 26 (.dat (.rd 3) (.dat (.rd 4) .nil))) .nil)))) .nil))) (.cons (.ret (.lit (.bl false))) .nil) .nil) (.cons (.set (.nm 6) (.bin .Sub (.bi .int (.cons (.cmp .Gt (.bin .Mult (.sub (.rd 3) (.lit (.int 0))) (.sub (.rd 4) (.lit (.int 1)))) (.bin .Mult (.sub (.rd 4) (.lit (.int 0))) (.sub (.rd 3) (.lit (.int 1))))) .nil)) (.bi .int (.cons (.cmp .Lt (.bin .Mult (.sub (.rd 3) (.lit (.int 0))) (.sub (.rd 4) (.lit (.int 1)))) (.bin .Mult (.sub (.rd 4) (.lit (.int 0))) (.sub (.rd 3) (.lit (.int 1))))) .nil)))) (.cons (.ite (.not (.call 15 (.dat (.lst (.cons (.call 11 (.dat (.rd 3) (.dat (.rd 4) .nil))) (.cons (.call 11 (.dat (.rd 4) (.dat (.rd 3) .nil))) .nil))) (.dat (.lst (.cons (.rd 6) (.cons (.bin .Sub (.lit (.int 0)) (.rd 6)) .nil))) .nil)))) (.cons (.ret (.lit (.bl false))) .nil) .nil) .nil)))))))))) (.cons (.ret (.lit (.bl true))) .nil))) }
/-- 0 script -/
def f_law : FnT := { name := "law", N := ["script"], np := 1, io := [], body := (.cons (.ret (.bop true (.cons (.call 20 (.dat (.rd 0) .nil)) (.cons (.call 29 (.dat (.rd 0) .nil)) .nil)))) .nil) }
def tbl0 : List FnT := [f_second_price, f_sharings, f_is_free, f_worth_of_sharing, f_best_sharing, f_payments, f_fraction, f_add, f_subtract, f_multiply, f_divide, f_compare_fractions, f_law_draws, f_law_take, f_law_pick, f_law_same, f_law_sharings, f_law_sum_of_bids, f_law_best, f_law_drawn_bids, f_law_first_half, f_law_gcd, f_law_frac, f_law_plus, f_law_minus, f_law_product, f_law_quotient, f_law_great, f_law_drawn_fraction, f_law_second_half]
def tbl1 : List FnT := [f_law]
def tbl : List FnT := tbl0 ++ tbl1
theorem at_second_price : tbl[0]? = some f_second_price := rfl
theorem at_sharings : tbl[1]? = some f_sharings := rfl
theorem at_is_free : tbl[2]? = some f_is_free := rfl
theorem at_worth_of_sharing : tbl[3]? = some f_worth_of_sharing := rfl
theorem at_best_sharing : tbl[4]? = some f_best_sharing := rfl
theorem at_payments : tbl[5]? = some f_payments := rfl
theorem at_fraction : tbl[6]? = some f_fraction := rfl
theorem at_add : tbl[7]? = some f_add := rfl
theorem at_subtract : tbl[8]? = some f_subtract := rfl
theorem at_multiply : tbl[9]? = some f_multiply := rfl
theorem at_divide : tbl[10]? = some f_divide := rfl
theorem at_compare_fractions : tbl[11]? = some f_compare_fractions := rfl
theorem at_law_draws : tbl[12]? = some f_law_draws := rfl
theorem at_law_take : tbl[13]? = some f_law_take := rfl
theorem at_law_pick : tbl[14]? = some f_law_pick := rfl
theorem at_law_same : tbl[15]? = some f_law_same := rfl
theorem at_law_sharings : tbl[16]? = some f_law_sharings := rfl
theorem at_law_sum_of_bids : tbl[17]? = some f_law_sum_of_bids := rfl
theorem at_law_best : tbl[18]? = some f_law_best := rfl
theorem at_law_drawn_bids : tbl[19]? = some f_law_drawn_bids := rfl
theorem at_law_first_half : tbl[20]? = some f_law_first_half := rfl
theorem at_law_gcd : tbl[21]? = some f_law_gcd := rfl
theorem at_law_frac : tbl[22]? = some f_law_frac := rfl
theorem at_law_plus : tbl[23]? = some f_law_plus := rfl
theorem at_law_minus : tbl[24]? = some f_law_minus := rfl
theorem at_law_product : tbl[25]? = some f_law_product := rfl
theorem at_law_quotient : tbl[26]? = some f_law_quotient := rfl
theorem at_law_great : tbl[27]? = some f_law_great := rfl
theorem at_law_drawn_fraction : tbl[28]? = some f_law_drawn_fraction := rfl
theorem at_law_second_half : tbl[29]? = some f_law_second_half := rfl
theorem at_law : tbl[30]? = some f_law := rfl
def gl : Nat → PV := fun _ => .non
abbrev run (d : Nat) : CS := callN tbl gl 100000 d
end K78

set_option Elab.async false
set_option linter.all false
set_option maxRecDepth 100000
set_option maxHeartbeats 4000000
set_option autoImplicit false
namespace K78
open PySem PySem.Spec PyProof.Rows L2 Ev
def I2 (a b : Int) : PV := .tup [.int a, .int b]
theorem eq_of {x : CRes} {p : PV} {l : List PV} (h : wpc x fun q m => q = p ∧ m = l) : x = .ok p l := by
  obtain ⟨q, m, e, e1, e2⟩ := wpc_eq h
  rw [e, e1, e2]
theorem rangeP_len (i : Int) (n : Nat) : (rangeP i n).length = n := by unfold rangeP; simp

/-! ### gcd -/
theorem euclid {a b k : Nat} (hb0 : 0 < b) (hb : (b ≤ a ∧ a * b < 2 ^ (k + 1)) ∨ (a < b ∧ a * b * 2 < 2 ^ (k + 1) ∧ 0 < k + 1)) : a % b ≤ b ∧ b * (a % b) < 2 ^ k := by
  have hm : a % b < b := Nat.mod_lt _ hb0
  refine ⟨Nat.le_of_lt hm, ?_⟩
  rw [Nat.pow_succ] at hb
  rcases hb with ⟨h1, h2⟩ | ⟨h1, h2, _⟩
  · have hd := Nat.div_add_mod a b
    have hq : 1 ≤ a / b := (Nat.one_le_div_iff hb0).mpr h1
    have h3 : b * 1 ≤ b * (a / b) := Nat.mul_le_mul_left b hq
    have h4 : b + a % b ≤ a := by omega
    have h5 : (b + a % b) * b ≤ a * b := Nat.mul_le_mul_right b h4
    have h6 : (a % b) * b ≤ b * b := Nat.mul_le_mul_right b (Nat.le_of_lt hm)
    rw [Nat.add_mul] at h5
    rw [Nat.mul_comm b (a % b)]
    omega
  · rw [Nat.mod_eq_of_lt h1, Nat.mul_comm b a]
    omega
theorem gcd_t {d : Nat} {n e : Int} (hn : n.natAbs < 2 ^ 190) (he : e.natAbs < 2 ^ 190) : run (d + 1) 21 [.int n, .int e] = .ok (.int (Int.gcd n e)) [.int n, .int e] := by
  refine eq_of (w_fn at_law_gcd rfl ?_)
  simp only [f_law_gcd, ↓reduceIte, ↓w_lit, ↓w_rd, ↓w_vw, ↓w_fz, ↓w_mv, ↓w_bin, ↓w_un, ↓w_cmp, ↓w_sub, ↓w_slc, ↓w_bi, ↓w_isi, ↓w_bm, ↓w_bk, ↓w_frz, ↓w_not, ↓w_ite, ↓w_tup, ↓w_lst, ↓w_mu, ↓w_call, ↓w_lc, ↓w_lc2, ↓w_bop, ↓w_b1, ↓w_b2, ↓w_es0, ↓w_es, ↓w_as0, ↓w_as1, ↓w_as2, ↓w_c0, ↓w_c1, ↓w_seq, ↓w_range1, ↓w_range2, ↓w_enum, ↓w_zip, ↓s_nil, ↓s_one, ↓s_cons, ↓s_set, ↓s_setAt, ↓s_par, ↓s_aug, ↓s_expr, ↓s_ite, ↓s_for, ↓s_ret, ↓s_retN, ↓s_brk, ↓s_cont, ↓s_pass, ↓wpo_some, ↓wp_ok, ↓wpc_ok, ↓wps_nx, ↓wps_rt, ↓wps_bk, ↓wps_ct, ↓wpb_bl, ↓wpi_int, ↓wpo_need, ↓wpo_bind, ↓wpo_map, need_t, getE_0, getE_s, getE_1, getE_2, getE_3, getE_4, getE_5, getE_6, getE_7, getE_8, getE_9, getE_10, getE_11, getE_12, getE_13, getE_14, getE_15, List.set_cons_zero, List.set_cons_succ, asgT, asgTs, unpk, opUn, obSem, opIsi, bmSem, bkSem, Ev.numsOf, isLst, itemsOf, itemsZ, fillAs, backAs, augOp, E.v, E.q, Es.q, Es.vs, As.q, ownOk, PV.pure, pures, PV.frz, frzs, PV.isN, Bool.and_true, Bool.true_and, Bool.or_true, Bool.true_or, Bool.not_true, Bool.not_false, Bool.false_and, Bool.and_false, Bool.or_false, Bool.false_or, List.length_cons, List.length_nil, List.map_cons, List.map_nil, List.replicate, List.cons_append, List.nil_append, true_and, and_true, if_true, Option.isSome_some, backIo, Ev.op_add, Ev.op_sub, Ev.op_mul, Ev.op_div, Ev.op_mod, Ev.op_pow, Ev.op_and, Ev.op_or, Ev.op_lcat, Ev.op_tcat, cmp_lt, cmp_le, cmp_gt, cmp_ge, cmp_is, cmp_isn, sub_t0, sub_t1, sub_t2, sub_l0, sub_l1, sub_l2, sub_tn, sub_ln, eq_self, decide_true, decide_false, exists_eq_left', wipeE, backE, lenOk_0, lenOk_1, lenOk_2, lenOk_3, lenOk_4, lenOk_5, lenOk_6, Nat.reduceAdd, Nat.reduceLT, Nat.reduceLeDiff, Nat.reduceSub, Nat.reduceEqDiff, ne_eq, not_false_eq_true, not_true_eq_false, decide_eq_true_eq, List.mem_cons, List.not_mem_nil, or_false, false_or, true_or, or_true, if_false, Option.map_some, decide_not, decide_true, decide_false, Nat.lt_irrefl, cmp_eq, cmp_ne, cmp_eqb, cmp_neb, List.any_cons, List.any_nil, reduceCtorEq, beq_self_eq_true, Bool.or_self, plainOwn, List.all_cons, List.all_nil, PV.lst.injEq, mu_append, mu_reverse, mu_pop, List.getElem?_cons_succ, List.getElem?_cons_zero, List.getElem?_nil, Option.bind_some, Option.bind_none, id]
  refine ⟨by decide, ?_⟩
  have ea : ∀ x : Int, (if x < 0 then -x else x) = (x.natAbs : Int) := fun x => by split <;> omega
  rw [ea, ea]
  refine for_inv (fun xs ρ => ∃ (a b : Nat) (x y : Option PV), ρ = [some (.int n), some (.int e), some (.int a), some (.int b), x, y] ∧ Nat.gcd a b = Int.gcd n e ∧ ((b ≤ a ∧ a * b < 2 ^ xs.length) ∨ (a < b ∧ a * b * 2 < 2 ^ xs.length ∧ 0 < xs.length))) ?_ ?_ _ _ ⟨n.natAbs, e.natAbs, _, _, rfl, rfl, ?_⟩
  · rintro x xs ρ ⟨a, b, u, v, rfl, hg, hb⟩
    simp only [↓reduceIte, ↓w_lit, ↓w_rd, ↓w_vw, ↓w_fz, ↓w_mv, ↓w_bin, ↓w_un, ↓w_cmp, ↓w_sub, ↓w_slc, ↓w_bi, ↓w_isi, ↓w_bm, ↓w_bk, ↓w_frz, ↓w_not, ↓w_ite, ↓w_tup, ↓w_lst, ↓w_mu, ↓w_call, ↓w_lc, ↓w_lc2, ↓w_bop, ↓w_b1, ↓w_b2, ↓w_es0, ↓w_es, ↓w_as0, ↓w_as1, ↓w_as2, ↓w_c0, ↓w_c1, ↓w_seq, ↓w_range1, ↓w_range2, ↓w_enum, ↓w_zip, ↓s_nil, ↓s_one, ↓s_cons, ↓s_set, ↓s_setAt, ↓s_par, ↓s_aug, ↓s_expr, ↓s_ite, ↓s_for, ↓s_ret, ↓s_retN, ↓s_brk, ↓s_cont, ↓s_pass, ↓wpo_some, ↓wp_ok, ↓wpc_ok, ↓wps_nx, ↓wps_rt, ↓wps_bk, ↓wps_ct, ↓wpb_bl, ↓wpi_int, ↓wpo_need, ↓wpo_bind, ↓wpo_map, need_t, getE_0, getE_s, getE_1, getE_2, getE_3, getE_4, getE_5, getE_6, getE_7, getE_8, getE_9, getE_10, getE_11, getE_12, getE_13, getE_14, getE_15, List.set_cons_zero, List.set_cons_succ, asgT, asgTs, unpk, opUn, obSem, opIsi, bmSem, bkSem, Ev.numsOf, isLst, itemsOf, itemsZ, fillAs, backAs, augOp, E.v, E.q, Es.q, Es.vs, As.q, ownOk, PV.pure, pures, PV.frz, frzs, PV.isN, Bool.and_true, Bool.true_and, Bool.or_true, Bool.true_or, Bool.not_true, Bool.not_false, Bool.false_and, Bool.and_false, Bool.or_false, Bool.false_or, List.length_cons, List.length_nil, List.map_cons, List.map_nil, List.replicate, List.cons_append, List.nil_append, true_and, and_true, if_true, Option.isSome_some, backIo, Ev.op_add, Ev.op_sub, Ev.op_mul, Ev.op_div, Ev.op_mod, Ev.op_pow, Ev.op_and, Ev.op_or, Ev.op_lcat, Ev.op_tcat, cmp_lt, cmp_le, cmp_gt, cmp_ge, cmp_is, cmp_isn, sub_t0, sub_t1, sub_t2, sub_l0, sub_l1, sub_l2, sub_tn, sub_ln, eq_self, decide_true, decide_false, exists_eq_left', wipeE, backE, lenOk_0, lenOk_1, lenOk_2, lenOk_3, lenOk_4, lenOk_5, lenOk_6, Nat.reduceAdd, Nat.reduceLT, Nat.reduceLeDiff, Nat.reduceSub, Nat.reduceEqDiff, ne_eq, not_false_eq_true, not_true_eq_false, decide_eq_true_eq, List.mem_cons, List.not_mem_nil, or_false, false_or, true_or, or_true, if_false, Option.map_some, decide_not, decide_true, decide_false, Nat.lt_irrefl, cmp_eq, cmp_ne, cmp_eqb, cmp_neb, List.any_cons, List.any_nil, reduceCtorEq, beq_self_eq_true, Bool.or_self, plainOwn, List.all_cons, List.all_nil, PV.lst.injEq, mu_append, mu_reverse, mu_pop, List.getElem?_cons_succ, List.getElem?_cons_zero, List.getElem?_nil, Option.bind_some, Option.bind_none, id]
    by_cases h0 : (b : Int) = 0
    · have hb0 : b = 0 := by omega
      subst hb0
      rw [Nat.gcd_zero_right] at hg
      simp [hg]
    · have hb0 : 0 < b := by omega
      rw [if_neg h0]
      have e1 : modI (a : Int) (b : Int) = ((a % b : Nat) : Int) := by
        unfold modI
        rw [if_pos (by omega)]; rfl
      rw [e1]
      refine ⟨by rw [decide_eq_false h0]; rfl, b, a % b, _, _, rfl, ?_, .inl (euclid hb0 hb)⟩
      rw [← hg, Nat.gcd_comm b, ← Nat.gcd_rec, Nat.gcd_comm]
  · rintro ρ ⟨a, b, u, v, rfl, hg, hb⟩
    simp only [↓reduceIte, ↓w_lit, ↓w_rd, ↓w_vw, ↓w_fz, ↓w_mv, ↓w_bin, ↓w_un, ↓w_cmp, ↓w_sub, ↓w_slc, ↓w_bi, ↓w_isi, ↓w_bm, ↓w_bk, ↓w_frz, ↓w_not, ↓w_ite, ↓w_tup, ↓w_lst, ↓w_mu, ↓w_call, ↓w_lc, ↓w_lc2, ↓w_bop, ↓w_b1, ↓w_b2, ↓w_es0, ↓w_es, ↓w_as0, ↓w_as1, ↓w_as2, ↓w_c0, ↓w_c1, ↓w_seq, ↓w_range1, ↓w_range2, ↓w_enum, ↓w_zip, ↓s_nil, ↓s_one, ↓s_cons, ↓s_set, ↓s_setAt, ↓s_par, ↓s_aug, ↓s_expr, ↓s_ite, ↓s_for, ↓s_ret, ↓s_retN, ↓s_brk, ↓s_cont, ↓s_pass, ↓wpo_some, ↓wp_ok, ↓wpc_ok, ↓wps_nx, ↓wps_rt, ↓wps_bk, ↓wps_ct, ↓wpb_bl, ↓wpi_int, ↓wpo_need, ↓wpo_bind, ↓wpo_map, need_t, getE_0, getE_s, getE_1, getE_2, getE_3, getE_4, getE_5, getE_6, getE_7, getE_8, getE_9, getE_10, getE_11, getE_12, getE_13, getE_14, getE_15, List.set_cons_zero, List.set_cons_succ, asgT, asgTs, unpk, opUn, obSem, opIsi, bmSem, bkSem, Ev.numsOf, isLst, itemsOf, itemsZ, fillAs, backAs, augOp, E.v, E.q, Es.q, Es.vs, As.q, ownOk, PV.pure, pures, PV.frz, frzs, PV.isN, Bool.and_true, Bool.true_and, Bool.or_true, Bool.true_or, Bool.not_true, Bool.not_false, Bool.false_and, Bool.and_false, Bool.or_false, Bool.false_or, List.length_cons, List.length_nil, List.map_cons, List.map_nil, List.replicate, List.cons_append, List.nil_append, true_and, and_true, if_true, Option.isSome_some, backIo, Ev.op_add, Ev.op_sub, Ev.op_mul, Ev.op_div, Ev.op_mod, Ev.op_pow, Ev.op_and, Ev.op_or, Ev.op_lcat, Ev.op_tcat, cmp_lt, cmp_le, cmp_gt, cmp_ge, cmp_is, cmp_isn, sub_t0, sub_t1, sub_t2, sub_l0, sub_l1, sub_l2, sub_tn, sub_ln, eq_self, decide_true, decide_false, exists_eq_left', wipeE, backE, lenOk_0, lenOk_1, lenOk_2, lenOk_3, lenOk_4, lenOk_5, lenOk_6, Nat.reduceAdd, Nat.reduceLT, Nat.reduceLeDiff, Nat.reduceSub, Nat.reduceEqDiff, ne_eq, not_false_eq_true, not_true_eq_false, decide_eq_true_eq, List.mem_cons, List.not_mem_nil, or_false, false_or, true_or, or_true, if_false, Option.map_some, decide_not, decide_true, decide_false, Nat.lt_irrefl, cmp_eq, cmp_ne, cmp_eqb, cmp_neb, List.any_cons, List.any_nil, reduceCtorEq, beq_self_eq_true, Bool.or_self, plainOwn, List.all_cons, List.all_nil, PV.lst.injEq, mu_append, mu_reverse, mu_pop, List.getElem?_cons_succ, List.getElem?_cons_zero, List.getElem?_nil, Option.bind_some, Option.bind_none, id]
    have hb0 : b = 0 := by
      rcases hb with ⟨h1, h2⟩ | ⟨h1, h2, h3⟩
      · have : a * b = 0 := by simpa using h2
        rcases Nat.mul_eq_zero.mp this with z | z <;> omega
      · simp at h3
    subst hb0
    rw [Nat.gcd_zero_right] at hg
    rw [hg]
  · rw [rangeP_len]
    have hp : n.natAbs * e.natAbs * 2 < 2 ^ 400 := by
      have h1 : n.natAbs * e.natAbs ≤ 2 ^ 190 * 2 ^ 190 := Nat.mul_le_mul (Nat.le_of_lt hn) (Nat.le_of_lt he)
      have h2 : (2 : Nat) ^ 190 * 2 ^ 190 * 2 < 2 ^ 400 := by decide
      omega
    have e2 : (400 : Int).toNat = 400 := rfl
    rw [e2]
    rcases Nat.lt_or_ge n.natAbs e.natAbs with z | z
    · exact .inr ⟨z, hp, by omega⟩
    · exact .inl ⟨z, by omega⟩

/-! ### fractions -/
/-- lowest terms, the lower part above 0 -/
def fr (n e : Int) : Int × Int := if e < 0 then (-(n / (Int.gcd n e : Int)), -(e / (Int.gcd n e : Int))) else (n / (Int.gcd n e : Int), e / (Int.gcd n e : Int))
def F2 (p : Int × Int) : PV := I2 p.1 p.2
theorem gcd_pos {n e : Int} (he : e ≠ 0) : 0 < Int.gcd n e := Int.gcd_pos_of_ne_zero_right n he
theorem gcd_log {n e : Int} {k : Nat} (he : e ≠ 0) (hb : e.natAbs < 2 ^ k) (hk : k ≤ 8000) : (Int.gcd n e).log2 < 9000 := by
  have h1 : Int.gcd n e ≤ e.natAbs := Nat.le_of_dvd (by omega) (Int.gcd_dvd_natAbs_right n e)
  have h2 : Int.gcd n e < 2 ^ (8000 + 1) := Nat.lt_of_le_of_lt h1 (Nat.lt_of_lt_of_le hb (Nat.pow_le_pow_right (by omega) (by omega)))
  have := log2_lt h2
  omega
theorem neg_div_of {n g : Int} (h : g ∣ n) : -n / g = -(n / g) := Int.neg_ediv_of_dvd h
theorem fraction_t {d : Nat} {n e : Int} (he : e ≠ 0) (hb : e.natAbs < 2 ^ 1000) : run (d + 1) 6 [.int n, .int e] = .ok (F2 (fr n e)) [.int n, .int e] := by
  refine eq_of (w_fn at_fraction rfl ?_)
  simp only [f_fraction, ↓reduceIte, ↓w_lit, ↓w_rd, ↓w_vw, ↓w_fz, ↓w_mv, ↓w_bin, ↓w_un, ↓w_cmp, ↓w_sub, ↓w_slc, ↓w_bi, ↓w_isi, ↓w_bm, ↓w_bk, ↓w_frz, ↓w_not, ↓w_ite, ↓w_tup, ↓w_lst, ↓w_mu, ↓w_call, ↓w_lc, ↓w_lc2, ↓w_bop, ↓w_b1, ↓w_b2, ↓w_es0, ↓w_es, ↓w_as0, ↓w_as1, ↓w_as2, ↓w_c0, ↓w_c1, ↓w_seq, ↓w_range1, ↓w_range2, ↓w_enum, ↓w_zip, ↓s_nil, ↓s_one, ↓s_cons, ↓s_set, ↓s_setAt, ↓s_par, ↓s_aug, ↓s_expr, ↓s_ite, ↓s_for, ↓s_ret, ↓s_retN, ↓s_brk, ↓s_cont, ↓s_pass, ↓wpo_some, ↓wp_ok, ↓wpc_ok, ↓wps_nx, ↓wps_rt, ↓wps_bk, ↓wps_ct, ↓wpb_bl, ↓wpi_int, ↓wpo_need, ↓wpo_bind, ↓wpo_map, need_t, getE_0, getE_s, getE_1, getE_2, getE_3, getE_4, getE_5, getE_6, getE_7, getE_8, getE_9, getE_10, getE_11, getE_12, getE_13, getE_14, getE_15, List.set_cons_zero, List.set_cons_succ, asgT, asgTs, unpk, opUn, obSem, opIsi, bmSem, bkSem, Ev.numsOf, isLst, itemsOf, itemsZ, fillAs, backAs, augOp, E.v, E.q, Es.q, Es.vs, As.q, ownOk, PV.pure, pures, PV.frz, frzs, PV.isN, Bool.and_true, Bool.true_and, Bool.or_true, Bool.true_or, Bool.not_true, Bool.not_false, Bool.false_and, Bool.and_false, Bool.or_false, Bool.false_or, List.length_cons, List.length_nil, List.map_cons, List.map_nil, List.replicate, List.cons_append, List.nil_append, true_and, and_true, if_true, Option.isSome_some, backIo, Ev.op_add, Ev.op_sub, Ev.op_mul, Ev.op_div, Ev.op_mod, Ev.op_pow, Ev.op_and, Ev.op_or, Ev.op_lcat, Ev.op_tcat, cmp_lt, cmp_le, cmp_gt, cmp_ge, cmp_is, cmp_isn, sub_t0, sub_t1, sub_t2, sub_l0, sub_l1, sub_l2, sub_tn, sub_ln, eq_self, decide_true, decide_false, exists_eq_left', wipeE, backE, lenOk_0, lenOk_1, lenOk_2, lenOk_3, lenOk_4, lenOk_5, lenOk_6, Nat.reduceAdd, Nat.reduceLT, Nat.reduceLeDiff, Nat.reduceSub, Nat.reduceEqDiff, ne_eq, not_false_eq_true, not_true_eq_false, decide_eq_true_eq, List.mem_cons, List.not_mem_nil, or_false, false_or, true_or, or_true, if_false, Option.map_some, decide_not, decide_true, decide_false, Nat.lt_irrefl, cmp_eq, cmp_ne, cmp_eqb, cmp_neb, List.any_cons, List.any_nil, reduceCtorEq, beq_self_eq_true, Bool.or_self, plainOwn, List.all_cons, List.all_nil, PV.lst.injEq, mu_append, mu_reverse, mu_pop, List.getElem?_cons_succ, List.getElem?_cons_zero, List.getElem?_nil, Option.bind_some, Option.bind_none, id]
  have g0 := gcd_pos (n := n) he
  have gl := gcd_log (n := n) he hb (by omega)
  have eg : (-n).natAbs.gcd (-e).natAbs = Int.gcd n e := by rw [Int.natAbs_neg, Int.natAbs_neg]; rfl
  have eg2 : n.natAbs.gcd e.natAbs = Int.gcd n e := rfl
  rw [eg, eg2]
  have c : (!decide ((Int.gcd n e : Int) = 0) && decide ((Int.gcd n e : Int).natAbs.log2 < 9000)) = true := by
    rw [Int.natAbs_natCast, decide_eq_true gl, decide_eq_false (by omega)]; rfl
  have dv : ∀ x : Int, divI x (Int.gcd n e : Int) = x / (Int.gcd n e : Int) := fun x => by unfold divI; rw [if_pos (by omega)]
  rw [dv, dv, dv, dv]
  unfold fr F2 I2
  split
  · refine ⟨c, c, ?_⟩
    rw [neg_div_of (Int.gcd_dvd_left ..), neg_div_of (Int.gcd_dvd_right ..)]
  · exact ⟨c, c, rfl⟩
theorem lawfrac_t {d : Nat} {n e : Int} (he : e ≠ 0) (hn : n.natAbs < 2 ^ 190) (hb : e.natAbs < 2 ^ 190) : run (d + 2) 22 [.int n, .int e] = .ok (F2 (fr n e)) [.int n, .int e] := by
  refine eq_of (w_fn at_law_frac rfl ?_)
  simp only [f_law_frac, ↓reduceIte, ↓w_lit, ↓w_rd, ↓w_vw, ↓w_fz, ↓w_mv, ↓w_bin, ↓w_un, ↓w_cmp, ↓w_sub, ↓w_slc, ↓w_bi, ↓w_isi, ↓w_bm, ↓w_bk, ↓w_frz, ↓w_not, ↓w_ite, ↓w_tup, ↓w_lst, ↓w_mu, ↓w_call, ↓w_lc, ↓w_lc2, ↓w_bop, ↓w_b1, ↓w_b2, ↓w_es0, ↓w_es, ↓w_as0, ↓w_as1, ↓w_as2, ↓w_c0, ↓w_c1, ↓w_seq, ↓w_range1, ↓w_range2, ↓w_enum, ↓w_zip, ↓s_nil, ↓s_one, ↓s_cons, ↓s_set, ↓s_setAt, ↓s_par, ↓s_aug, ↓s_expr, ↓s_ite, ↓s_for, ↓s_ret, ↓s_retN, ↓s_brk, ↓s_cont, ↓s_pass, ↓wpo_some, ↓wp_ok, ↓wpc_ok, ↓wps_nx, ↓wps_rt, ↓wps_bk, ↓wps_ct, ↓wpb_bl, ↓wpi_int, ↓wpo_need, ↓wpo_bind, ↓wpo_map, need_t, getE_0, getE_s, getE_1, getE_2, getE_3, getE_4, getE_5, getE_6, getE_7, getE_8, getE_9, getE_10, getE_11, getE_12, getE_13, getE_14, getE_15, List.set_cons_zero, List.set_cons_succ, asgT, asgTs, unpk, opUn, obSem, opIsi, bmSem, bkSem, Ev.numsOf, isLst, itemsOf, itemsZ, fillAs, backAs, augOp, E.v, E.q, Es.q, Es.vs, As.q, ownOk, PV.pure, pures, PV.frz, frzs, PV.isN, Bool.and_true, Bool.true_and, Bool.or_true, Bool.true_or, Bool.not_true, Bool.not_false, Bool.false_and, Bool.and_false, Bool.or_false, Bool.false_or, List.length_cons, List.length_nil, List.map_cons, List.map_nil, List.replicate, List.cons_append, List.nil_append, true_and, and_true, if_true, Option.isSome_some, backIo, Ev.op_add, Ev.op_sub, Ev.op_mul, Ev.op_div, Ev.op_mod, Ev.op_pow, Ev.op_and, Ev.op_or, Ev.op_lcat, Ev.op_tcat, cmp_lt, cmp_le, cmp_gt, cmp_ge, cmp_is, cmp_isn, sub_t0, sub_t1, sub_t2, sub_l0, sub_l1, sub_l2, sub_tn, sub_ln, eq_self, decide_true, decide_false, exists_eq_left', wipeE, backE, lenOk_0, lenOk_1, lenOk_2, lenOk_3, lenOk_4, lenOk_5, lenOk_6, Nat.reduceAdd, Nat.reduceLT, Nat.reduceLeDiff, Nat.reduceSub, Nat.reduceEqDiff, ne_eq, not_false_eq_true, not_true_eq_false, decide_eq_true_eq, List.mem_cons, List.not_mem_nil, or_false, false_or, true_or, or_true, if_false, Option.map_some, decide_not, decide_true, decide_false, Nat.lt_irrefl, cmp_eq, cmp_ne, cmp_eqb, cmp_neb, List.any_cons, List.any_nil, reduceCtorEq, beq_self_eq_true, Bool.or_self, plainOwn, List.all_cons, List.all_nil, PV.lst.injEq, mu_append, mu_reverse, mu_pop, List.getElem?_cons_succ, List.getElem?_cons_zero, List.getElem?_nil, Option.bind_some, Option.bind_none, id, gcd_t hn hb]
  have g0 := gcd_pos (n := n) he
  have gl := gcd_log (n := n) he hb (by omega)
  have e1 : (if (Int.gcd n e : Int) > 1 then (Int.gcd n e : Int) else 1) = (Int.gcd n e : Int) := by split <;> omega
  rw [e1]
  have c : (!decide ((Int.gcd n e : Int) = 0) && decide ((Int.gcd n e : Int).natAbs.log2 < 9000)) = true := by
    rw [Int.natAbs_natCast, decide_eq_true gl, decide_eq_false (by omega)]; rfl
  have c2 : (!decide ((0 - (Int.gcd n e : Int)) = 0) && decide ((0 - (Int.gcd n e : Int)).natAbs.log2 < 9000)) = true := by
    have : (0 - (Int.gcd n e : Int)).natAbs = Int.gcd n e := by omega
    rw [this, decide_eq_true gl, decide_eq_false (by omega)]; rfl
  have dv : ∀ x : Int, divI x (Int.gcd n e : Int) = x / (Int.gcd n e : Int) := fun x => by unfold divI; rw [if_pos (by omega)]
  have dv2 : ∀ x : Int, (Int.gcd n e : Int) ∣ x → divI x (0 - (Int.gcd n e : Int)) = -(x / (Int.gcd n e : Int)) := fun x hx => by
    unfold divI
    rw [if_neg (by omega), Int.zero_sub, Int.fdiv_eq_ediv_of_dvd (Int.neg_dvd.mpr hx), Int.ediv_neg]
  rw [dv, dv, dv2 _ (Int.gcd_dvd_left ..), dv2 _ (Int.gcd_dvd_right ..)]
  unfold fr F2 I2
  split
  · exact ⟨c2, c2, rfl⟩
  · exact ⟨c, c, rfl⟩
end K78

set_option Elab.async false
set_option linter.all false
set_option maxRecDepth 100000
set_option maxHeartbeats 4000000
set_option autoImplicit false
namespace K78
open PySem PySem.Spec PyProof.Rows L2 Ev
/-! ### _law_same of a value and itself -/
def SameV (k : Nat) (p : PV) : Prop := ∀ d, run (d + k) 15 [p, p] = .ok (.bl true) [p, p]
theorem same_int (a : Int) : SameV 1 (.int a) := fun d => by
  refine eq_of (w_fn at_law_same rfl ?_)
  simp only [f_law_same, ↓reduceIte, ↓w_lit, ↓w_rd, ↓w_vw, ↓w_fz, ↓w_mv, ↓w_bin, ↓w_un, ↓w_cmp, ↓w_sub, ↓w_slc, ↓w_bi, ↓w_isi, ↓w_bm, ↓w_bk, ↓w_frz, ↓w_not, ↓w_ite, ↓w_tup, ↓w_lst, ↓w_mu, ↓w_call, ↓w_lc, ↓w_lc2, ↓w_bop, ↓w_b1, ↓w_b2, ↓w_es0, ↓w_es, ↓w_as0, ↓w_as1, ↓w_as2, ↓w_c0, ↓w_c1, ↓w_seq, ↓w_range1, ↓w_range2, ↓w_enum, ↓w_zip, ↓s_nil, ↓s_one, ↓s_cons, ↓s_set, ↓s_setAt, ↓s_par, ↓s_aug, ↓s_expr, ↓s_ite, ↓s_for, ↓s_ret, ↓s_retN, ↓s_brk, ↓s_cont, ↓s_pass, ↓wpo_some, ↓wp_ok, ↓wpc_ok, ↓wps_nx, ↓wps_rt, ↓wps_bk, ↓wps_ct, ↓wpb_bl, ↓wpi_int, ↓wpo_need, ↓wpo_bind, ↓wpo_map, need_t, getE_0, getE_s, getE_1, getE_2, getE_3, getE_4, getE_5, getE_6, getE_7, getE_8, getE_9, getE_10, getE_11, getE_12, getE_13, getE_14, getE_15, List.set_cons_zero, List.set_cons_succ, asgT, asgTs, unpk, opUn, obSem, opIsi, bmSem, bkSem, Ev.numsOf, isLst, itemsOf, itemsZ, fillAs, backAs, augOp, E.v, E.q, Es.q, Es.vs, As.q, ownOk, PV.pure, pures, PV.frz, frzs, PV.isN, Bool.and_true, Bool.true_and, Bool.or_true, Bool.true_or, Bool.not_true, Bool.not_false, Bool.false_and, Bool.and_false, Bool.or_false, Bool.false_or, List.length_cons, List.length_nil, List.map_cons, List.map_nil, List.replicate, List.cons_append, List.nil_append, true_and, and_true, if_true, Option.isSome_some, backIo, Ev.op_add, Ev.op_sub, Ev.op_mul, Ev.op_div, Ev.op_mod, Ev.op_pow, Ev.op_and, Ev.op_or, Ev.op_lcat, Ev.op_tcat, cmp_lt, cmp_le, cmp_gt, cmp_ge, cmp_is, cmp_isn, sub_t0, sub_t1, sub_t2, sub_l0, sub_l1, sub_l2, sub_tn, sub_ln, eq_self, decide_true, decide_false, exists_eq_left', wipeE, backE, lenOk_0, lenOk_1, lenOk_2, lenOk_3, lenOk_4, lenOk_5, lenOk_6, Nat.reduceAdd, Nat.reduceLT, Nat.reduceLeDiff, Nat.reduceSub, Nat.reduceEqDiff, ne_eq, not_false_eq_true, not_true_eq_false, decide_eq_true_eq, List.mem_cons, List.not_mem_nil, or_false, false_or, true_or, or_true, if_false, Option.map_some, decide_not, decide_true, decide_false, Nat.lt_irrefl, cmp_eq, cmp_ne, cmp_eqb, cmp_neb, List.any_cons, List.any_nil, reduceCtorEq, beq_self_eq_true, Bool.or_self, plainOwn, List.all_cons, List.all_nil, PV.lst.injEq, mu_append, mu_reverse, mu_pop, List.getElem?_cons_succ, List.getElem?_cons_zero, List.getElem?_nil, Option.bind_some, Option.bind_none, id, if_neg Bool.false_ne_true]
theorem dats_bl : ∀ (ps : List PV), (∀ p ∈ ps, p = .bl true) → dats ps = some (ps.map fun _ => .bool true) ∧ PyData.canLayAll0 (ps.map fun _ => .bool true) = true ∧ PyData.depthAll (ps.map fun _ => .bool true) = 0 ∧ (ps.map fun _ => PyData.bool true).any (fun z => PyData.eqv z (.bool false)) = false
  | [], _ => ⟨rfl, rfl, rfl, rfl⟩
  | p :: ps, h => by
    obtain ⟨a, b, c, e⟩ := dats_bl ps fun q hq => h q (List.mem_cons_of_mem _ hq)
    have hp := h p (List.mem_cons_self ..)
    subst hp
    refine ⟨by simp only [dats, PV.dat, a, List.map_cons], by simp only [List.map_cons, PyData.canLayAll0, b]; rfl, by simp only [List.map_cons, PyData.depthAll, c]; rfl, by simp only [List.map_cons, List.any_cons, e]; rfl⟩
theorem notIn_t {ps : List PV} {w : Bool} (h : ∀ p ∈ ps, p = .bl true) : opCmp .NotIn [.bl false, .lst w ps] = some (.bl true) := by
  obtain ⟨a, b, c, e⟩ := dats_bl ps h
  have sh : SeqAt.shaped (.list (ps.map fun _ => .bool true)) = true := by
    unfold SeqAt.shaped
    show (PyData.canLayAll0 _ && decide (PyData.depthAll _ + 1 ≤ 64)) = true
    rw [b, c]; rfl
  have dl : (PV.lst true ps).dat = some (.list (ps.map fun _ => .bool true)) := by simp only [PV.dat, a]; rfl
  show (match (PV.bl false).dat, (PV.lst true ps).dat with
    | some d, some (.list ds) => need (SeqAt.shaped d && SeqAt.shaped (.list ds)) (some (PV.bl (!ds.any fun z => PyData.eqv z d)))
    | _, _ => none) = _
  rw [dl]
  show need (SeqAt.shaped (.bool false) && SeqAt.shaped (.list (ps.map fun _ => .bool true))) (some (PV.bl (!(ps.map fun _ => PyData.bool true).any fun z => PyData.eqv z (.bool false)))) = _
  rw [sh, e]; rfl
theorem rangeP_mem {n : Nat} {x : PV} (h : x ∈ rangeP 0 n) : ∃ i : Nat, i < n ∧ x = .int (i : Int) := by
  unfold rangeP at h
  obtain ⟨i, hi, e⟩ := List.mem_map.mp h
  exact ⟨i, List.mem_range.mp hi, by rw [← e, Int.zero_add]⟩
theorem cmp_ne_int {i j : Int} : opCmp .NotEq [.int i, .int j] = some (.bl (!decide (i = j))) := cmp_ne
theorem bnd_of {n : Nat} (h : n ≤ 1000000) : bnd62 (n : Int) = true := by
  unfold bnd62
  rw [decide_eq_true_eq, Int.natAbs_natCast]
  omega
theorem sub_at {l : List PV} {i : Nat} {Q : PV → Prop} (hi : i < l.length) (hQ : ∀ p, p ∈ l → Q p) : wpo (opSub [.tup l, .int (i : Int)]) Q ∧ wpo (opSub [.lst false l, .int (i : Int)]) Q := by
  rw [sub_tn, sub_ln, List.getElem?_eq_getElem hi]
  exact ⟨hQ _ (List.getElem_mem hi), hQ _ (List.getElem_mem hi)⟩
theorem same_loop {k d : Nat} {l : List PV} (h : ∀ p ∈ l, SameV k p ∧ p.pure = true ∧ p.frz = p) (v : PV) (hv : v = .tup l ∨ v = .lst false l) (hp : v.pure = true) : wp
    (lcLoop [2] (asgT (.nm 2)) (evC gl (run (d + k)) .nil) (eltEv false (ev gl (run (d + k)) (.call 15 (.dat (.sub (.rd 0) (.rd 2)) (.dat (.sub (.rd 1) (.rd 2)) .nil))))) (rangeP 0 l.length) [some v, some v, none])
    fun ps ρ2 => wpo (opCmp .NotIn [.bl false, .lst true ps]) fun r => r = .bl true := by
  refine lc_start (fun ps xs ρ => (∀ p ∈ ps, p = .bl true) ∧ (∀ x ∈ xs, ∃ i : Nat, i < l.length ∧ x = .int (i : Int)) ∧ ∃ y, ρ = [some v, some v, y]) ⟨fun _ z => (nomatch z), fun x hx => rangeP_mem hx, _, rfl⟩ ?_ ?_
  · rintro ps x xs ρ ⟨h1, h2, y, rfl⟩
    obtain ⟨i, hi, rfl⟩ := h2 x (List.mem_cons_self ..)
    simp only [↓reduceIte, ↓w_lit, ↓w_rd, ↓w_vw, ↓w_fz, ↓w_mv, ↓w_bin, ↓w_un, ↓w_cmp, ↓w_sub, ↓w_slc, ↓w_bi, ↓w_isi, ↓w_bm, ↓w_bk, ↓w_frz, ↓w_not, ↓w_ite, ↓w_tup, ↓w_lst, ↓w_mu, ↓w_call, ↓w_lc, ↓w_lc2, ↓w_bop, ↓w_b1, ↓w_b2, ↓w_es0, ↓w_es, ↓w_as0, ↓w_as1, ↓w_as2, ↓w_c0, ↓w_c1, ↓w_seq, ↓w_range1, ↓w_range2, ↓w_enum, ↓w_zip, ↓s_nil, ↓s_one, ↓s_cons, ↓s_set, ↓s_setAt, ↓s_par, ↓s_aug, ↓s_expr, ↓s_ite, ↓s_for, ↓s_ret, ↓s_retN, ↓s_brk, ↓s_cont, ↓s_pass, ↓wpo_some, ↓wp_ok, ↓wpc_ok, ↓wps_nx, ↓wps_rt, ↓wps_bk, ↓wps_ct, ↓wpb_bl, ↓wpi_int, ↓wpo_need, ↓wpo_bind, ↓wpo_map, need_t, getE_0, getE_s, getE_1, getE_2, getE_3, getE_4, getE_5, getE_6, getE_7, getE_8, getE_9, getE_10, getE_11, getE_12, getE_13, getE_14, getE_15, List.set_cons_zero, List.set_cons_succ, asgT, asgTs, unpk, opUn, obSem, opIsi, bmSem, bkSem, Ev.numsOf, isLst, itemsOf, itemsZ, fillAs, backAs, augOp, E.v, E.q, Es.q, Es.vs, As.q, ownOk, PV.pure, pures, PV.frz, frzs, PV.isN, Bool.and_true, Bool.true_and, Bool.or_true, Bool.true_or, Bool.not_true, Bool.not_false, Bool.false_and, Bool.and_false, Bool.or_false, Bool.false_or, List.length_cons, List.length_nil, List.map_cons, List.map_nil, List.replicate, List.cons_append, List.nil_append, true_and, and_true, if_true, Option.isSome_some, backIo, Ev.op_add, Ev.op_sub, Ev.op_mul, Ev.op_div, Ev.op_mod, Ev.op_pow, Ev.op_and, Ev.op_or, Ev.op_lcat, Ev.op_tcat, cmp_lt, cmp_le, cmp_gt, cmp_ge, cmp_is, cmp_isn, sub_t0, sub_t1, sub_t2, sub_l0, sub_l1, sub_l2, sub_tn, sub_ln, eq_self, decide_true, decide_false, exists_eq_left', wipeE, backE, lenOk_0, lenOk_1, lenOk_2, lenOk_3, lenOk_4, lenOk_5, lenOk_6, Nat.reduceAdd, Nat.reduceLT, Nat.reduceLeDiff, Nat.reduceSub, Nat.reduceEqDiff, ne_eq, not_false_eq_true, not_true_eq_false, decide_eq_true_eq, List.mem_cons, List.not_mem_nil, or_false, false_or, true_or, or_true, if_false, Option.map_some, decide_not, decide_true, decide_false, Nat.lt_irrefl, cmp_eq, cmp_ne, cmp_eqb, cmp_neb, List.any_cons, List.any_nil, reduceCtorEq, beq_self_eq_true, Bool.or_self, plainOwn, List.all_cons, List.all_nil, PV.lst.injEq, mu_append, mu_reverse, mu_pop, List.getElem?_cons_succ, List.getElem?_cons_zero, List.getElem?_nil, Option.bind_some, Option.bind_none, id, ↓w_elt, hp]
    have hr : l[i]? = some l[i] := List.getElem?_eq_getElem hi
    obtain ⟨s1, s2, s3⟩ := h l[i] (List.getElem_mem hi)
    have es : opSub [v, .int (i : Int)] = some l[i] := by
      rcases hv with e | e
      · rw [e, sub_tn, hr]
      · rw [e]; show atI l (i : Int) = _; rw [atI_n, hr]
    have sc := s1 d
    simp only [es, ↓reduceIte, ↓w_lit, ↓w_rd, ↓w_vw, ↓w_fz, ↓w_mv, ↓w_bin, ↓w_un, ↓w_cmp, ↓w_sub, ↓w_slc, ↓w_bi, ↓w_isi, ↓w_bm, ↓w_bk, ↓w_frz, ↓w_not, ↓w_ite, ↓w_tup, ↓w_lst, ↓w_mu, ↓w_call, ↓w_lc, ↓w_lc2, ↓w_bop, ↓w_b1, ↓w_b2, ↓w_es0, ↓w_es, ↓w_as0, ↓w_as1, ↓w_as2, ↓w_c0, ↓w_c1, ↓w_seq, ↓w_range1, ↓w_range2, ↓w_enum, ↓w_zip, ↓s_nil, ↓s_one, ↓s_cons, ↓s_set, ↓s_setAt, ↓s_par, ↓s_aug, ↓s_expr, ↓s_ite, ↓s_for, ↓s_ret, ↓s_retN, ↓s_brk, ↓s_cont, ↓s_pass, ↓wpo_some, ↓wp_ok, ↓wpc_ok, ↓wps_nx, ↓wps_rt, ↓wps_bk, ↓wps_ct, ↓wpb_bl, ↓wpi_int, ↓wpo_need, ↓wpo_bind, ↓wpo_map, need_t, getE_0, getE_s, getE_1, getE_2, getE_3, getE_4, getE_5, getE_6, getE_7, getE_8, getE_9, getE_10, getE_11, getE_12, getE_13, getE_14, getE_15, List.set_cons_zero, List.set_cons_succ, asgT, asgTs, unpk, opUn, obSem, opIsi, bmSem, bkSem, Ev.numsOf, isLst, itemsOf, itemsZ, fillAs, backAs, augOp, E.v, E.q, Es.q, Es.vs, As.q, ownOk, PV.pure, pures, PV.frz, frzs, PV.isN, Bool.and_true, Bool.true_and, Bool.or_true, Bool.true_or, Bool.not_true, Bool.not_false, Bool.false_and, Bool.and_false, Bool.or_false, Bool.false_or, List.length_cons, List.length_nil, List.map_cons, List.map_nil, List.replicate, List.cons_append, List.nil_append, true_and, and_true, if_true, Option.isSome_some, backIo, Ev.op_add, Ev.op_sub, Ev.op_mul, Ev.op_div, Ev.op_mod, Ev.op_pow, Ev.op_and, Ev.op_or, Ev.op_lcat, Ev.op_tcat, cmp_lt, cmp_le, cmp_gt, cmp_ge, cmp_is, cmp_isn, sub_t0, sub_t1, sub_t2, sub_l0, sub_l1, sub_l2, sub_tn, sub_ln, eq_self, decide_true, decide_false, exists_eq_left', wipeE, backE, lenOk_0, lenOk_1, lenOk_2, lenOk_3, lenOk_4, lenOk_5, lenOk_6, Nat.reduceAdd, Nat.reduceLT, Nat.reduceLeDiff, Nat.reduceSub, Nat.reduceEqDiff, ne_eq, not_false_eq_true, not_true_eq_false, decide_eq_true_eq, List.mem_cons, List.not_mem_nil, or_false, false_or, true_or, or_true, if_false, Option.map_some, decide_not, decide_true, decide_false, Nat.lt_irrefl, cmp_eq, cmp_ne, cmp_eqb, cmp_neb, List.any_cons, List.any_nil, reduceCtorEq, beq_self_eq_true, Bool.or_self, plainOwn, List.all_cons, List.all_nil, PV.lst.injEq, mu_append, mu_reverse, mu_pop, List.getElem?_cons_succ, List.getElem?_cons_zero, List.getElem?_nil, Option.bind_some, Option.bind_none, id, s2, s3, sc]
    refine ⟨fun p hp => ?_, fun x hx => h2 x (List.mem_cons_of_mem _ hx), _, rfl⟩
    rcases List.mem_append.mp hp with z | z
    · exact h1 p z
    · simpa using z
  · rintro ps ρ ⟨h1, _, _, _⟩
    rw [notIn_t h1]; rfl
theorem same_tup {k : Nat} {l : List PV} (h : ∀ p ∈ l, SameV k p ∧ p.pure = true ∧ p.frz = p) (hl : l.length ≤ 1000) (hp : pures l = true) : SameV (k + 1) (.tup l) := fun d => by
  show run (d + k + 1) 15 _ = _
  refine eq_of (w_fn at_law_same rfl ?_)
  simp only [f_law_same, ↓reduceIte, ↓w_lit, ↓w_rd, ↓w_vw, ↓w_fz, ↓w_mv, ↓w_bin, ↓w_un, ↓w_cmp, ↓w_sub, ↓w_slc, ↓w_bi, ↓w_isi, ↓w_bm, ↓w_bk, ↓w_frz, ↓w_not, ↓w_ite, ↓w_tup, ↓w_lst, ↓w_mu, ↓w_call, ↓w_lc, ↓w_lc2, ↓w_bop, ↓w_b1, ↓w_b2, ↓w_es0, ↓w_es, ↓w_as0, ↓w_as1, ↓w_as2, ↓w_c0, ↓w_c1, ↓w_seq, ↓w_range1, ↓w_range2, ↓w_enum, ↓w_zip, ↓s_nil, ↓s_one, ↓s_cons, ↓s_set, ↓s_setAt, ↓s_par, ↓s_aug, ↓s_expr, ↓s_ite, ↓s_for, ↓s_ret, ↓s_retN, ↓s_brk, ↓s_cont, ↓s_pass, ↓wpo_some, ↓wp_ok, ↓wpc_ok, ↓wps_nx, ↓wps_rt, ↓wps_bk, ↓wps_ct, ↓wpb_bl, ↓wpi_int, ↓wpo_need, ↓wpo_bind, ↓wpo_map, need_t, getE_0, getE_s, getE_1, getE_2, getE_3, getE_4, getE_5, getE_6, getE_7, getE_8, getE_9, getE_10, getE_11, getE_12, getE_13, getE_14, getE_15, List.set_cons_zero, List.set_cons_succ, asgT, asgTs, unpk, opUn, obSem, opIsi, bmSem, bkSem, Ev.numsOf, isLst, itemsOf, itemsZ, fillAs, backAs, augOp, E.v, E.q, Es.q, Es.vs, As.q, ownOk, PV.pure, pures, PV.frz, frzs, PV.isN, Bool.and_true, Bool.true_and, Bool.or_true, Bool.true_or, Bool.not_true, Bool.not_false, Bool.false_and, Bool.and_false, Bool.or_false, Bool.false_or, List.length_cons, List.length_nil, List.map_cons, List.map_nil, List.replicate, List.cons_append, List.nil_append, true_and, and_true, if_true, Option.isSome_some, backIo, Ev.op_add, Ev.op_sub, Ev.op_mul, Ev.op_div, Ev.op_mod, Ev.op_pow, Ev.op_and, Ev.op_or, Ev.op_lcat, Ev.op_tcat, cmp_lt, cmp_le, cmp_gt, cmp_ge, cmp_is, cmp_isn, sub_t0, sub_t1, sub_t2, sub_l0, sub_l1, sub_l2, sub_tn, sub_ln, eq_self, decide_true, decide_false, exists_eq_left', wipeE, backE, lenOk_0, lenOk_1, lenOk_2, lenOk_3, lenOk_4, lenOk_5, lenOk_6, Nat.reduceAdd, Nat.reduceLT, Nat.reduceLeDiff, Nat.reduceSub, Nat.reduceEqDiff, ne_eq, not_false_eq_true, not_true_eq_false, decide_eq_true_eq, List.mem_cons, List.not_mem_nil, or_false, false_or, true_or, or_true, if_false, Option.map_some, decide_not, decide_true, decide_false, Nat.lt_irrefl, cmp_eq, cmp_ne, cmp_eqb, cmp_neb, List.any_cons, List.any_nil, reduceCtorEq, beq_self_eq_true, Bool.or_self, plainOwn, List.all_cons, List.all_nil, PV.lst.injEq, mu_append, mu_reverse, mu_pop, List.getElem?_cons_succ, List.getElem?_cons_zero, List.getElem?_nil, Option.bind_some, Option.bind_none, id, hp, Int.toNat_natCast, Bool.not_not, if_neg Bool.false_ne_true, rangeP_len]
  exact ⟨bnd_of (by omega), lenOk_of (by omega), same_loop h _ (.inl rfl) hp⟩
theorem same_lst {k : Nat} {l : List PV} (h : ∀ p ∈ l, SameV k p ∧ p.pure = true ∧ p.frz = p) (hl : l.length ≤ 1000) (hp : pures l = true) : SameV (k + 1) (.lst false l) := fun d => by
  show run (d + k + 1) 15 _ = _
  refine eq_of (w_fn at_law_same rfl ?_)
  simp only [f_law_same, ↓reduceIte, ↓w_lit, ↓w_rd, ↓w_vw, ↓w_fz, ↓w_mv, ↓w_bin, ↓w_un, ↓w_cmp, ↓w_sub, ↓w_slc, ↓w_bi, ↓w_isi, ↓w_bm, ↓w_bk, ↓w_frz, ↓w_not, ↓w_ite, ↓w_tup, ↓w_lst, ↓w_mu, ↓w_call, ↓w_lc, ↓w_lc2, ↓w_bop, ↓w_b1, ↓w_b2, ↓w_es0, ↓w_es, ↓w_as0, ↓w_as1, ↓w_as2, ↓w_c0, ↓w_c1, ↓w_seq, ↓w_range1, ↓w_range2, ↓w_enum, ↓w_zip, ↓s_nil, ↓s_one, ↓s_cons, ↓s_set, ↓s_setAt, ↓s_par, ↓s_aug, ↓s_expr, ↓s_ite, ↓s_for, ↓s_ret, ↓s_retN, ↓s_brk, ↓s_cont, ↓s_pass, ↓wpo_some, ↓wp_ok, ↓wpc_ok, ↓wps_nx, ↓wps_rt, ↓wps_bk, ↓wps_ct, ↓wpb_bl, ↓wpi_int, ↓wpo_need, ↓wpo_bind, ↓wpo_map, need_t, getE_0, getE_s, getE_1, getE_2, getE_3, getE_4, getE_5, getE_6, getE_7, getE_8, getE_9, getE_10, getE_11, getE_12, getE_13, getE_14, getE_15, List.set_cons_zero, List.set_cons_succ, asgT, asgTs, unpk, opUn, obSem, opIsi, bmSem, bkSem, Ev.numsOf, isLst, itemsOf, itemsZ, fillAs, backAs, augOp, E.v, E.q, Es.q, Es.vs, As.q, ownOk, PV.pure, pures, PV.frz, frzs, PV.isN, Bool.and_true, Bool.true_and, Bool.or_true, Bool.true_or, Bool.not_true, Bool.not_false, Bool.false_and, Bool.and_false, Bool.or_false, Bool.false_or, List.length_cons, List.length_nil, List.map_cons, List.map_nil, List.replicate, List.cons_append, List.nil_append, true_and, and_true, if_true, Option.isSome_some, backIo, Ev.op_add, Ev.op_sub, Ev.op_mul, Ev.op_div, Ev.op_mod, Ev.op_pow, Ev.op_and, Ev.op_or, Ev.op_lcat, Ev.op_tcat, cmp_lt, cmp_le, cmp_gt, cmp_ge, cmp_is, cmp_isn, sub_t0, sub_t1, sub_t2, sub_l0, sub_l1, sub_l2, sub_tn, sub_ln, eq_self, decide_true, decide_false, exists_eq_left', wipeE, backE, lenOk_0, lenOk_1, lenOk_2, lenOk_3, lenOk_4, lenOk_5, lenOk_6, Nat.reduceAdd, Nat.reduceLT, Nat.reduceLeDiff, Nat.reduceSub, Nat.reduceEqDiff, ne_eq, not_false_eq_true, not_true_eq_false, decide_eq_true_eq, List.mem_cons, List.not_mem_nil, or_false, false_or, true_or, or_true, if_false, Option.map_some, decide_not, decide_true, decide_false, Nat.lt_irrefl, cmp_eq, cmp_ne, cmp_eqb, cmp_neb, List.any_cons, List.any_nil, reduceCtorEq, beq_self_eq_true, Bool.or_self, plainOwn, List.all_cons, List.all_nil, PV.lst.injEq, mu_append, mu_reverse, mu_pop, List.getElem?_cons_succ, List.getElem?_cons_zero, List.getElem?_nil, Option.bind_some, Option.bind_none, id, hp, Int.toNat_natCast, Bool.not_not, if_neg Bool.false_ne_true, rangeP_len]
  exact ⟨bnd_of (by omega), lenOk_of (by omega), same_loop h _ (.inr rfl) (by simp only [PV.pure, hp]; rfl)⟩
theorem ints_at {l : List Int} : ∀ p ∈ l.map PV.int, SameV 1 p ∧ p.pure = true ∧ p.frz = p := fun p hp => by
  obtain ⟨i, _, e⟩ := List.mem_map.mp hp
  subst e
  exact ⟨same_int i, rfl, rfl⟩
theorem same_ints (l : List Int) (hl : l.length ≤ 1000) : SameV 2 (.tup (l.map .int)) := same_tup ints_at (by simpa using hl) (pures_int l)
theorem same_lints (l : List Int) (hl : l.length ≤ 1000) : SameV 2 (.lst false (l.map .int)) := same_lst ints_at (by simpa using hl) (pures_int l)
theorem same_F2 (p : Int × Int) : SameV 2 (F2 p) := same_ints [p.1, p.2] (by simp)
end K78

set_option Elab.async false
set_option linter.all false
set_option maxRecDepth 100000
set_option maxHeartbeats 4000000
set_option autoImplicit false
namespace K78
open PySem PySem.Spec PyProof.Rows L2 Ev
/-! ### draws -/
def LI (ns : List Int) : PV := .lst true (ns.map .int)
theorem ix_of {n k : Nat} (h : 0 < n) : modI (k : Int) (n : Int) = ((k % n : Nat) : Int) ∧ k % n < n := by
  refine ⟨?_, Nat.mod_lt _ h⟩
  unfold modI
  rw [if_pos (by omega)]; rfl
theorem sub_LI {l : List Int} {i : Nat} (hi : i < l.length) {Q : PV → Prop} : wpo (opSub [.lst true (l.map .int), .int (i : Int)]) Q = Q (.int l[i]) := by
  rw [sub_lt, List.getElem?_map, List.getElem?_eq_getElem hi]
  simp only [Option.map_some, wpo_some, PV.pure, true_and]
theorem ixN_at {n i : Nat} (h : i < n) : ixN n (i : Int) = some i := by
  unfold ixN
  rw [if_pos (by omega), if_pos (by omega), Int.toNat_natCast]
theorem modI_nn {i j : Int} (h : 0 < j) : 0 ≤ modI i j ∧ modI i j < j := by
  unfold modI
  rw [if_pos h]
  exact ⟨Int.emod_nonneg _ (by omega), Int.emod_lt_of_pos _ h⟩
def DSt (ns : List Int) (m : Nat) (k : Nat) (ρ : Ev.Env) : Prop := ∃ (cs lf ds : List Int) (x5 x6 x8 : Option PV), ρ = [some (.scr ns), some (.int (m : Int)), some (LI cs), some (LI lf), some (LI ds), x5, x6, none, x8] ∧ 0 < cs.length ∧ cs.length ≤ 1001 ∧ lf.length = cs.length ∧ ds.length + k ≤ m ∧ ∀ x ∈ ds, 0 ≤ x
theorem if_c (c : Prop) [Decidable c] {a b : Prop} (h1 : c → a) (h2 : ¬ c → b) : if c then a else b := by
  by_cases h : c
  · rw [if_pos h]; exact h1 h
  · rw [if_neg h]; exact h2 h
def drawBody : Ss := match f_law_draws.body with
  | .cons _ (.cons _ (.cons _ (.cons _ (.cons (.for _ _ b) _)))) => b
  | _ => .nil
theorem draw_step {d m k i : Nat} {ns : List Int} {ρ : Ev.Env} {T : PV → Ev.Env → Prop} {B : Ev.Env → Prop} (hm : m ≤ 1000) (hi : i < m) (h : DSt ns m (k + 1) ρ) : wpo (asgT (.nm 5) (.int (i : Int)) ρ) fun ρ1 => wps (evSs gl (run d) 100000 drawBody ρ1) ⟨DSt ns m k, T, B, DSt ns m k⟩ := by
  obtain ⟨cs, lf, ds, x5, x6, x8, rfl, h1, h2, h3, h4, h5⟩ := h
  obtain ⟨e1, e2⟩ := ix_of (n := cs.length) (k := i) h1
  have e3 : i % cs.length < lf.length := by omega
  simp only [drawBody, f_law_draws, LI, ↓reduceIte, ↓w_lit, ↓w_rd, ↓w_vw, ↓w_fz, ↓w_mv, ↓w_bin, ↓w_un, ↓w_cmp, ↓w_sub, ↓w_slc, ↓w_bi, ↓w_isi, ↓w_bm, ↓w_bk, ↓w_frz, ↓w_not, ↓w_ite, ↓w_tup, ↓w_lst, ↓w_mu, ↓w_call, ↓w_lc, ↓w_lc2, ↓w_bop, ↓w_b1, ↓w_b2, ↓w_es0, ↓w_es, ↓w_as0, ↓w_as1, ↓w_as2, ↓w_c0, ↓w_c1, ↓w_seq, ↓w_range1, ↓w_range2, ↓w_enum, ↓w_zip, ↓s_nil, ↓s_one, ↓s_cons, ↓s_set, ↓s_setAt, ↓s_par, ↓s_aug, ↓s_expr, ↓s_ite, ↓s_for, ↓s_ret, ↓s_retN, ↓s_brk, ↓s_cont, ↓s_pass, ↓wpo_some, ↓wp_ok, ↓wpc_ok, ↓wps_nx, ↓wps_rt, ↓wps_bk, ↓wps_ct, ↓wpb_bl, ↓wpi_int, ↓wpo_need, ↓wpo_bind, ↓wpo_map, need_t, getE_0, getE_s, getE_1, getE_2, getE_3, getE_4, getE_5, getE_6, getE_7, getE_8, getE_9, getE_10, getE_11, getE_12, getE_13, getE_14, getE_15, List.set_cons_zero, List.set_cons_succ, asgT, asgTs, unpk, opUn, obSem, opIsi, bmSem, bkSem, Ev.numsOf, isLst, itemsOf, itemsZ, fillAs, backAs, augOp, E.v, E.q, Es.q, Es.vs, As.q, ownOk, PV.pure, pures, PV.frz, frzs, PV.isN, Bool.and_true, Bool.true_and, Bool.or_true, Bool.true_or, Bool.not_true, Bool.not_false, Bool.false_and, Bool.and_false, Bool.or_false, Bool.false_or, List.length_cons, List.length_nil, List.map_cons, List.map_nil, List.replicate, List.cons_append, List.nil_append, true_and, and_true, if_true, Option.isSome_some, backIo, Ev.op_add, Ev.op_sub, Ev.op_mul, Ev.op_div, Ev.op_mod, Ev.op_pow, Ev.op_and, Ev.op_or, Ev.op_lcat, Ev.op_tcat, cmp_lt, cmp_le, cmp_gt, cmp_ge, cmp_is, cmp_isn, sub_t0, sub_t1, sub_t2, sub_l0, sub_l1, sub_l2, sub_tn, sub_ln, eq_self, decide_true, decide_false, exists_eq_left', wipeE, backE, lenOk_0, lenOk_1, lenOk_2, lenOk_3, lenOk_4, lenOk_5, lenOk_6, Nat.reduceAdd, Nat.reduceLT, Nat.reduceLeDiff, Nat.reduceSub, Nat.reduceEqDiff, ne_eq, not_false_eq_true, not_true_eq_false, decide_eq_true_eq, List.mem_cons, List.not_mem_nil, or_false, false_or, true_or, or_true, if_false, Option.map_some, decide_not, decide_true, decide_false, Nat.lt_irrefl, cmp_eq, cmp_ne, cmp_eqb, cmp_neb, List.any_cons, List.any_nil, reduceCtorEq, beq_self_eq_true, Bool.or_self, plainOwn, List.all_cons, List.all_nil, PV.lst.injEq, mu_append, mu_reverse, mu_pop, List.getElem?_cons_succ, List.getElem?_cons_zero, List.getElem?_nil, Option.bind_some, Option.bind_none, id, List.length_map, e1, sub_LI e2, sub_LI e3, ixN_at e3]
  have z1 : (!decide ((cs.length : Int) = 0)) = true := by
    rw [decide_eq_false (by omega)]; rfl
  have z2 : ds.length < sizeLine := by rw [sizeLine_eq]; omega
  have y1 : ∀ a : Int, 0 ≤ modI a 1000003 := fun a => (modI_nn (by omega)).1
  have y2 : ∀ a : Int, 0 ≤ modI a 1000 := fun a => (modI_nn (by omega)).1
  have y3 : ∀ a : Int, 0 ≤ modI a 2147483647 ∧ modI a 2147483647 < 2147483647 := fun a => modI_nn (by omega)
  have ms : ∀ a : Int, mulOk (modI a 2147483647) (modI a 2147483647) = true ∧ mulOk 3 (modI a 2147483647) = true := fun a => ⟨mulOk_l (by have := y3 a; omega), mulOk_l (by omega)⟩
  have A : ∀ a b : Int, ∀ x8, mulOk b 48271 = true ∧ mulOk (i : Int) 69621 = true ∧ (!decide ((2147483647 : Int) = 0)) = true ∧ mulOk (modI a 2147483647) (modI a 2147483647) = true ∧ mulOk 3 (modI a 2147483647) = true ∧ (!decide ((1000003 : Int) = 0)) = true ∧ ds.length < sizeLine ∧
      DSt ns m k [some (.scr ns), some (.int (m : Int)), some (.lst true (cs.map .int)), some (.lst true (lf.map .int)), some (.lst true (ds.map .int ++ [.int (modI (modI a 2147483647 * modI a 2147483647 + 3 * modI a 2147483647 + (i : Int)) 1000003)])), some (.int (i : Int)), some (.int ((i % cs.length : Nat) : Int)), none, x8] := fun a b x8 =>
    ⟨mulOk_r (by omega), mulOk_r (by omega), rfl, (ms a).1, (ms a).2, rfl, z2, cs, lf, ds ++ [_], _, _, _, by simp only [LI, List.map_append, List.map_cons, List.map_nil]; rfl, h1, h2, h3, by simp; omega, fun x hx => by
      rcases List.mem_append.mp hx with z | z
      · exact h5 x z
      · rw [List.mem_singleton.mp z]; exact y1 _⟩
  have Bq : ∀ a b : Int, (!decide ((1000 : Int) = 0)) = true ∧ ds.length < sizeLine ∧ (!decide ((1000 : Int) = 0) && decide ((1000 : Int).natAbs.log2 < 9000)) = true ∧
      DSt ns m k [some (.scr ns), some (.int (m : Int)), some (.lst true (cs.map .int)), some (.lst true ((lf.map .int).set (i % cs.length) (.int b))), some (.lst true (ds.map .int ++ [.int (modI a 1000)])), some (.int (i : Int)), some (.int ((i % cs.length : Nat) : Int)), none, x8] := fun a b =>
    ⟨rfl, z2, by decide, cs, lf.set (i % cs.length) b, ds ++ [modI a 1000], _, _, _, by simp only [LI, List.map_append, List.map_cons, List.map_nil, List.map_set]; rfl, h1, h2, by simp [h3], by simp; omega, fun x hx => by
      rcases List.mem_append.mp hx with z | z
      · exact h5 x z
      · rw [List.mem_singleton.mp z]; exact y2 _⟩
  refine ⟨z1, by decide, ?_⟩
  by_cases c1 : 10 ^ Int.toNat 18 ≤ cs[i % cs.length]
  · rw [if_pos c1]
    by_cases c2 : 0 < lf[i % cs.length]
    · rw [if_pos c2]; exact Bq _ _
    · rw [if_neg c2]; exact A _ _ _
  · rw [if_neg c1, if_neg c1]; exact A _ _ _
theorem draws_t {d m : Nat} {ns : List Int} (hm : m ≤ 1000) (hn : ns.length ≤ 1000) : wpc (run (d + 1) 12 [.scr ns, .int (m : Int)]) fun p l => (∃ ds : List Int, (∀ x ∈ ds, 0 ≤ x) ∧ p = LI ds) ∧ l = [.scr ns, .int (m : Int)] := by
  refine w_fn at_law_draws rfl ?_
  simp only [f_law_draws, ↓s_cons, ↓s_set, ↓w_lc, ↓reduceIte, ↓w_lit, ↓w_rd, ↓w_vw, ↓w_fz, ↓w_mv, ↓w_bin, ↓w_un, ↓w_cmp, ↓w_sub, ↓w_slc, ↓w_bi, ↓w_isi, ↓w_bm, ↓w_bk, ↓w_frz, ↓w_not, ↓w_ite, ↓w_tup, ↓w_lst, ↓w_mu, ↓w_call, ↓w_lc, ↓w_lc2, ↓w_bop, ↓w_b1, ↓w_b2, ↓w_es0, ↓w_es, ↓w_as0, ↓w_as1, ↓w_as2, ↓w_c0, ↓w_c1, ↓w_seq, ↓w_range1, ↓w_range2, ↓w_enum, ↓w_zip, ↓s_nil, ↓s_one, ↓s_cons, ↓s_set, ↓s_setAt, ↓s_par, ↓s_aug, ↓s_expr, ↓s_ite, ↓s_for, ↓s_ret, ↓s_retN, ↓s_brk, ↓s_cont, ↓s_pass, ↓wpo_some, ↓wp_ok, ↓wpc_ok, ↓wps_nx, ↓wps_rt, ↓wps_bk, ↓wps_ct, ↓wpb_bl, ↓wpi_int, ↓wpo_need, ↓wpo_bind, ↓wpo_map, need_t, getE_0, getE_s, getE_1, getE_2, getE_3, getE_4, getE_5, getE_6, getE_7, getE_8, getE_9, getE_10, getE_11, getE_12, getE_13, getE_14, getE_15, List.set_cons_zero, List.set_cons_succ, asgT, asgTs, unpk, opUn, obSem, opIsi, bmSem, bkSem, Ev.numsOf, isLst, itemsOf, itemsZ, fillAs, backAs, augOp, E.v, E.q, Es.q, Es.vs, As.q, ownOk, PV.pure, pures, PV.frz, frzs, PV.isN, Bool.and_true, Bool.true_and, Bool.or_true, Bool.true_or, Bool.not_true, Bool.not_false, Bool.false_and, Bool.and_false, Bool.or_false, Bool.false_or, List.length_cons, List.length_nil, List.map_cons, List.map_nil, List.replicate, List.cons_append, List.nil_append, true_and, and_true, if_true, Option.isSome_some, backIo, Ev.op_add, Ev.op_sub, Ev.op_mul, Ev.op_div, Ev.op_mod, Ev.op_pow, Ev.op_and, Ev.op_or, Ev.op_lcat, Ev.op_tcat, cmp_lt, cmp_le, cmp_gt, cmp_ge, cmp_is, cmp_isn, sub_t0, sub_t1, sub_t2, sub_l0, sub_l1, sub_l2, sub_tn, sub_ln, eq_self, decide_true, decide_false, exists_eq_left', wipeE, backE, lenOk_0, lenOk_1, lenOk_2, lenOk_3, lenOk_4, lenOk_5, lenOk_6, Nat.reduceAdd, Nat.reduceLT, Nat.reduceLeDiff, Nat.reduceSub, Nat.reduceEqDiff, ne_eq, not_false_eq_true, not_true_eq_false, decide_eq_true_eq, List.mem_cons, List.not_mem_nil, or_false, false_or, true_or, or_true, if_false, Option.map_some, decide_not, decide_true, decide_false, Nat.lt_irrefl, cmp_eq, cmp_ne, cmp_eqb, cmp_neb, List.any_cons, List.any_nil, reduceCtorEq, beq_self_eq_true, Bool.or_self, plainOwn, List.all_cons, List.all_nil, PV.lst.injEq, mu_append, mu_reverse, mu_pop, List.getElem?_cons_succ, List.getElem?_cons_zero, List.getElem?_nil, Option.bind_some, Option.bind_none, id]
  refine ⟨lenOk_of (by simp; omega), lc_start (fun ps xs ρ => ∃ (a b : List Int) (y : Option PV), ps = a.map .int ∧ xs = b.map .int ∧ a ++ b = ns ∧ ρ = [some (.scr ns), some (.int (m : Int)), none, none, none, none, none, y, none]) ⟨[], ns, _, rfl, rfl, rfl, rfl⟩ ?_ ?_⟩
  · rintro ps x xs ρ ⟨a, b, y, rfl, hb, hab, rfl⟩
    cases b with
    | nil => cases hb
    | cons c b =>
      rw [List.map_cons] at hb
      injection hb with h1 h2
      subst h1; subst h2
      simp only [↓reduceIte, ↓w_lit, ↓w_rd, ↓w_vw, ↓w_fz, ↓w_mv, ↓w_bin, ↓w_un, ↓w_cmp, ↓w_sub, ↓w_slc, ↓w_bi, ↓w_isi, ↓w_bm, ↓w_bk, ↓w_frz, ↓w_not, ↓w_ite, ↓w_tup, ↓w_lst, ↓w_mu, ↓w_call, ↓w_lc, ↓w_lc2, ↓w_bop, ↓w_b1, ↓w_b2, ↓w_es0, ↓w_es, ↓w_as0, ↓w_as1, ↓w_as2, ↓w_c0, ↓w_c1, ↓w_seq, ↓w_range1, ↓w_range2, ↓w_enum, ↓w_zip, ↓s_nil, ↓s_one, ↓s_cons, ↓s_set, ↓s_setAt, ↓s_par, ↓s_aug, ↓s_expr, ↓s_ite, ↓s_for, ↓s_ret, ↓s_retN, ↓s_brk, ↓s_cont, ↓s_pass, ↓wpo_some, ↓wp_ok, ↓wpc_ok, ↓wps_nx, ↓wps_rt, ↓wps_bk, ↓wps_ct, ↓wpb_bl, ↓wpi_int, ↓wpo_need, ↓wpo_bind, ↓wpo_map, need_t, getE_0, getE_s, getE_1, getE_2, getE_3, getE_4, getE_5, getE_6, getE_7, getE_8, getE_9, getE_10, getE_11, getE_12, getE_13, getE_14, getE_15, List.set_cons_zero, List.set_cons_succ, asgT, asgTs, unpk, opUn, obSem, opIsi, bmSem, bkSem, Ev.numsOf, isLst, itemsOf, itemsZ, fillAs, backAs, augOp, E.v, E.q, Es.q, Es.vs, As.q, ownOk, PV.pure, pures, PV.frz, frzs, PV.isN, Bool.and_true, Bool.true_and, Bool.or_true, Bool.true_or, Bool.not_true, Bool.not_false, Bool.false_and, Bool.and_false, Bool.or_false, Bool.false_or, List.length_cons, List.length_nil, List.map_cons, List.map_nil, List.replicate, List.cons_append, List.nil_append, true_and, and_true, if_true, Option.isSome_some, backIo, Ev.op_add, Ev.op_sub, Ev.op_mul, Ev.op_div, Ev.op_mod, Ev.op_pow, Ev.op_and, Ev.op_or, Ev.op_lcat, Ev.op_tcat, cmp_lt, cmp_le, cmp_gt, cmp_ge, cmp_is, cmp_isn, sub_t0, sub_t1, sub_t2, sub_l0, sub_l1, sub_l2, sub_tn, sub_ln, eq_self, decide_true, decide_false, exists_eq_left', wipeE, backE, lenOk_0, lenOk_1, lenOk_2, lenOk_3, lenOk_4, lenOk_5, lenOk_6, Nat.reduceAdd, Nat.reduceLT, Nat.reduceLeDiff, Nat.reduceSub, Nat.reduceEqDiff, ne_eq, not_false_eq_true, not_true_eq_false, decide_eq_true_eq, List.mem_cons, List.not_mem_nil, or_false, false_or, true_or, or_true, if_false, Option.map_some, decide_not, decide_true, decide_false, Nat.lt_irrefl, cmp_eq, cmp_ne, cmp_eqb, cmp_neb, List.any_cons, List.any_nil, reduceCtorEq, beq_self_eq_true, Bool.or_self, plainOwn, List.all_cons, List.all_nil, PV.lst.injEq, mu_append, mu_reverse, mu_pop, List.getElem?_cons_succ, List.getElem?_cons_zero, List.getElem?_nil, Option.bind_some, Option.bind_none, id, ↓w_elt]
      exact ⟨a ++ [c], b, _, by simp, rfl, by simpa using hab, rfl⟩
  rintro ps ρ ⟨a, b, y, rfl, hb, hab, rfl⟩
  have : b = [] := by cases b <;> first | rfl | cases hb
  subst this
  rw [List.append_nil] at hab
  subst hab
  simp only [↓reduceIte, ↓w_lit, ↓w_rd, ↓w_vw, ↓w_fz, ↓w_mv, ↓w_bin, ↓w_un, ↓w_cmp, ↓w_sub, ↓w_slc, ↓w_bi, ↓w_isi, ↓w_bm, ↓w_bk, ↓w_frz, ↓w_not, ↓w_ite, ↓w_tup, ↓w_lst, ↓w_mu, ↓w_call, ↓w_lc, ↓w_lc2, ↓w_bop, ↓w_b1, ↓w_b2, ↓w_es0, ↓w_es, ↓w_as0, ↓w_as1, ↓w_as2, ↓w_c0, ↓w_c1, ↓w_seq, ↓w_range1, ↓w_range2, ↓w_enum, ↓w_zip, ↓s_nil, ↓s_one, ↓s_cons, ↓s_set, ↓s_setAt, ↓s_par, ↓s_aug, ↓s_expr, ↓s_ite, ↓s_for, ↓s_ret, ↓s_retN, ↓s_brk, ↓s_cont, ↓s_pass, ↓wpo_some, ↓wp_ok, ↓wpc_ok, ↓wps_nx, ↓wps_rt, ↓wps_bk, ↓wps_ct, ↓wpb_bl, ↓wpi_int, ↓wpo_need, ↓wpo_bind, ↓wpo_map, need_t, getE_0, getE_s, getE_1, getE_2, getE_3, getE_4, getE_5, getE_6, getE_7, getE_8, getE_9, getE_10, getE_11, getE_12, getE_13, getE_14, getE_15, List.set_cons_zero, List.set_cons_succ, asgT, asgTs, unpk, opUn, obSem, opIsi, bmSem, bkSem, Ev.numsOf, isLst, itemsOf, itemsZ, fillAs, backAs, augOp, E.v, E.q, Es.q, Es.vs, As.q, ownOk, PV.pure, pures, PV.frz, frzs, PV.isN, Bool.and_true, Bool.true_and, Bool.or_true, Bool.true_or, Bool.not_true, Bool.not_false, Bool.false_and, Bool.and_false, Bool.or_false, Bool.false_or, List.length_cons, List.length_nil, List.map_cons, List.map_nil, List.replicate, List.cons_append, List.nil_append, true_and, and_true, if_true, Option.isSome_some, backIo, Ev.op_add, Ev.op_sub, Ev.op_mul, Ev.op_div, Ev.op_mod, Ev.op_pow, Ev.op_and, Ev.op_or, Ev.op_lcat, Ev.op_tcat, cmp_lt, cmp_le, cmp_gt, cmp_ge, cmp_is, cmp_isn, sub_t0, sub_t1, sub_t2, sub_l0, sub_l1, sub_l2, sub_tn, sub_ln, eq_self, decide_true, decide_false, exists_eq_left', wipeE, backE, lenOk_0, lenOk_1, lenOk_2, lenOk_3, lenOk_4, lenOk_5, lenOk_6, Nat.reduceAdd, Nat.reduceLT, Nat.reduceLeDiff, Nat.reduceSub, Nat.reduceEqDiff, ne_eq, not_false_eq_true, not_true_eq_false, decide_eq_true_eq, List.mem_cons, List.not_mem_nil, or_false, false_or, true_or, or_true, if_false, Option.map_some, decide_not, decide_true, decide_false, Nat.lt_irrefl, cmp_eq, cmp_ne, cmp_eqb, cmp_neb, List.any_cons, List.any_nil, reduceCtorEq, beq_self_eq_true, Bool.or_self, plainOwn, List.all_cons, List.all_nil, PV.lst.injEq, mu_append, mu_reverse, mu_pop, List.getElem?_cons_succ, List.getElem?_cons_zero, List.getElem?_nil, Option.bind_some, Option.bind_none, id, List.getElem?_cons_succ, List.getElem?_cons_zero, Option.bind_some, id, List.length_map]
  have hb : bnd62 (m : Int) = true := bnd_of (by omega)
  have loop : ∀ (cs : List Int) (K : Conts), 0 < cs.length → cs.length ≤ 1001 → (∀ ρ, DSt a m 0 ρ → K.N ρ) → wps (forLoop (asgT (.nm 5)) (evSs gl (run d) 100000 drawBody) (rangeP 0 (m : Int).toNat) [some (.scr a), some (.int (m : Int)), some (LI cs), some (LI cs), some (LI []), none, none, none, none]) K := fun cs K h1 h2 hN => by
    refine for_inv (fun xs ρ => DSt a m xs.length ρ ∧ ∀ x ∈ xs, ∃ i : Nat, i < m ∧ x = .int (i : Int)) ?_ (fun ρ h => hN ρ h.1) _ _ ⟨⟨cs, cs, [], none, none, none, rfl, h1, h2, rfl, by rw [rangeP_len]; simp, fun _ z => (nomatch z)⟩, fun x hx => by
      obtain ⟨i, hi, e⟩ := rangeP_mem hx
      exact ⟨i, by simpa using hi, e⟩⟩
    rintro x xs ρ ⟨h, hx⟩
    obtain ⟨i, hi, rfl⟩ := hx x (List.mem_cons_self ..)
    refine wpo_mono (draw_step (d := d) (T := K.T) (B := K.N) hm hi h) fun ρ1 q => ?_
    exact wps_mono q (fun ρ q => ⟨q, fun x h => hx x (List.mem_cons_of_mem _ h)⟩) (fun _ _ q => q) (fun _ q => q) (fun ρ q => ⟨q, fun x h => hx x (List.mem_cons_of_mem _ h)⟩)
  have fin : ∀ (ρ : Ev.Env), DSt a m 0 ρ → ∃ ds : List Int, (∀ x ∈ ds, 0 ≤ x) ∧ ∃ x0 x1 x2 x3 x5 x6 x7 x8, ρ = [x0, x1, x2, x3, some (.lst true (ds.map .int)), x5, x6, x7, x8] ∧ x0 = some (.scr a) ∧ x1 = some (.int (m : Int)) := by
    rintro ρ ⟨cs, lf, ds, x5, x6, x8, rfl, _, _, _, _, h5⟩
    exact ⟨ds, h5, _, _, _, _, _, _, _, _, rfl, rfl, rfl⟩
  refine if_c _ (fun z => ?_) fun z => ?_
  · have za : a = [] := List.eq_nil_of_length_eq_zero (by omega)
    subst za
    simp only [↓reduceIte, ↓w_lit, ↓w_rd, ↓w_vw, ↓w_fz, ↓w_mv, ↓w_bin, ↓w_un, ↓w_cmp, ↓w_sub, ↓w_slc, ↓w_bi, ↓w_isi, ↓w_bm, ↓w_bk, ↓w_frz, ↓w_not, ↓w_ite, ↓w_tup, ↓w_lst, ↓w_mu, ↓w_call, ↓w_lc, ↓w_lc2, ↓w_bop, ↓w_b1, ↓w_b2, ↓w_es0, ↓w_es, ↓w_as0, ↓w_as1, ↓w_as2, ↓w_c0, ↓w_c1, ↓w_seq, ↓w_range1, ↓w_range2, ↓w_enum, ↓w_zip, ↓s_nil, ↓s_one, ↓s_cons, ↓s_set, ↓s_setAt, ↓s_par, ↓s_aug, ↓s_expr, ↓s_ite, ↓s_for, ↓s_ret, ↓s_retN, ↓s_brk, ↓s_cont, ↓s_pass, ↓wpo_some, ↓wp_ok, ↓wpc_ok, ↓wps_nx, ↓wps_rt, ↓wps_bk, ↓wps_ct, ↓wpb_bl, ↓wpi_int, ↓wpo_need, ↓wpo_bind, ↓wpo_map, need_t, getE_0, getE_s, getE_1, getE_2, getE_3, getE_4, getE_5, getE_6, getE_7, getE_8, getE_9, getE_10, getE_11, getE_12, getE_13, getE_14, getE_15, List.set_cons_zero, List.set_cons_succ, asgT, asgTs, unpk, opUn, obSem, opIsi, bmSem, bkSem, Ev.numsOf, isLst, itemsOf, itemsZ, fillAs, backAs, augOp, E.v, E.q, Es.q, Es.vs, As.q, ownOk, PV.pure, pures, PV.frz, frzs, PV.isN, Bool.and_true, Bool.true_and, Bool.or_true, Bool.true_or, Bool.not_true, Bool.not_false, Bool.false_and, Bool.and_false, Bool.or_false, Bool.false_or, List.length_cons, List.length_nil, List.map_cons, List.map_nil, List.replicate, List.cons_append, List.nil_append, true_and, and_true, if_true, Option.isSome_some, backIo, Ev.op_add, Ev.op_sub, Ev.op_mul, Ev.op_div, Ev.op_mod, Ev.op_pow, Ev.op_and, Ev.op_or, Ev.op_lcat, Ev.op_tcat, cmp_lt, cmp_le, cmp_gt, cmp_ge, cmp_is, cmp_isn, sub_t0, sub_t1, sub_t2, sub_l0, sub_l1, sub_l2, sub_tn, sub_ln, eq_self, decide_true, decide_false, exists_eq_left', wipeE, backE, lenOk_0, lenOk_1, lenOk_2, lenOk_3, lenOk_4, lenOk_5, lenOk_6, Nat.reduceAdd, Nat.reduceLT, Nat.reduceLeDiff, Nat.reduceSub, Nat.reduceEqDiff, ne_eq, not_false_eq_true, not_true_eq_false, decide_eq_true_eq, List.mem_cons, List.not_mem_nil, or_false, false_or, true_or, or_true, if_false, Option.map_some, decide_not, decide_true, decide_false, Nat.lt_irrefl, cmp_eq, cmp_ne, cmp_eqb, cmp_neb, List.any_cons, List.any_nil, reduceCtorEq, beq_self_eq_true, Bool.or_self, plainOwn, List.all_cons, List.all_nil, PV.lst.injEq, mu_append, mu_reverse, mu_pop, List.getElem?_cons_succ, List.getElem?_cons_zero, List.getElem?_nil, Option.bind_some, Option.bind_none, id, pures_int]
    refine ⟨by rw [sizeLine_eq]; omega, hb, ?_⟩
    refine loop [0] _ (by decide) (by decide) fun ρ h => ?_
    obtain ⟨ds, h5, x0, x1, x2, x3, x5, x6, x7, x8, rfl, rfl, rfl⟩ := fin ρ h
    simp only [↓reduceIte, ↓w_lit, ↓w_rd, ↓w_vw, ↓w_fz, ↓w_mv, ↓w_bin, ↓w_un, ↓w_cmp, ↓w_sub, ↓w_slc, ↓w_bi, ↓w_isi, ↓w_bm, ↓w_bk, ↓w_frz, ↓w_not, ↓w_ite, ↓w_tup, ↓w_lst, ↓w_mu, ↓w_call, ↓w_lc, ↓w_lc2, ↓w_bop, ↓w_b1, ↓w_b2, ↓w_es0, ↓w_es, ↓w_as0, ↓w_as1, ↓w_as2, ↓w_c0, ↓w_c1, ↓w_seq, ↓w_range1, ↓w_range2, ↓w_enum, ↓w_zip, ↓s_nil, ↓s_one, ↓s_cons, ↓s_set, ↓s_setAt, ↓s_par, ↓s_aug, ↓s_expr, ↓s_ite, ↓s_for, ↓s_ret, ↓s_retN, ↓s_brk, ↓s_cont, ↓s_pass, ↓wpo_some, ↓wp_ok, ↓wpc_ok, ↓wps_nx, ↓wps_rt, ↓wps_bk, ↓wps_ct, ↓wpb_bl, ↓wpi_int, ↓wpo_need, ↓wpo_bind, ↓wpo_map, need_t, getE_0, getE_s, getE_1, getE_2, getE_3, getE_4, getE_5, getE_6, getE_7, getE_8, getE_9, getE_10, getE_11, getE_12, getE_13, getE_14, getE_15, List.set_cons_zero, List.set_cons_succ, asgT, asgTs, unpk, opUn, obSem, opIsi, bmSem, bkSem, Ev.numsOf, isLst, itemsOf, itemsZ, fillAs, backAs, augOp, E.v, E.q, Es.q, Es.vs, As.q, ownOk, PV.pure, pures, PV.frz, frzs, PV.isN, Bool.and_true, Bool.true_and, Bool.or_true, Bool.true_or, Bool.not_true, Bool.not_false, Bool.false_and, Bool.and_false, Bool.or_false, Bool.false_or, List.length_cons, List.length_nil, List.map_cons, List.map_nil, List.replicate, List.cons_append, List.nil_append, true_and, and_true, if_true, Option.isSome_some, backIo, Ev.op_add, Ev.op_sub, Ev.op_mul, Ev.op_div, Ev.op_mod, Ev.op_pow, Ev.op_and, Ev.op_or, Ev.op_lcat, Ev.op_tcat, cmp_lt, cmp_le, cmp_gt, cmp_ge, cmp_is, cmp_isn, sub_t0, sub_t1, sub_t2, sub_l0, sub_l1, sub_l2, sub_tn, sub_ln, eq_self, decide_true, decide_false, exists_eq_left', wipeE, backE, lenOk_0, lenOk_1, lenOk_2, lenOk_3, lenOk_4, lenOk_5, lenOk_6, Nat.reduceAdd, Nat.reduceLT, Nat.reduceLeDiff, Nat.reduceSub, Nat.reduceEqDiff, ne_eq, not_false_eq_true, not_true_eq_false, decide_eq_true_eq, List.mem_cons, List.not_mem_nil, or_false, false_or, true_or, or_true, if_false, Option.map_some, decide_not, decide_true, decide_false, Nat.lt_irrefl, cmp_eq, cmp_ne, cmp_eqb, cmp_neb, List.any_cons, List.any_nil, reduceCtorEq, beq_self_eq_true, Bool.or_self, plainOwn, List.all_cons, List.all_nil, PV.lst.injEq, mu_append, mu_reverse, mu_pop, List.getElem?_cons_succ, List.getElem?_cons_zero, List.getElem?_nil, Option.bind_some, Option.bind_none, id]
    exact ⟨ds.reverse, fun x hx => h5 x (List.mem_reverse.mp hx), by unfold LI; rw [List.map_reverse]⟩
  · simp only [↓reduceIte, ↓w_lit, ↓w_rd, ↓w_vw, ↓w_fz, ↓w_mv, ↓w_bin, ↓w_un, ↓w_cmp, ↓w_sub, ↓w_slc, ↓w_bi, ↓w_isi, ↓w_bm, ↓w_bk, ↓w_frz, ↓w_not, ↓w_ite, ↓w_tup, ↓w_lst, ↓w_mu, ↓w_call, ↓w_lc, ↓w_lc2, ↓w_bop, ↓w_b1, ↓w_b2, ↓w_es0, ↓w_es, ↓w_as0, ↓w_as1, ↓w_as2, ↓w_c0, ↓w_c1, ↓w_seq, ↓w_range1, ↓w_range2, ↓w_enum, ↓w_zip, ↓s_nil, ↓s_one, ↓s_cons, ↓s_set, ↓s_setAt, ↓s_par, ↓s_aug, ↓s_expr, ↓s_ite, ↓s_for, ↓s_ret, ↓s_retN, ↓s_brk, ↓s_cont, ↓s_pass, ↓wpo_some, ↓wp_ok, ↓wpc_ok, ↓wps_nx, ↓wps_rt, ↓wps_bk, ↓wps_ct, ↓wpb_bl, ↓wpi_int, ↓wpo_need, ↓wpo_bind, ↓wpo_map, need_t, getE_0, getE_s, getE_1, getE_2, getE_3, getE_4, getE_5, getE_6, getE_7, getE_8, getE_9, getE_10, getE_11, getE_12, getE_13, getE_14, getE_15, List.set_cons_zero, List.set_cons_succ, asgT, asgTs, unpk, opUn, obSem, opIsi, bmSem, bkSem, Ev.numsOf, isLst, itemsOf, itemsZ, fillAs, backAs, augOp, E.v, E.q, Es.q, Es.vs, As.q, ownOk, PV.pure, pures, PV.frz, frzs, PV.isN, Bool.and_true, Bool.true_and, Bool.or_true, Bool.true_or, Bool.not_true, Bool.not_false, Bool.false_and, Bool.and_false, Bool.or_false, Bool.false_or, List.length_cons, List.length_nil, List.map_cons, List.map_nil, List.replicate, List.cons_append, List.nil_append, true_and, and_true, if_true, Option.isSome_some, backIo, Ev.op_add, Ev.op_sub, Ev.op_mul, Ev.op_div, Ev.op_mod, Ev.op_pow, Ev.op_and, Ev.op_or, Ev.op_lcat, Ev.op_tcat, cmp_lt, cmp_le, cmp_gt, cmp_ge, cmp_is, cmp_isn, sub_t0, sub_t1, sub_t2, sub_l0, sub_l1, sub_l2, sub_tn, sub_ln, eq_self, decide_true, decide_false, exists_eq_left', wipeE, backE, lenOk_0, lenOk_1, lenOk_2, lenOk_3, lenOk_4, lenOk_5, lenOk_6, Nat.reduceAdd, Nat.reduceLT, Nat.reduceLeDiff, Nat.reduceSub, Nat.reduceEqDiff, ne_eq, not_false_eq_true, not_true_eq_false, decide_eq_true_eq, List.mem_cons, List.not_mem_nil, or_false, false_or, true_or, or_true, if_false, Option.map_some, decide_not, decide_true, decide_false, Nat.lt_irrefl, cmp_eq, cmp_ne, cmp_eqb, cmp_neb, List.any_cons, List.any_nil, reduceCtorEq, beq_self_eq_true, Bool.or_self, plainOwn, List.all_cons, List.all_nil, PV.lst.injEq, mu_append, mu_reverse, mu_pop, List.getElem?_cons_succ, List.getElem?_cons_zero, List.getElem?_nil, Option.bind_some, Option.bind_none, id, pures_int]
    refine ⟨hb, loop a _ (by omega) (by omega) fun ρ h => ?_⟩
    obtain ⟨ds, h5, x0, x1, x2, x3, x5, x6, x7, x8, rfl, rfl, rfl⟩ := fin ρ h
    simp only [↓reduceIte, ↓w_lit, ↓w_rd, ↓w_vw, ↓w_fz, ↓w_mv, ↓w_bin, ↓w_un, ↓w_cmp, ↓w_sub, ↓w_slc, ↓w_bi, ↓w_isi, ↓w_bm, ↓w_bk, ↓w_frz, ↓w_not, ↓w_ite, ↓w_tup, ↓w_lst, ↓w_mu, ↓w_call, ↓w_lc, ↓w_lc2, ↓w_bop, ↓w_b1, ↓w_b2, ↓w_es0, ↓w_es, ↓w_as0, ↓w_as1, ↓w_as2, ↓w_c0, ↓w_c1, ↓w_seq, ↓w_range1, ↓w_range2, ↓w_enum, ↓w_zip, ↓s_nil, ↓s_one, ↓s_cons, ↓s_set, ↓s_setAt, ↓s_par, ↓s_aug, ↓s_expr, ↓s_ite, ↓s_for, ↓s_ret, ↓s_retN, ↓s_brk, ↓s_cont, ↓s_pass, ↓wpo_some, ↓wp_ok, ↓wpc_ok, ↓wps_nx, ↓wps_rt, ↓wps_bk, ↓wps_ct, ↓wpb_bl, ↓wpi_int, ↓wpo_need, ↓wpo_bind, ↓wpo_map, need_t, getE_0, getE_s, getE_1, getE_2, getE_3, getE_4, getE_5, getE_6, getE_7, getE_8, getE_9, getE_10, getE_11, getE_12, getE_13, getE_14, getE_15, List.set_cons_zero, List.set_cons_succ, asgT, asgTs, unpk, opUn, obSem, opIsi, bmSem, bkSem, Ev.numsOf, isLst, itemsOf, itemsZ, fillAs, backAs, augOp, E.v, E.q, Es.q, Es.vs, As.q, ownOk, PV.pure, pures, PV.frz, frzs, PV.isN, Bool.and_true, Bool.true_and, Bool.or_true, Bool.true_or, Bool.not_true, Bool.not_false, Bool.false_and, Bool.and_false, Bool.or_false, Bool.false_or, List.length_cons, List.length_nil, List.map_cons, List.map_nil, List.replicate, List.cons_append, List.nil_append, true_and, and_true, if_true, Option.isSome_some, backIo, Ev.op_add, Ev.op_sub, Ev.op_mul, Ev.op_div, Ev.op_mod, Ev.op_pow, Ev.op_and, Ev.op_or, Ev.op_lcat, Ev.op_tcat, cmp_lt, cmp_le, cmp_gt, cmp_ge, cmp_is, cmp_isn, sub_t0, sub_t1, sub_t2, sub_l0, sub_l1, sub_l2, sub_tn, sub_ln, eq_self, decide_true, decide_false, exists_eq_left', wipeE, backE, lenOk_0, lenOk_1, lenOk_2, lenOk_3, lenOk_4, lenOk_5, lenOk_6, Nat.reduceAdd, Nat.reduceLT, Nat.reduceLeDiff, Nat.reduceSub, Nat.reduceEqDiff, ne_eq, not_false_eq_true, not_true_eq_false, decide_eq_true_eq, List.mem_cons, List.not_mem_nil, or_false, false_or, true_or, or_true, if_false, Option.map_some, decide_not, decide_true, decide_false, Nat.lt_irrefl, cmp_eq, cmp_ne, cmp_eqb, cmp_neb, List.any_cons, List.any_nil, reduceCtorEq, beq_self_eq_true, Bool.or_self, plainOwn, List.all_cons, List.all_nil, PV.lst.injEq, mu_append, mu_reverse, mu_pop, List.getElem?_cons_succ, List.getElem?_cons_zero, List.getElem?_nil, Option.bind_some, Option.bind_none, id]
    exact ⟨ds.reverse, fun x hx => h5 x (List.mem_reverse.mp hx), by unfold LI; rw [List.map_reverse]⟩

/-! ### takes -/
def Dr (p : PV) : Prop := ∃ ds : List Int, (∀ x ∈ ds, 0 ≤ x) ∧ p = LI ds
theorem take_t {d : Nat} {D : PV} {m : Int} (hD : Dr D) (hm : 0 < m) : wpc (run (d + 1) 13 [D, .int m]) fun p l => ∃ (r : Int) (D' : PV), p = .int r ∧ l = [D', .int m] ∧ Dr D' ∧ 0 ≤ r ∧ r < m := by
  obtain ⟨ds, h, rfl⟩ := hD
  refine w_fn at_law_take rfl ?_
  simp only [f_law_take, LI, ↓reduceIte, ↓w_lit, ↓w_rd, ↓w_vw, ↓w_fz, ↓w_mv, ↓w_bin, ↓w_un, ↓w_cmp, ↓w_sub, ↓w_slc, ↓w_bi, ↓w_isi, ↓w_bm, ↓w_bk, ↓w_frz, ↓w_not, ↓w_ite, ↓w_tup, ↓w_lst, ↓w_mu, ↓w_call, ↓w_lc, ↓w_lc2, ↓w_bop, ↓w_b1, ↓w_b2, ↓w_es0, ↓w_es, ↓w_as0, ↓w_as1, ↓w_as2, ↓w_c0, ↓w_c1, ↓w_seq, ↓w_range1, ↓w_range2, ↓w_enum, ↓w_zip, ↓s_nil, ↓s_one, ↓s_cons, ↓s_set, ↓s_setAt, ↓s_par, ↓s_aug, ↓s_expr, ↓s_ite, ↓s_for, ↓s_ret, ↓s_retN, ↓s_brk, ↓s_cont, ↓s_pass, ↓wpo_some, ↓wp_ok, ↓wpc_ok, ↓wps_nx, ↓wps_rt, ↓wps_bk, ↓wps_ct, ↓wpb_bl, ↓wpi_int, ↓wpo_need, ↓wpo_bind, ↓wpo_map, need_t, getE_0, getE_s, getE_1, getE_2, getE_3, getE_4, getE_5, getE_6, getE_7, getE_8, getE_9, getE_10, getE_11, getE_12, getE_13, getE_14, getE_15, List.set_cons_zero, List.set_cons_succ, asgT, asgTs, unpk, opUn, obSem, opIsi, bmSem, bkSem, Ev.numsOf, isLst, itemsOf, itemsZ, fillAs, backAs, augOp, E.v, E.q, Es.q, Es.vs, As.q, ownOk, PV.pure, pures, PV.frz, frzs, PV.isN, Bool.and_true, Bool.true_and, Bool.or_true, Bool.true_or, Bool.not_true, Bool.not_false, Bool.false_and, Bool.and_false, Bool.or_false, Bool.false_or, List.length_cons, List.length_nil, List.map_cons, List.map_nil, List.replicate, List.cons_append, List.nil_append, true_and, and_true, if_true, Option.isSome_some, backIo, Ev.op_add, Ev.op_sub, Ev.op_mul, Ev.op_div, Ev.op_mod, Ev.op_pow, Ev.op_and, Ev.op_or, Ev.op_lcat, Ev.op_tcat, cmp_lt, cmp_le, cmp_gt, cmp_ge, cmp_is, cmp_isn, sub_t0, sub_t1, sub_t2, sub_l0, sub_l1, sub_l2, sub_tn, sub_ln, eq_self, decide_true, decide_false, exists_eq_left', wipeE, backE, lenOk_0, lenOk_1, lenOk_2, lenOk_3, lenOk_4, lenOk_5, lenOk_6, Nat.reduceAdd, Nat.reduceLT, Nat.reduceLeDiff, Nat.reduceSub, Nat.reduceEqDiff, ne_eq, not_false_eq_true, not_true_eq_false, decide_eq_true_eq, List.mem_cons, List.not_mem_nil, or_false, false_or, true_or, or_true, if_false, Option.map_some, decide_not, decide_true, decide_false, Nat.lt_irrefl, cmp_eq, cmp_ne, cmp_eqb, cmp_neb, List.any_cons, List.any_nil, reduceCtorEq, beq_self_eq_true, Bool.or_self, plainOwn, List.all_cons, List.all_nil, PV.lst.injEq, mu_append, mu_reverse, mu_pop, List.getElem?_cons_succ, List.getElem?_cons_zero, List.getElem?_nil, Option.bind_some, Option.bind_none, id]
  refine if_c _ (fun z => ?_) fun z => ?_
  · exact ⟨0, _, rfl, rfl, ⟨ds, h, rfl⟩, by omega, hm⟩
  · have hl : ds.length - 1 < ds.length := by simp at z; have := List.length_pos_iff.mpr z; omega
    rw [List.length_map, List.getElem?_map, List.getElem?_eq_getElem hl]
    simp only [↓reduceIte, ↓w_lit, ↓w_rd, ↓w_vw, ↓w_fz, ↓w_mv, ↓w_bin, ↓w_un, ↓w_cmp, ↓w_sub, ↓w_slc, ↓w_bi, ↓w_isi, ↓w_bm, ↓w_bk, ↓w_frz, ↓w_not, ↓w_ite, ↓w_tup, ↓w_lst, ↓w_mu, ↓w_call, ↓w_lc, ↓w_lc2, ↓w_bop, ↓w_b1, ↓w_b2, ↓w_es0, ↓w_es, ↓w_as0, ↓w_as1, ↓w_as2, ↓w_c0, ↓w_c1, ↓w_seq, ↓w_range1, ↓w_range2, ↓w_enum, ↓w_zip, ↓s_nil, ↓s_one, ↓s_cons, ↓s_set, ↓s_setAt, ↓s_par, ↓s_aug, ↓s_expr, ↓s_ite, ↓s_for, ↓s_ret, ↓s_retN, ↓s_brk, ↓s_cont, ↓s_pass, ↓wpo_some, ↓wp_ok, ↓wpc_ok, ↓wps_nx, ↓wps_rt, ↓wps_bk, ↓wps_ct, ↓wpb_bl, ↓wpi_int, ↓wpo_need, ↓wpo_bind, ↓wpo_map, need_t, getE_0, getE_s, getE_1, getE_2, getE_3, getE_4, getE_5, getE_6, getE_7, getE_8, getE_9, getE_10, getE_11, getE_12, getE_13, getE_14, getE_15, List.set_cons_zero, List.set_cons_succ, asgT, asgTs, unpk, opUn, obSem, opIsi, bmSem, bkSem, Ev.numsOf, isLst, itemsOf, itemsZ, fillAs, backAs, augOp, E.v, E.q, Es.q, Es.vs, As.q, ownOk, PV.pure, pures, PV.frz, frzs, PV.isN, Bool.and_true, Bool.true_and, Bool.or_true, Bool.true_or, Bool.not_true, Bool.not_false, Bool.false_and, Bool.and_false, Bool.or_false, Bool.false_or, List.length_cons, List.length_nil, List.map_cons, List.map_nil, List.replicate, List.cons_append, List.nil_append, true_and, and_true, if_true, Option.isSome_some, backIo, Ev.op_add, Ev.op_sub, Ev.op_mul, Ev.op_div, Ev.op_mod, Ev.op_pow, Ev.op_and, Ev.op_or, Ev.op_lcat, Ev.op_tcat, cmp_lt, cmp_le, cmp_gt, cmp_ge, cmp_is, cmp_isn, sub_t0, sub_t1, sub_t2, sub_l0, sub_l1, sub_l2, sub_tn, sub_ln, eq_self, decide_true, decide_false, exists_eq_left', wipeE, backE, lenOk_0, lenOk_1, lenOk_2, lenOk_3, lenOk_4, lenOk_5, lenOk_6, Nat.reduceAdd, Nat.reduceLT, Nat.reduceLeDiff, Nat.reduceSub, Nat.reduceEqDiff, ne_eq, not_false_eq_true, not_true_eq_false, decide_eq_true_eq, List.mem_cons, List.not_mem_nil, or_false, false_or, true_or, or_true, if_false, Option.map_some, decide_not, decide_true, decide_false, Nat.lt_irrefl, cmp_eq, cmp_ne, cmp_eqb, cmp_neb, List.any_cons, List.any_nil, reduceCtorEq, beq_self_eq_true, Bool.or_self, plainOwn, List.all_cons, List.all_nil, PV.lst.injEq, mu_append, mu_reverse, mu_pop, List.getElem?_cons_succ, List.getElem?_cons_zero, List.getElem?_nil, Option.bind_some, Option.bind_none, id]
    refine ⟨by rw [decide_eq_false (by omega)]; rfl, modI ds[ds.length - 1] m, _, rfl, rfl, ⟨ds.dropLast, fun x hx => h x (List.dropLast_subset ds hx), by unfold LI; rw [List.map_dropLast]⟩, modI_nn hm⟩
theorem pick_t {d : Nat} {D : PV} {row : List PV} (hD : Dr D) (hr : 0 < row.length) (hp : pures row = true) : wpc (run (d + 2) 14 [D, .lst false row]) fun p l => ∃ D' : PV, p ∈ row ∧ l = [D', .lst false row] ∧ Dr D' := by
  refine w_fn at_law_pick rfl ?_
  simp only [f_law_pick, ↓reduceIte, ↓w_lit, ↓w_rd, ↓w_vw, ↓w_fz, ↓w_mv, ↓w_bin, ↓w_un, ↓w_cmp, ↓w_sub, ↓w_slc, ↓w_bi, ↓w_isi, ↓w_bm, ↓w_bk, ↓w_frz, ↓w_not, ↓w_ite, ↓w_tup, ↓w_lst, ↓w_mu, ↓w_call, ↓w_lc, ↓w_lc2, ↓w_bop, ↓w_b1, ↓w_b2, ↓w_es0, ↓w_es, ↓w_as0, ↓w_as1, ↓w_as2, ↓w_c0, ↓w_c1, ↓w_seq, ↓w_range1, ↓w_range2, ↓w_enum, ↓w_zip, ↓s_nil, ↓s_one, ↓s_cons, ↓s_set, ↓s_setAt, ↓s_par, ↓s_aug, ↓s_expr, ↓s_ite, ↓s_for, ↓s_ret, ↓s_retN, ↓s_brk, ↓s_cont, ↓s_pass, ↓wpo_some, ↓wp_ok, ↓wpc_ok, ↓wps_nx, ↓wps_rt, ↓wps_bk, ↓wps_ct, ↓wpb_bl, ↓wpi_int, ↓wpo_need, ↓wpo_bind, ↓wpo_map, need_t, getE_0, getE_s, getE_1, getE_2, getE_3, getE_4, getE_5, getE_6, getE_7, getE_8, getE_9, getE_10, getE_11, getE_12, getE_13, getE_14, getE_15, List.set_cons_zero, List.set_cons_succ, asgT, asgTs, unpk, opUn, obSem, opIsi, bmSem, bkSem, Ev.numsOf, isLst, itemsOf, itemsZ, fillAs, backAs, augOp, E.v, E.q, Es.q, Es.vs, As.q, ownOk, PV.pure, pures, PV.frz, frzs, PV.isN, Bool.and_true, Bool.true_and, Bool.or_true, Bool.true_or, Bool.not_true, Bool.not_false, Bool.false_and, Bool.and_false, Bool.or_false, Bool.false_or, List.length_cons, List.length_nil, List.map_cons, List.map_nil, List.replicate, List.cons_append, List.nil_append, true_and, and_true, if_true, Option.isSome_some, backIo, Ev.op_add, Ev.op_sub, Ev.op_mul, Ev.op_div, Ev.op_mod, Ev.op_pow, Ev.op_and, Ev.op_or, Ev.op_lcat, Ev.op_tcat, cmp_lt, cmp_le, cmp_gt, cmp_ge, cmp_is, cmp_isn, sub_t0, sub_t1, sub_t2, sub_l0, sub_l1, sub_l2, sub_tn, sub_ln, eq_self, decide_true, decide_false, exists_eq_left', wipeE, backE, lenOk_0, lenOk_1, lenOk_2, lenOk_3, lenOk_4, lenOk_5, lenOk_6, Nat.reduceAdd, Nat.reduceLT, Nat.reduceLeDiff, Nat.reduceSub, Nat.reduceEqDiff, ne_eq, not_false_eq_true, not_true_eq_false, decide_eq_true_eq, List.mem_cons, List.not_mem_nil, or_false, false_or, true_or, or_true, if_false, Option.map_some, decide_not, decide_true, decide_false, Nat.lt_irrefl, cmp_eq, cmp_ne, cmp_eqb, cmp_neb, List.any_cons, List.any_nil, reduceCtorEq, beq_self_eq_true, Bool.or_self, plainOwn, List.all_cons, List.all_nil, PV.lst.injEq, mu_append, mu_reverse, mu_pop, List.getElem?_cons_succ, List.getElem?_cons_zero, List.getElem?_nil, Option.bind_some, Option.bind_none, id, hp]
  refine wpc_mono (take_t hD (by omega)) ?_
  rintro p l ⟨r, D', rfl, rfl, hD', h0, h1⟩
  simp only [↓reduceIte, ↓w_lit, ↓w_rd, ↓w_vw, ↓w_fz, ↓w_mv, ↓w_bin, ↓w_un, ↓w_cmp, ↓w_sub, ↓w_slc, ↓w_bi, ↓w_isi, ↓w_bm, ↓w_bk, ↓w_frz, ↓w_not, ↓w_ite, ↓w_tup, ↓w_lst, ↓w_mu, ↓w_call, ↓w_lc, ↓w_lc2, ↓w_bop, ↓w_b1, ↓w_b2, ↓w_es0, ↓w_es, ↓w_as0, ↓w_as1, ↓w_as2, ↓w_c0, ↓w_c1, ↓w_seq, ↓w_range1, ↓w_range2, ↓w_enum, ↓w_zip, ↓s_nil, ↓s_one, ↓s_cons, ↓s_set, ↓s_setAt, ↓s_par, ↓s_aug, ↓s_expr, ↓s_ite, ↓s_for, ↓s_ret, ↓s_retN, ↓s_brk, ↓s_cont, ↓s_pass, ↓wpo_some, ↓wp_ok, ↓wpc_ok, ↓wps_nx, ↓wps_rt, ↓wps_bk, ↓wps_ct, ↓wpb_bl, ↓wpi_int, ↓wpo_need, ↓wpo_bind, ↓wpo_map, need_t, getE_0, getE_s, getE_1, getE_2, getE_3, getE_4, getE_5, getE_6, getE_7, getE_8, getE_9, getE_10, getE_11, getE_12, getE_13, getE_14, getE_15, List.set_cons_zero, List.set_cons_succ, asgT, asgTs, unpk, opUn, obSem, opIsi, bmSem, bkSem, Ev.numsOf, isLst, itemsOf, itemsZ, fillAs, backAs, augOp, E.v, E.q, Es.q, Es.vs, As.q, ownOk, PV.pure, pures, PV.frz, frzs, PV.isN, Bool.and_true, Bool.true_and, Bool.or_true, Bool.true_or, Bool.not_true, Bool.not_false, Bool.false_and, Bool.and_false, Bool.or_false, Bool.false_or, List.length_cons, List.length_nil, List.map_cons, List.map_nil, List.replicate, List.cons_append, List.nil_append, true_and, and_true, if_true, Option.isSome_some, backIo, Ev.op_add, Ev.op_sub, Ev.op_mul, Ev.op_div, Ev.op_mod, Ev.op_pow, Ev.op_and, Ev.op_or, Ev.op_lcat, Ev.op_tcat, cmp_lt, cmp_le, cmp_gt, cmp_ge, cmp_is, cmp_isn, sub_t0, sub_t1, sub_t2, sub_l0, sub_l1, sub_l2, sub_tn, sub_ln, eq_self, decide_true, decide_false, exists_eq_left', wipeE, backE, lenOk_0, lenOk_1, lenOk_2, lenOk_3, lenOk_4, lenOk_5, lenOk_6, Nat.reduceAdd, Nat.reduceLT, Nat.reduceLeDiff, Nat.reduceSub, Nat.reduceEqDiff, ne_eq, not_false_eq_true, not_true_eq_false, decide_eq_true_eq, List.mem_cons, List.not_mem_nil, or_false, false_or, true_or, or_true, if_false, Option.map_some, decide_not, decide_true, decide_false, Nat.lt_irrefl, cmp_eq, cmp_ne, cmp_eqb, cmp_neb, List.any_cons, List.any_nil, reduceCtorEq, beq_self_eq_true, Bool.or_self, plainOwn, List.all_cons, List.all_nil, PV.lst.injEq, mu_append, mu_reverse, mu_pop, List.getElem?_cons_succ, List.getElem?_cons_zero, List.getElem?_nil, Option.bind_some, Option.bind_none, id]
  obtain ⟨k, rfl⟩ := Int.eq_ofNat_of_zero_le h0
  have hk : k < row.length := by omega
  rw [sub_ln, List.getElem?_eq_getElem hk]
  simp only [↓reduceIte, ↓w_lit, ↓w_rd, ↓w_vw, ↓w_fz, ↓w_mv, ↓w_bin, ↓w_un, ↓w_cmp, ↓w_sub, ↓w_slc, ↓w_bi, ↓w_isi, ↓w_bm, ↓w_bk, ↓w_frz, ↓w_not, ↓w_ite, ↓w_tup, ↓w_lst, ↓w_mu, ↓w_call, ↓w_lc, ↓w_lc2, ↓w_bop, ↓w_b1, ↓w_b2, ↓w_es0, ↓w_es, ↓w_as0, ↓w_as1, ↓w_as2, ↓w_c0, ↓w_c1, ↓w_seq, ↓w_range1, ↓w_range2, ↓w_enum, ↓w_zip, ↓s_nil, ↓s_one, ↓s_cons, ↓s_set, ↓s_setAt, ↓s_par, ↓s_aug, ↓s_expr, ↓s_ite, ↓s_for, ↓s_ret, ↓s_retN, ↓s_brk, ↓s_cont, ↓s_pass, ↓wpo_some, ↓wp_ok, ↓wpc_ok, ↓wps_nx, ↓wps_rt, ↓wps_bk, ↓wps_ct, ↓wpb_bl, ↓wpi_int, ↓wpo_need, ↓wpo_bind, ↓wpo_map, need_t, getE_0, getE_s, getE_1, getE_2, getE_3, getE_4, getE_5, getE_6, getE_7, getE_8, getE_9, getE_10, getE_11, getE_12, getE_13, getE_14, getE_15, List.set_cons_zero, List.set_cons_succ, asgT, asgTs, unpk, opUn, obSem, opIsi, bmSem, bkSem, Ev.numsOf, isLst, itemsOf, itemsZ, fillAs, backAs, augOp, E.v, E.q, Es.q, Es.vs, As.q, ownOk, PV.pure, pures, PV.frz, frzs, PV.isN, Bool.and_true, Bool.true_and, Bool.or_true, Bool.true_or, Bool.not_true, Bool.not_false, Bool.false_and, Bool.and_false, Bool.or_false, Bool.false_or, List.length_cons, List.length_nil, List.map_cons, List.map_nil, List.replicate, List.cons_append, List.nil_append, true_and, and_true, if_true, Option.isSome_some, backIo, Ev.op_add, Ev.op_sub, Ev.op_mul, Ev.op_div, Ev.op_mod, Ev.op_pow, Ev.op_and, Ev.op_or, Ev.op_lcat, Ev.op_tcat, cmp_lt, cmp_le, cmp_gt, cmp_ge, cmp_is, cmp_isn, sub_t0, sub_t1, sub_t2, sub_l0, sub_l1, sub_l2, sub_tn, sub_ln, eq_self, decide_true, decide_false, exists_eq_left', wipeE, backE, lenOk_0, lenOk_1, lenOk_2, lenOk_3, lenOk_4, lenOk_5, lenOk_6, Nat.reduceAdd, Nat.reduceLT, Nat.reduceLeDiff, Nat.reduceSub, Nat.reduceEqDiff, ne_eq, not_false_eq_true, not_true_eq_false, decide_eq_true_eq, List.mem_cons, List.not_mem_nil, or_false, false_or, true_or, or_true, if_false, Option.map_some, decide_not, decide_true, decide_false, Nat.lt_irrefl, cmp_eq, cmp_ne, cmp_eqb, cmp_neb, List.any_cons, List.any_nil, reduceCtorEq, beq_self_eq_true, Bool.or_self, plainOwn, List.all_cons, List.all_nil, PV.lst.injEq, mu_append, mu_reverse, mu_pop, List.getElem?_cons_succ, List.getElem?_cons_zero, List.getElem?_nil, Option.bind_some, Option.bind_none, id]
  exact ⟨D', List.getElem_mem hk, rfl, hD'⟩
end K78

set_option Elab.async false
set_option linter.all false
set_option maxRecDepth 100000
set_option maxHeartbeats 4000000
set_option autoImplicit false
namespace K78
open PySem PySem.Spec PyProof.Rows L2 Ev
theorem great_t {d : Nat} {D : PV} (hD : Dr D) : wpc (run (d + 3) 27 [D]) fun p l => ∃ (v : Int) (D' : PV), p = .int v ∧ l = [D'] ∧ Dr D' ∧ v.natAbs < 2 ^ 60 := by
  refine w_fn at_law_great rfl ?_
  simp only [f_law_great, ↓reduceIte, ↓w_lit, ↓w_rd, ↓w_vw, ↓w_fz, ↓w_mv, ↓w_bin, ↓w_un, ↓w_cmp, ↓w_sub, ↓w_slc, ↓w_bi, ↓w_isi, ↓w_bm, ↓w_bk, ↓w_frz, ↓w_not, ↓w_ite, ↓w_tup, ↓w_lst, ↓w_mu, ↓w_call, ↓w_lc, ↓w_lc2, ↓w_bop, ↓w_b1, ↓w_b2, ↓w_es0, ↓w_es, ↓w_as0, ↓w_as1, ↓w_as2, ↓w_c0, ↓w_c1, ↓w_seq, ↓w_range1, ↓w_range2, ↓w_enum, ↓w_zip, ↓s_nil, ↓s_one, ↓s_cons, ↓s_set, ↓s_setAt, ↓s_par, ↓s_aug, ↓s_expr, ↓s_ite, ↓s_for, ↓s_ret, ↓s_retN, ↓s_brk, ↓s_cont, ↓s_pass, ↓wpo_some, ↓wp_ok, ↓wpc_ok, ↓wps_nx, ↓wps_rt, ↓wps_bk, ↓wps_ct, ↓wpb_bl, ↓wpi_int, ↓wpo_need, ↓wpo_bind, ↓wpo_map, need_t, getE_0, getE_s, getE_1, getE_2, getE_3, getE_4, getE_5, getE_6, getE_7, getE_8, getE_9, getE_10, getE_11, getE_12, getE_13, getE_14, getE_15, List.set_cons_zero, List.set_cons_succ, asgT, asgTs, unpk, opUn, obSem, opIsi, bmSem, bkSem, Ev.numsOf, isLst, itemsOf, itemsZ, fillAs, backAs, augOp, E.v, E.q, Es.q, Es.vs, As.q, ownOk, PV.pure, pures, PV.frz, frzs, PV.isN, Bool.and_true, Bool.true_and, Bool.or_true, Bool.true_or, Bool.not_true, Bool.not_false, Bool.false_and, Bool.and_false, Bool.or_false, Bool.false_or, List.length_cons, List.length_nil, List.map_cons, List.map_nil, List.replicate, List.cons_append, List.nil_append, true_and, and_true, if_true, Option.isSome_some, backIo, Ev.op_add, Ev.op_sub, Ev.op_mul, Ev.op_div, Ev.op_mod, Ev.op_pow, Ev.op_and, Ev.op_or, Ev.op_lcat, Ev.op_tcat, cmp_lt, cmp_le, cmp_gt, cmp_ge, cmp_is, cmp_isn, sub_t0, sub_t1, sub_t2, sub_l0, sub_l1, sub_l2, sub_tn, sub_ln, eq_self, decide_true, decide_false, exists_eq_left', wipeE, backE, lenOk_0, lenOk_1, lenOk_2, lenOk_3, lenOk_4, lenOk_5, lenOk_6, Nat.reduceAdd, Nat.reduceLT, Nat.reduceLeDiff, Nat.reduceSub, Nat.reduceEqDiff, ne_eq, not_false_eq_true, not_true_eq_false, decide_eq_true_eq, List.mem_cons, List.not_mem_nil, or_false, false_or, true_or, or_true, if_false, Option.map_some, decide_not, decide_true, decide_false, Nat.lt_irrefl, cmp_eq, cmp_ne, cmp_eqb, cmp_neb, List.any_cons, List.any_nil, reduceCtorEq, beq_self_eq_true, Bool.or_self, plainOwn, List.all_cons, List.all_nil, PV.lst.injEq, mu_append, mu_reverse, mu_pop, List.getElem?_cons_succ, List.getElem?_cons_zero, List.getElem?_nil, Option.bind_some, Option.bind_none, id]
  refine wpc_mono (take_t (m := 19) hD (by omega)) ?_
  rintro p l ⟨r, D1, rfl, rfl, hD1, h0, h1⟩
  simp only [↓reduceIte, ↓w_lit, ↓w_rd, ↓w_vw, ↓w_fz, ↓w_mv, ↓w_bin, ↓w_un, ↓w_cmp, ↓w_sub, ↓w_slc, ↓w_bi, ↓w_isi, ↓w_bm, ↓w_bk, ↓w_frz, ↓w_not, ↓w_ite, ↓w_tup, ↓w_lst, ↓w_mu, ↓w_call, ↓w_lc, ↓w_lc2, ↓w_bop, ↓w_b1, ↓w_b2, ↓w_es0, ↓w_es, ↓w_as0, ↓w_as1, ↓w_as2, ↓w_c0, ↓w_c1, ↓w_seq, ↓w_range1, ↓w_range2, ↓w_enum, ↓w_zip, ↓s_nil, ↓s_one, ↓s_cons, ↓s_set, ↓s_setAt, ↓s_par, ↓s_aug, ↓s_expr, ↓s_ite, ↓s_for, ↓s_ret, ↓s_retN, ↓s_brk, ↓s_cont, ↓s_pass, ↓wpo_some, ↓wp_ok, ↓wpc_ok, ↓wps_nx, ↓wps_rt, ↓wps_bk, ↓wps_ct, ↓wpb_bl, ↓wpi_int, ↓wpo_need, ↓wpo_bind, ↓wpo_map, need_t, getE_0, getE_s, getE_1, getE_2, getE_3, getE_4, getE_5, getE_6, getE_7, getE_8, getE_9, getE_10, getE_11, getE_12, getE_13, getE_14, getE_15, List.set_cons_zero, List.set_cons_succ, asgT, asgTs, unpk, opUn, obSem, opIsi, bmSem, bkSem, Ev.numsOf, isLst, itemsOf, itemsZ, fillAs, backAs, augOp, E.v, E.q, Es.q, Es.vs, As.q, ownOk, PV.pure, pures, PV.frz, frzs, PV.isN, Bool.and_true, Bool.true_and, Bool.or_true, Bool.true_or, Bool.not_true, Bool.not_false, Bool.false_and, Bool.and_false, Bool.or_false, Bool.false_or, List.length_cons, List.length_nil, List.map_cons, List.map_nil, List.replicate, List.cons_append, List.nil_append, true_and, and_true, if_true, Option.isSome_some, backIo, Ev.op_add, Ev.op_sub, Ev.op_mul, Ev.op_div, Ev.op_mod, Ev.op_pow, Ev.op_and, Ev.op_or, Ev.op_lcat, Ev.op_tcat, cmp_lt, cmp_le, cmp_gt, cmp_ge, cmp_is, cmp_isn, sub_t0, sub_t1, sub_t2, sub_l0, sub_l1, sub_l2, sub_tn, sub_ln, eq_self, decide_true, decide_false, exists_eq_left', wipeE, backE, lenOk_0, lenOk_1, lenOk_2, lenOk_3, lenOk_4, lenOk_5, lenOk_6, Nat.reduceAdd, Nat.reduceLT, Nat.reduceLeDiff, Nat.reduceSub, Nat.reduceEqDiff, ne_eq, not_false_eq_true, not_true_eq_false, decide_eq_true_eq, List.mem_cons, List.not_mem_nil, or_false, false_or, true_or, or_true, if_false, Option.map_some, decide_not, decide_true, decide_false, Nat.lt_irrefl, cmp_eq, cmp_ne, cmp_eqb, cmp_neb, List.any_cons, List.any_nil, reduceCtorEq, beq_self_eq_true, Bool.or_self, plainOwn, List.all_cons, List.all_nil, PV.lst.injEq, mu_append, mu_reverse, mu_pop, List.getElem?_cons_succ, List.getElem?_cons_zero, List.getElem?_nil, Option.bind_some, Option.bind_none, id]
  refine wpc_mono (take_t (m := 4) hD1 (by omega)) ?_
  rintro p l ⟨r2, D2, rfl, rfl, hD2, h2, h3⟩
  simp only [↓reduceIte, ↓w_lit, ↓w_rd, ↓w_vw, ↓w_fz, ↓w_mv, ↓w_bin, ↓w_un, ↓w_cmp, ↓w_sub, ↓w_slc, ↓w_bi, ↓w_isi, ↓w_bm, ↓w_bk, ↓w_frz, ↓w_not, ↓w_ite, ↓w_tup, ↓w_lst, ↓w_mu, ↓w_call, ↓w_lc, ↓w_lc2, ↓w_bop, ↓w_b1, ↓w_b2, ↓w_es0, ↓w_es, ↓w_as0, ↓w_as1, ↓w_as2, ↓w_c0, ↓w_c1, ↓w_seq, ↓w_range1, ↓w_range2, ↓w_enum, ↓w_zip, ↓s_nil, ↓s_one, ↓s_cons, ↓s_set, ↓s_setAt, ↓s_par, ↓s_aug, ↓s_expr, ↓s_ite, ↓s_for, ↓s_ret, ↓s_retN, ↓s_brk, ↓s_cont, ↓s_pass, ↓wpo_some, ↓wp_ok, ↓wpc_ok, ↓wps_nx, ↓wps_rt, ↓wps_bk, ↓wps_ct, ↓wpb_bl, ↓wpi_int, ↓wpo_need, ↓wpo_bind, ↓wpo_map, need_t, getE_0, getE_s, getE_1, getE_2, getE_3, getE_4, getE_5, getE_6, getE_7, getE_8, getE_9, getE_10, getE_11, getE_12, getE_13, getE_14, getE_15, List.set_cons_zero, List.set_cons_succ, asgT, asgTs, unpk, opUn, obSem, opIsi, bmSem, bkSem, Ev.numsOf, isLst, itemsOf, itemsZ, fillAs, backAs, augOp, E.v, E.q, Es.q, Es.vs, As.q, ownOk, PV.pure, pures, PV.frz, frzs, PV.isN, Bool.and_true, Bool.true_and, Bool.or_true, Bool.true_or, Bool.not_true, Bool.not_false, Bool.false_and, Bool.and_false, Bool.or_false, Bool.false_or, List.length_cons, List.length_nil, List.map_cons, List.map_nil, List.replicate, List.cons_append, List.nil_append, true_and, and_true, if_true, Option.isSome_some, backIo, Ev.op_add, Ev.op_sub, Ev.op_mul, Ev.op_div, Ev.op_mod, Ev.op_pow, Ev.op_and, Ev.op_or, Ev.op_lcat, Ev.op_tcat, cmp_lt, cmp_le, cmp_gt, cmp_ge, cmp_is, cmp_isn, sub_t0, sub_t1, sub_t2, sub_l0, sub_l1, sub_l2, sub_tn, sub_ln, eq_self, decide_true, decide_false, exists_eq_left', wipeE, backE, lenOk_0, lenOk_1, lenOk_2, lenOk_3, lenOk_4, lenOk_5, lenOk_6, Nat.reduceAdd, Nat.reduceLT, Nat.reduceLeDiff, Nat.reduceSub, Nat.reduceEqDiff, ne_eq, not_false_eq_true, not_true_eq_false, decide_eq_true_eq, List.mem_cons, List.not_mem_nil, or_false, false_or, true_or, or_true, if_false, Option.map_some, decide_not, decide_true, decide_false, Nat.lt_irrefl, cmp_eq, cmp_ne, cmp_eqb, cmp_neb, List.any_cons, List.any_nil, reduceCtorEq, beq_self_eq_true, Bool.or_self, plainOwn, List.all_cons, List.all_nil, PV.lst.injEq, mu_append, mu_reverse, mu_pop, List.getElem?_cons_succ, List.getElem?_cons_zero, List.getElem?_nil, Option.bind_some, Option.bind_none, id]
  refine if_c _ (fun z => ?_) fun z => ?_
  · exact ⟨r - 9, D2, rfl, rfl, hD2, by omega⟩
  · refine wpc_mono (pick_t hD2 (by decide) rfl) ?_
    rintro p l ⟨D3, hp, rfl, hD3⟩
    have hp' : ∃ a : Int, p = .int a ∧ (a = 1 ∨ a = -1) := by
      simp at hp
      rcases hp with e | e <;> exact ⟨_, e, by simp⟩
    obtain ⟨a, rfl, ha⟩ := hp'
    simp only [↓reduceIte, ↓w_lit, ↓w_rd, ↓w_vw, ↓w_fz, ↓w_mv, ↓w_bin, ↓w_un, ↓w_cmp, ↓w_sub, ↓w_slc, ↓w_bi, ↓w_isi, ↓w_bm, ↓w_bk, ↓w_frz, ↓w_not, ↓w_ite, ↓w_tup, ↓w_lst, ↓w_mu, ↓w_call, ↓w_lc, ↓w_lc2, ↓w_bop, ↓w_b1, ↓w_b2, ↓w_es0, ↓w_es, ↓w_as0, ↓w_as1, ↓w_as2, ↓w_c0, ↓w_c1, ↓w_seq, ↓w_range1, ↓w_range2, ↓w_enum, ↓w_zip, ↓s_nil, ↓s_one, ↓s_cons, ↓s_set, ↓s_setAt, ↓s_par, ↓s_aug, ↓s_expr, ↓s_ite, ↓s_for, ↓s_ret, ↓s_retN, ↓s_brk, ↓s_cont, ↓s_pass, ↓wpo_some, ↓wp_ok, ↓wpc_ok, ↓wps_nx, ↓wps_rt, ↓wps_bk, ↓wps_ct, ↓wpb_bl, ↓wpi_int, ↓wpo_need, ↓wpo_bind, ↓wpo_map, need_t, getE_0, getE_s, getE_1, getE_2, getE_3, getE_4, getE_5, getE_6, getE_7, getE_8, getE_9, getE_10, getE_11, getE_12, getE_13, getE_14, getE_15, List.set_cons_zero, List.set_cons_succ, asgT, asgTs, unpk, opUn, obSem, opIsi, bmSem, bkSem, Ev.numsOf, isLst, itemsOf, itemsZ, fillAs, backAs, augOp, E.v, E.q, Es.q, Es.vs, As.q, ownOk, PV.pure, pures, PV.frz, frzs, PV.isN, Bool.and_true, Bool.true_and, Bool.or_true, Bool.true_or, Bool.not_true, Bool.not_false, Bool.false_and, Bool.and_false, Bool.or_false, Bool.false_or, List.length_cons, List.length_nil, List.map_cons, List.map_nil, List.replicate, List.cons_append, List.nil_append, true_and, and_true, if_true, Option.isSome_some, backIo, Ev.op_add, Ev.op_sub, Ev.op_mul, Ev.op_div, Ev.op_mod, Ev.op_pow, Ev.op_and, Ev.op_or, Ev.op_lcat, Ev.op_tcat, cmp_lt, cmp_le, cmp_gt, cmp_ge, cmp_is, cmp_isn, sub_t0, sub_t1, sub_t2, sub_l0, sub_l1, sub_l2, sub_tn, sub_ln, eq_self, decide_true, decide_false, exists_eq_left', wipeE, backE, lenOk_0, lenOk_1, lenOk_2, lenOk_3, lenOk_4, lenOk_5, lenOk_6, Nat.reduceAdd, Nat.reduceLT, Nat.reduceLeDiff, Nat.reduceSub, Nat.reduceEqDiff, ne_eq, not_false_eq_true, not_true_eq_false, decide_eq_true_eq, List.mem_cons, List.not_mem_nil, or_false, false_or, true_or, or_true, if_false, Option.map_some, decide_not, decide_true, decide_false, Nat.lt_irrefl, cmp_eq, cmp_ne, cmp_eqb, cmp_neb, List.any_cons, List.any_nil, reduceCtorEq, beq_self_eq_true, Bool.or_self, plainOwn, List.all_cons, List.all_nil, PV.lst.injEq, mu_append, mu_reverse, mu_pop, List.getElem?_cons_succ, List.getElem?_cons_zero, List.getElem?_nil, Option.bind_some, Option.bind_none, id]
    refine ⟨by decide, by decide, ?_⟩
    refine wpc_mono (pick_t hD3 (by simp) rfl) ?_
    rintro p l ⟨D4, hp, rfl, hD4⟩
    have hp' : ∃ b : Int, p = .int b ∧ (b = 60 ∨ b = 1000003 ∨ b = 10 ^ 15 + 37 ∨ b = 10 ^ 18 + 9) := by
      simp at hp
      rcases hp with e | e | e | e <;> exact ⟨_, e, by simp⟩
    obtain ⟨b, rfl, hb⟩ := hp'
    simp only [↓reduceIte, ↓w_lit, ↓w_rd, ↓w_vw, ↓w_fz, ↓w_mv, ↓w_bin, ↓w_un, ↓w_cmp, ↓w_sub, ↓w_slc, ↓w_bi, ↓w_isi, ↓w_bm, ↓w_bk, ↓w_frz, ↓w_not, ↓w_ite, ↓w_tup, ↓w_lst, ↓w_mu, ↓w_call, ↓w_lc, ↓w_lc2, ↓w_bop, ↓w_b1, ↓w_b2, ↓w_es0, ↓w_es, ↓w_as0, ↓w_as1, ↓w_as2, ↓w_c0, ↓w_c1, ↓w_seq, ↓w_range1, ↓w_range2, ↓w_enum, ↓w_zip, ↓s_nil, ↓s_one, ↓s_cons, ↓s_set, ↓s_setAt, ↓s_par, ↓s_aug, ↓s_expr, ↓s_ite, ↓s_for, ↓s_ret, ↓s_retN, ↓s_brk, ↓s_cont, ↓s_pass, ↓wpo_some, ↓wp_ok, ↓wpc_ok, ↓wps_nx, ↓wps_rt, ↓wps_bk, ↓wps_ct, ↓wpb_bl, ↓wpi_int, ↓wpo_need, ↓wpo_bind, ↓wpo_map, need_t, getE_0, getE_s, getE_1, getE_2, getE_3, getE_4, getE_5, getE_6, getE_7, getE_8, getE_9, getE_10, getE_11, getE_12, getE_13, getE_14, getE_15, List.set_cons_zero, List.set_cons_succ, asgT, asgTs, unpk, opUn, obSem, opIsi, bmSem, bkSem, Ev.numsOf, isLst, itemsOf, itemsZ, fillAs, backAs, augOp, E.v, E.q, Es.q, Es.vs, As.q, ownOk, PV.pure, pures, PV.frz, frzs, PV.isN, Bool.and_true, Bool.true_and, Bool.or_true, Bool.true_or, Bool.not_true, Bool.not_false, Bool.false_and, Bool.and_false, Bool.or_false, Bool.false_or, List.length_cons, List.length_nil, List.map_cons, List.map_nil, List.replicate, List.cons_append, List.nil_append, true_and, and_true, if_true, Option.isSome_some, backIo, Ev.op_add, Ev.op_sub, Ev.op_mul, Ev.op_div, Ev.op_mod, Ev.op_pow, Ev.op_and, Ev.op_or, Ev.op_lcat, Ev.op_tcat, cmp_lt, cmp_le, cmp_gt, cmp_ge, cmp_is, cmp_isn, sub_t0, sub_t1, sub_t2, sub_l0, sub_l1, sub_l2, sub_tn, sub_ln, eq_self, decide_true, decide_false, exists_eq_left', wipeE, backE, lenOk_0, lenOk_1, lenOk_2, lenOk_3, lenOk_4, lenOk_5, lenOk_6, Nat.reduceAdd, Nat.reduceLT, Nat.reduceLeDiff, Nat.reduceSub, Nat.reduceEqDiff, ne_eq, not_false_eq_true, not_true_eq_false, decide_eq_true_eq, List.mem_cons, List.not_mem_nil, or_false, false_or, true_or, or_true, if_false, Option.map_some, decide_not, decide_true, decide_false, Nat.lt_irrefl, cmp_eq, cmp_ne, cmp_eqb, cmp_neb, List.any_cons, List.any_nil, reduceCtorEq, beq_self_eq_true, Bool.or_self, plainOwn, List.all_cons, List.all_nil, PV.lst.injEq, mu_append, mu_reverse, mu_pop, List.getElem?_cons_succ, List.getElem?_cons_zero, List.getElem?_nil, Option.bind_some, Option.bind_none, id]
    refine ⟨mulOk_l (by omega), r - 9 + a * b, D4, rfl, rfl, hD4, ?_⟩
    rcases ha with e | e <;> rw [e] <;> omega

/-! ### lowest terms -/
def Low (p : Int × Int) : Prop := 0 < p.2 ∧ Int.gcd p.1 p.2 = 1 ∧ p.1.natAbs < 2 ^ 60 ∧ p.2.natAbs < 2 ^ 60
theorem gcd_div {n e : Int} (he : e ≠ 0) : Int.gcd (n / (Int.gcd n e : Int)) (e / (Int.gcd n e : Int)) = 1 := by
  have h := gcd_pos (n := n) he
  exact Int.gcd_ediv_gcd_ediv_gcd h
theorem div_le {n : Int} {g : Nat} (h : 0 < g) (hd : (g : Int) ∣ n) : (n / (g : Int)).natAbs ≤ n.natAbs := by
  rw [Int.natAbs_ediv_of_dvd hd]
  exact Nat.div_le_self _ _
theorem fr_low {n e : Int} (he : e ≠ 0) (hn : n.natAbs < 2 ^ 60) (hb : e.natAbs < 2 ^ 60) : Low (fr n e) := by
  have g0 := gcd_pos (n := n) he
  have d1 : (Int.gcd n e : Int) ∣ n := Int.gcd_dvd_left ..
  have d2 : (Int.gcd n e : Int) ∣ e := Int.gcd_dvd_right ..
  have l1 := div_le g0 d1
  have l2 := div_le g0 d2
  have gg := gcd_div (n := n) he
  have e0 : e / (Int.gcd n e : Int) * (Int.gcd n e : Int) = e := Int.ediv_mul_cancel d2
  unfold fr
  split
  · rename_i hneg
    refine ⟨?_, by show Int.gcd (-_) (-_) = 1; rw [Int.gcd_neg, Int.neg_gcd]; exact gg, by show (-_ : Int).natAbs < _; rw [Int.natAbs_neg]; omega, by show (-_ : Int).natAbs < _; rw [Int.natAbs_neg]; omega⟩
    show 0 < -(e / (Int.gcd n e : Int))
    have : e / (Int.gcd n e : Int) < 0 := Int.ediv_neg_of_neg_of_pos hneg (by omega)
    omega
  · refine ⟨?_, gg, by show (_ : Int).natAbs < _; omega, by show (_ : Int).natAbs < _; omega⟩
    show 0 < e / (Int.gcd n e : Int)
    exact Int.ediv_pos_of_pos_of_dvd (by omega) (by omega) d2
theorem low_neg {p : Int × Int} (h : Low p) : Low (0 - p.1, p.2) := by
  obtain ⟨h1, h2, h3, h4⟩ := h
  refine ⟨h1, ?_, ?_, h4⟩
  · show Int.gcd (0 - p.1) p.2 = 1
    rw [Int.zero_sub, Int.neg_gcd]; exact h2
  · show (0 - p.1).natAbs < _
    rw [Int.zero_sub, Int.natAbs_neg]; exact h3
theorem fr_scale {p : Int × Int} {c : Int} (h : Low p) (hc : c ≠ 0) : fr (p.1 * c) (p.2 * c) = p := by
  obtain ⟨h1, h2, h3, h4⟩ := h
  have eg : Int.gcd (p.1 * c) (p.2 * c) = c.natAbs := by rw [Int.gcd_mul_right, h2, Nat.one_mul]
  unfold fr
  rw [eg]
  have m : p.2 * c < 0 ↔ c < 0 := by
    constructor
    · intro z
      rcases Int.lt_trichotomy c 0 with y | y | y
      · exact y
      · exact absurd y hc
      · have := Int.mul_pos h1 y; omega
    · intro z; exact Int.mul_neg_of_pos_of_neg h1 z
  rcases Int.lt_or_gt_of_ne hc with z | z
  · rw [if_pos (m.mpr z)]
    have ec : (c.natAbs : Int) = -c := by omega
    rw [ec, Int.ediv_neg, Int.ediv_neg, Int.mul_ediv_cancel _ hc, Int.mul_ediv_cancel _ hc, Int.neg_neg, Int.neg_neg]
  · rw [if_neg (fun y => by have := m.mp y; omega)]
    have ec : (c.natAbs : Int) = c := by omega
    rw [ec, Int.mul_ediv_cancel _ hc, Int.mul_ediv_cancel _ hc]
theorem fr_zero {c : Int} (hc : c ≠ 0) : fr 0 c = (0, 1) := by
  have h := fr_scale (p := (0, 1)) (c := c) ⟨by decide, by decide, by decide, by decide⟩ hc
  simpa using h
theorem drawnfrac_t {d : Nat} {D : PV} (hD : Dr D) : wpc (run (d + 4) 28 [D]) fun p l => ∃ (f : Int × Int) (D' : PV), p = F2 f ∧ l = [D'] ∧ Dr D' ∧ Low f := by
  refine w_fn at_law_drawn_fraction rfl ?_
  simp only [f_law_drawn_fraction, ↓reduceIte, ↓w_lit, ↓w_rd, ↓w_vw, ↓w_fz, ↓w_mv, ↓w_bin, ↓w_un, ↓w_cmp, ↓w_sub, ↓w_slc, ↓w_bi, ↓w_isi, ↓w_bm, ↓w_bk, ↓w_frz, ↓w_not, ↓w_ite, ↓w_tup, ↓w_lst, ↓w_mu, ↓w_call, ↓w_lc, ↓w_lc2, ↓w_bop, ↓w_b1, ↓w_b2, ↓w_es0, ↓w_es, ↓w_as0, ↓w_as1, ↓w_as2, ↓w_c0, ↓w_c1, ↓w_seq, ↓w_range1, ↓w_range2, ↓w_enum, ↓w_zip, ↓s_nil, ↓s_one, ↓s_cons, ↓s_set, ↓s_setAt, ↓s_par, ↓s_aug, ↓s_expr, ↓s_ite, ↓s_for, ↓s_ret, ↓s_retN, ↓s_brk, ↓s_cont, ↓s_pass, ↓wpo_some, ↓wp_ok, ↓wpc_ok, ↓wps_nx, ↓wps_rt, ↓wps_bk, ↓wps_ct, ↓wpb_bl, ↓wpi_int, ↓wpo_need, ↓wpo_bind, ↓wpo_map, need_t, getE_0, getE_s, getE_1, getE_2, getE_3, getE_4, getE_5, getE_6, getE_7, getE_8, getE_9, getE_10, getE_11, getE_12, getE_13, getE_14, getE_15, List.set_cons_zero, List.set_cons_succ, asgT, asgTs, unpk, opUn, obSem, opIsi, bmSem, bkSem, Ev.numsOf, isLst, itemsOf, itemsZ, fillAs, backAs, augOp, E.v, E.q, Es.q, Es.vs, As.q, ownOk, PV.pure, pures, PV.frz, frzs, PV.isN, Bool.and_true, Bool.true_and, Bool.or_true, Bool.true_or, Bool.not_true, Bool.not_false, Bool.false_and, Bool.and_false, Bool.or_false, Bool.false_or, List.length_cons, List.length_nil, List.map_cons, List.map_nil, List.replicate, List.cons_append, List.nil_append, true_and, and_true, if_true, Option.isSome_some, backIo, Ev.op_add, Ev.op_sub, Ev.op_mul, Ev.op_div, Ev.op_mod, Ev.op_pow, Ev.op_and, Ev.op_or, Ev.op_lcat, Ev.op_tcat, cmp_lt, cmp_le, cmp_gt, cmp_ge, cmp_is, cmp_isn, sub_t0, sub_t1, sub_t2, sub_l0, sub_l1, sub_l2, sub_tn, sub_ln, eq_self, decide_true, decide_false, exists_eq_left', wipeE, backE, lenOk_0, lenOk_1, lenOk_2, lenOk_3, lenOk_4, lenOk_5, lenOk_6, Nat.reduceAdd, Nat.reduceLT, Nat.reduceLeDiff, Nat.reduceSub, Nat.reduceEqDiff, ne_eq, not_false_eq_true, not_true_eq_false, decide_eq_true_eq, List.mem_cons, List.not_mem_nil, or_false, false_or, true_or, or_true, if_false, Option.map_some, decide_not, decide_true, decide_false, Nat.lt_irrefl, cmp_eq, cmp_ne, cmp_eqb, cmp_neb, List.any_cons, List.any_nil, reduceCtorEq, beq_self_eq_true, Bool.or_self, plainOwn, List.all_cons, List.all_nil, PV.lst.injEq, mu_append, mu_reverse, mu_pop, List.getElem?_cons_succ, List.getElem?_cons_zero, List.getElem?_nil, Option.bind_some, Option.bind_none, id]
  refine wpc_mono (great_t hD) ?_
  rintro p l ⟨v, D1, rfl, rfl, hD1, hv⟩
  simp only [↓reduceIte, ↓w_lit, ↓w_rd, ↓w_vw, ↓w_fz, ↓w_mv, ↓w_bin, ↓w_un, ↓w_cmp, ↓w_sub, ↓w_slc, ↓w_bi, ↓w_isi, ↓w_bm, ↓w_bk, ↓w_frz, ↓w_not, ↓w_ite, ↓w_tup, ↓w_lst, ↓w_mu, ↓w_call, ↓w_lc, ↓w_lc2, ↓w_bop, ↓w_b1, ↓w_b2, ↓w_es0, ↓w_es, ↓w_as0, ↓w_as1, ↓w_as2, ↓w_c0, ↓w_c1, ↓w_seq, ↓w_range1, ↓w_range2, ↓w_enum, ↓w_zip, ↓s_nil, ↓s_one, ↓s_cons, ↓s_set, ↓s_setAt, ↓s_par, ↓s_aug, ↓s_expr, ↓s_ite, ↓s_for, ↓s_ret, ↓s_retN, ↓s_brk, ↓s_cont, ↓s_pass, ↓wpo_some, ↓wp_ok, ↓wpc_ok, ↓wps_nx, ↓wps_rt, ↓wps_bk, ↓wps_ct, ↓wpb_bl, ↓wpi_int, ↓wpo_need, ↓wpo_bind, ↓wpo_map, need_t, getE_0, getE_s, getE_1, getE_2, getE_3, getE_4, getE_5, getE_6, getE_7, getE_8, getE_9, getE_10, getE_11, getE_12, getE_13, getE_14, getE_15, List.set_cons_zero, List.set_cons_succ, asgT, asgTs, unpk, opUn, obSem, opIsi, bmSem, bkSem, Ev.numsOf, isLst, itemsOf, itemsZ, fillAs, backAs, augOp, E.v, E.q, Es.q, Es.vs, As.q, ownOk, PV.pure, pures, PV.frz, frzs, PV.isN, Bool.and_true, Bool.true_and, Bool.or_true, Bool.true_or, Bool.not_true, Bool.not_false, Bool.false_and, Bool.and_false, Bool.or_false, Bool.false_or, List.length_cons, List.length_nil, List.map_cons, List.map_nil, List.replicate, List.cons_append, List.nil_append, true_and, and_true, if_true, Option.isSome_some, backIo, Ev.op_add, Ev.op_sub, Ev.op_mul, Ev.op_div, Ev.op_mod, Ev.op_pow, Ev.op_and, Ev.op_or, Ev.op_lcat, Ev.op_tcat, cmp_lt, cmp_le, cmp_gt, cmp_ge, cmp_is, cmp_isn, sub_t0, sub_t1, sub_t2, sub_l0, sub_l1, sub_l2, sub_tn, sub_ln, eq_self, decide_true, decide_false, exists_eq_left', wipeE, backE, lenOk_0, lenOk_1, lenOk_2, lenOk_3, lenOk_4, lenOk_5, lenOk_6, Nat.reduceAdd, Nat.reduceLT, Nat.reduceLeDiff, Nat.reduceSub, Nat.reduceEqDiff, ne_eq, not_false_eq_true, not_true_eq_false, decide_eq_true_eq, List.mem_cons, List.not_mem_nil, or_false, false_or, true_or, or_true, if_false, Option.map_some, decide_not, decide_true, decide_false, Nat.lt_irrefl, cmp_eq, cmp_ne, cmp_eqb, cmp_neb, List.any_cons, List.any_nil, reduceCtorEq, beq_self_eq_true, Bool.or_self, plainOwn, List.all_cons, List.all_nil, PV.lst.injEq, mu_append, mu_reverse, mu_pop, List.getElem?_cons_succ, List.getElem?_cons_zero, List.getElem?_nil, Option.bind_some, Option.bind_none, id]
  have fin : ∀ e : Int, e ≠ 0 → e.natAbs < 2 ^ 60 → wpc (run (d + 3) 27 [D1]) fun p l => ∃ (w : Int) (D' : PV), p = .int w ∧ l = [D'] ∧ Dr D' ∧ w.natAbs < 2 ^ 60 := fun e _ _ => great_t hD1
  refine if_c _ (fun z => ?_) fun z => ?_
  · refine wpc_mono (great_t hD1) ?_
    rintro p l ⟨w, D2, rfl, rfl, hD2, hw⟩
    have L := lawfrac_t (d := d + 1) (n := w) (e := 12) (by decide) (by omega) (by decide)
    simp only [↓reduceIte, ↓w_lit, ↓w_rd, ↓w_vw, ↓w_fz, ↓w_mv, ↓w_bin, ↓w_un, ↓w_cmp, ↓w_sub, ↓w_slc, ↓w_bi, ↓w_isi, ↓w_bm, ↓w_bk, ↓w_frz, ↓w_not, ↓w_ite, ↓w_tup, ↓w_lst, ↓w_mu, ↓w_call, ↓w_lc, ↓w_lc2, ↓w_bop, ↓w_b1, ↓w_b2, ↓w_es0, ↓w_es, ↓w_as0, ↓w_as1, ↓w_as2, ↓w_c0, ↓w_c1, ↓w_seq, ↓w_range1, ↓w_range2, ↓w_enum, ↓w_zip, ↓s_nil, ↓s_one, ↓s_cons, ↓s_set, ↓s_setAt, ↓s_par, ↓s_aug, ↓s_expr, ↓s_ite, ↓s_for, ↓s_ret, ↓s_retN, ↓s_brk, ↓s_cont, ↓s_pass, ↓wpo_some, ↓wp_ok, ↓wpc_ok, ↓wps_nx, ↓wps_rt, ↓wps_bk, ↓wps_ct, ↓wpb_bl, ↓wpi_int, ↓wpo_need, ↓wpo_bind, ↓wpo_map, need_t, getE_0, getE_s, getE_1, getE_2, getE_3, getE_4, getE_5, getE_6, getE_7, getE_8, getE_9, getE_10, getE_11, getE_12, getE_13, getE_14, getE_15, List.set_cons_zero, List.set_cons_succ, asgT, asgTs, unpk, opUn, obSem, opIsi, bmSem, bkSem, Ev.numsOf, isLst, itemsOf, itemsZ, fillAs, backAs, augOp, E.v, E.q, Es.q, Es.vs, As.q, ownOk, PV.pure, pures, PV.frz, frzs, PV.isN, Bool.and_true, Bool.true_and, Bool.or_true, Bool.true_or, Bool.not_true, Bool.not_false, Bool.false_and, Bool.and_false, Bool.or_false, Bool.false_or, List.length_cons, List.length_nil, List.map_cons, List.map_nil, List.replicate, List.cons_append, List.nil_append, true_and, and_true, if_true, Option.isSome_some, backIo, Ev.op_add, Ev.op_sub, Ev.op_mul, Ev.op_div, Ev.op_mod, Ev.op_pow, Ev.op_and, Ev.op_or, Ev.op_lcat, Ev.op_tcat, cmp_lt, cmp_le, cmp_gt, cmp_ge, cmp_is, cmp_isn, sub_t0, sub_t1, sub_t2, sub_l0, sub_l1, sub_l2, sub_tn, sub_ln, eq_self, decide_true, decide_false, exists_eq_left', wipeE, backE, lenOk_0, lenOk_1, lenOk_2, lenOk_3, lenOk_4, lenOk_5, lenOk_6, Nat.reduceAdd, Nat.reduceLT, Nat.reduceLeDiff, Nat.reduceSub, Nat.reduceEqDiff, ne_eq, not_false_eq_true, not_true_eq_false, decide_eq_true_eq, List.mem_cons, List.not_mem_nil, or_false, false_or, true_or, or_true, if_false, Option.map_some, decide_not, decide_true, decide_false, Nat.lt_irrefl, cmp_eq, cmp_ne, cmp_eqb, cmp_neb, List.any_cons, List.any_nil, reduceCtorEq, beq_self_eq_true, Bool.or_self, plainOwn, List.all_cons, List.all_nil, PV.lst.injEq, mu_append, mu_reverse, mu_pop, List.getElem?_cons_succ, List.getElem?_cons_zero, List.getElem?_nil, Option.bind_some, Option.bind_none, id, L]
    exact ⟨_, D2, rfl, rfl, hD2, fr_low (by decide) hw (by decide)⟩
  · refine wpc_mono (great_t hD1) ?_
    rintro p l ⟨w, D2, rfl, rfl, hD2, hw⟩
    have L := lawfrac_t (d := d + 1) (n := w) (e := v) z (by omega) (by omega)
    simp only [↓reduceIte, ↓w_lit, ↓w_rd, ↓w_vw, ↓w_fz, ↓w_mv, ↓w_bin, ↓w_un, ↓w_cmp, ↓w_sub, ↓w_slc, ↓w_bi, ↓w_isi, ↓w_bm, ↓w_bk, ↓w_frz, ↓w_not, ↓w_ite, ↓w_tup, ↓w_lst, ↓w_mu, ↓w_call, ↓w_lc, ↓w_lc2, ↓w_bop, ↓w_b1, ↓w_b2, ↓w_es0, ↓w_es, ↓w_as0, ↓w_as1, ↓w_as2, ↓w_c0, ↓w_c1, ↓w_seq, ↓w_range1, ↓w_range2, ↓w_enum, ↓w_zip, ↓s_nil, ↓s_one, ↓s_cons, ↓s_set, ↓s_setAt, ↓s_par, ↓s_aug, ↓s_expr, ↓s_ite, ↓s_for, ↓s_ret, ↓s_retN, ↓s_brk, ↓s_cont, ↓s_pass, ↓wpo_some, ↓wp_ok, ↓wpc_ok, ↓wps_nx, ↓wps_rt, ↓wps_bk, ↓wps_ct, ↓wpb_bl, ↓wpi_int, ↓wpo_need, ↓wpo_bind, ↓wpo_map, need_t, getE_0, getE_s, getE_1, getE_2, getE_3, getE_4, getE_5, getE_6, getE_7, getE_8, getE_9, getE_10, getE_11, getE_12, getE_13, getE_14, getE_15, List.set_cons_zero, List.set_cons_succ, asgT, asgTs, unpk, opUn, obSem, opIsi, bmSem, bkSem, Ev.numsOf, isLst, itemsOf, itemsZ, fillAs, backAs, augOp, E.v, E.q, Es.q, Es.vs, As.q, ownOk, PV.pure, pures, PV.frz, frzs, PV.isN, Bool.and_true, Bool.true_and, Bool.or_true, Bool.true_or, Bool.not_true, Bool.not_false, Bool.false_and, Bool.and_false, Bool.or_false, Bool.false_or, List.length_cons, List.length_nil, List.map_cons, List.map_nil, List.replicate, List.cons_append, List.nil_append, true_and, and_true, if_true, Option.isSome_some, backIo, Ev.op_add, Ev.op_sub, Ev.op_mul, Ev.op_div, Ev.op_mod, Ev.op_pow, Ev.op_and, Ev.op_or, Ev.op_lcat, Ev.op_tcat, cmp_lt, cmp_le, cmp_gt, cmp_ge, cmp_is, cmp_isn, sub_t0, sub_t1, sub_t2, sub_l0, sub_l1, sub_l2, sub_tn, sub_ln, eq_self, decide_true, decide_false, exists_eq_left', wipeE, backE, lenOk_0, lenOk_1, lenOk_2, lenOk_3, lenOk_4, lenOk_5, lenOk_6, Nat.reduceAdd, Nat.reduceLT, Nat.reduceLeDiff, Nat.reduceSub, Nat.reduceEqDiff, ne_eq, not_false_eq_true, not_true_eq_false, decide_eq_true_eq, List.mem_cons, List.not_mem_nil, or_false, false_or, true_or, or_true, if_false, Option.map_some, decide_not, decide_true, decide_false, Nat.lt_irrefl, cmp_eq, cmp_ne, cmp_eqb, cmp_neb, List.any_cons, List.any_nil, reduceCtorEq, beq_self_eq_true, Bool.or_self, plainOwn, List.all_cons, List.all_nil, PV.lst.injEq, mu_append, mu_reverse, mu_pop, List.getElem?_cons_succ, List.getElem?_cons_zero, List.getElem?_nil, Option.bind_some, Option.bind_none, id, L]
    exact ⟨_, D2, rfl, rfl, hD2, fr_low z hw hv⟩
end K78

set_option Elab.async false
set_option linter.all false
set_option maxRecDepth 100000
set_option maxHeartbeats 8000000
set_option autoImplicit false
namespace K78
open PySem PySem.Spec PyProof.Rows L2 Ev
theorem m60 {a b : Int} (ha : a.natAbs < 2 ^ 60) (hb : b.natAbs < 2 ^ 60) : mulOk a b = true ∧ (a * b).natAbs < 2 ^ 120 := by
  refine ⟨mulOk_of (a := 59) (b := 59) ha hb (by omega), ?_⟩
  rw [Int.natAbs_mul]
  have : a.natAbs * b.natAbs ≤ (2 ^ 60 - 1) * (2 ^ 60 - 1) := Nat.mul_le_mul (by omega) (by omega)
  have h2 : (2 ^ 60 - 1) * (2 ^ 60 - 1) < 2 ^ 120 := by decide
  omega
theorem mne {a b : Int} (ha : a ≠ 0) (hb : b ≠ 0) : a * b ≠ 0 := Int.mul_ne_zero ha hb
theorem F2_eq (p : Int × Int) : F2 p = .tup [.int p.1, .int p.2] := rfl
section
variable {d : Nat} {f g : Int × Int}
theorem add_t (hf : Low f) (hg : Low g) : run (d + 2) 7 [F2 f, F2 g] = .ok (F2 (fr (f.1 * g.2 + g.1 * f.2) (f.2 * g.2))) [F2 f, F2 g] := by
  obtain ⟨f1, _, f3, f4⟩ := hf
  obtain ⟨g1, _, g3, g4⟩ := hg
  have h1 := m60 f3 g4
  have h2 := m60 g3 f4
  have h3 := m60 f4 g4
  refine eq_of (w_fn at_add rfl ?_)
  have L := fraction_t (d := d) (n := f.1 * g.2 + g.1 * f.2) (e := f.2 * g.2) (mne (by omega) (by omega)) (by omega)
  rw [F2_eq f, F2_eq g]
  simp only [f_add, ↓reduceIte, ↓w_lit, ↓w_rd, ↓w_vw, ↓w_fz, ↓w_mv, ↓w_bin, ↓w_un, ↓w_cmp, ↓w_sub, ↓w_slc, ↓w_bi, ↓w_isi, ↓w_bm, ↓w_bk, ↓w_frz, ↓w_not, ↓w_ite, ↓w_tup, ↓w_lst, ↓w_mu, ↓w_call, ↓w_lc, ↓w_lc2, ↓w_bop, ↓w_b1, ↓w_b2, ↓w_es0, ↓w_es, ↓w_as0, ↓w_as1, ↓w_as2, ↓w_c0, ↓w_c1, ↓w_seq, ↓w_range1, ↓w_range2, ↓w_enum, ↓w_zip, ↓s_nil, ↓s_one, ↓s_cons, ↓s_set, ↓s_setAt, ↓s_par, ↓s_aug, ↓s_expr, ↓s_ite, ↓s_for, ↓s_ret, ↓s_retN, ↓s_brk, ↓s_cont, ↓s_pass, ↓wpo_some, ↓wp_ok, ↓wpc_ok, ↓wps_nx, ↓wps_rt, ↓wps_bk, ↓wps_ct, ↓wpb_bl, ↓wpi_int, ↓wpo_need, ↓wpo_bind, ↓wpo_map, need_t, getE_0, getE_s, getE_1, getE_2, getE_3, getE_4, getE_5, getE_6, getE_7, getE_8, getE_9, getE_10, getE_11, getE_12, getE_13, getE_14, getE_15, List.set_cons_zero, List.set_cons_succ, asgT, asgTs, unpk, opUn, obSem, opIsi, bmSem, bkSem, Ev.numsOf, isLst, itemsOf, itemsZ, fillAs, backAs, augOp, E.v, E.q, Es.q, Es.vs, As.q, ownOk, PV.pure, pures, PV.frz, frzs, PV.isN, Bool.and_true, Bool.true_and, Bool.or_true, Bool.true_or, Bool.not_true, Bool.not_false, Bool.false_and, Bool.and_false, Bool.or_false, Bool.false_or, List.length_cons, List.length_nil, List.map_cons, List.map_nil, List.replicate, List.cons_append, List.nil_append, true_and, and_true, if_true, Option.isSome_some, backIo, Ev.op_add, Ev.op_sub, Ev.op_mul, Ev.op_div, Ev.op_mod, Ev.op_pow, Ev.op_and, Ev.op_or, Ev.op_lcat, Ev.op_tcat, cmp_lt, cmp_le, cmp_gt, cmp_ge, cmp_is, cmp_isn, sub_t0, sub_t1, sub_t2, sub_l0, sub_l1, sub_l2, sub_tn, sub_ln, eq_self, decide_true, decide_false, exists_eq_left', wipeE, backE, lenOk_0, lenOk_1, lenOk_2, lenOk_3, lenOk_4, lenOk_5, lenOk_6, Nat.reduceAdd, Nat.reduceLT, Nat.reduceLeDiff, Nat.reduceSub, Nat.reduceEqDiff, ne_eq, not_false_eq_true, not_true_eq_false, decide_eq_true_eq, List.mem_cons, List.not_mem_nil, or_false, false_or, true_or, or_true, if_false, Option.map_some, decide_not, decide_true, decide_false, Nat.lt_irrefl, cmp_eq, cmp_ne, cmp_eqb, cmp_neb, List.any_cons, List.any_nil, reduceCtorEq, beq_self_eq_true, Bool.or_self, plainOwn, List.all_cons, List.all_nil, PV.lst.injEq, mu_append, mu_reverse, mu_pop, List.getElem?_cons_succ, List.getElem?_cons_zero, List.getElem?_nil, Option.bind_some, Option.bind_none, id, L]
  exact ⟨h1.1, h2.1, h3.1⟩
theorem subtract_t (hf : Low f) (hg : Low g) : run (d + 2) 8 [F2 f, F2 g] = .ok (F2 (fr (f.1 * g.2 - g.1 * f.2) (f.2 * g.2))) [F2 f, F2 g] := by
  obtain ⟨f1, _, f3, f4⟩ := hf
  obtain ⟨g1, _, g3, g4⟩ := hg
  have h1 := m60 f3 g4
  have h2 := m60 g3 f4
  have h3 := m60 f4 g4
  refine eq_of (w_fn at_subtract rfl ?_)
  have L := fraction_t (d := d) (n := f.1 * g.2 - g.1 * f.2) (e := f.2 * g.2) (mne (by omega) (by omega)) (by omega)
  rw [F2_eq f, F2_eq g]
  simp only [f_subtract, ↓reduceIte, ↓w_lit, ↓w_rd, ↓w_vw, ↓w_fz, ↓w_mv, ↓w_bin, ↓w_un, ↓w_cmp, ↓w_sub, ↓w_slc, ↓w_bi, ↓w_isi, ↓w_bm, ↓w_bk, ↓w_frz, ↓w_not, ↓w_ite, ↓w_tup, ↓w_lst, ↓w_mu, ↓w_call, ↓w_lc, ↓w_lc2, ↓w_bop, ↓w_b1, ↓w_b2, ↓w_es0, ↓w_es, ↓w_as0, ↓w_as1, ↓w_as2, ↓w_c0, ↓w_c1, ↓w_seq, ↓w_range1, ↓w_range2, ↓w_enum, ↓w_zip, ↓s_nil, ↓s_one, ↓s_cons, ↓s_set, ↓s_setAt, ↓s_par, ↓s_aug, ↓s_expr, ↓s_ite, ↓s_for, ↓s_ret, ↓s_retN, ↓s_brk, ↓s_cont, ↓s_pass, ↓wpo_some, ↓wp_ok, ↓wpc_ok, ↓wps_nx, ↓wps_rt, ↓wps_bk, ↓wps_ct, ↓wpb_bl, ↓wpi_int, ↓wpo_need, ↓wpo_bind, ↓wpo_map, need_t, getE_0, getE_s, getE_1, getE_2, getE_3, getE_4, getE_5, getE_6, getE_7, getE_8, getE_9, getE_10, getE_11, getE_12, getE_13, getE_14, getE_15, List.set_cons_zero, List.set_cons_succ, asgT, asgTs, unpk, opUn, obSem, opIsi, bmSem, bkSem, Ev.numsOf, isLst, itemsOf, itemsZ, fillAs, backAs, augOp, E.v, E.q, Es.q, Es.vs, As.q, ownOk, PV.pure, pures, PV.frz, frzs, PV.isN, Bool.and_true, Bool.true_and, Bool.or_true, Bool.true_or, Bool.not_true, Bool.not_false, Bool.false_and, Bool.and_false, Bool.or_false, Bool.false_or, List.length_cons, List.length_nil, List.map_cons, List.map_nil, List.replicate, List.cons_append, List.nil_append, true_and, and_true, if_true, Option.isSome_some, backIo, Ev.op_add, Ev.op_sub, Ev.op_mul, Ev.op_div, Ev.op_mod, Ev.op_pow, Ev.op_and, Ev.op_or, Ev.op_lcat, Ev.op_tcat, cmp_lt, cmp_le, cmp_gt, cmp_ge, cmp_is, cmp_isn, sub_t0, sub_t1, sub_t2, sub_l0, sub_l1, sub_l2, sub_tn, sub_ln, eq_self, decide_true, decide_false, exists_eq_left', wipeE, backE, lenOk_0, lenOk_1, lenOk_2, lenOk_3, lenOk_4, lenOk_5, lenOk_6, Nat.reduceAdd, Nat.reduceLT, Nat.reduceLeDiff, Nat.reduceSub, Nat.reduceEqDiff, ne_eq, not_false_eq_true, not_true_eq_false, decide_eq_true_eq, List.mem_cons, List.not_mem_nil, or_false, false_or, true_or, or_true, if_false, Option.map_some, decide_not, decide_true, decide_false, Nat.lt_irrefl, cmp_eq, cmp_ne, cmp_eqb, cmp_neb, List.any_cons, List.any_nil, reduceCtorEq, beq_self_eq_true, Bool.or_self, plainOwn, List.all_cons, List.all_nil, PV.lst.injEq, mu_append, mu_reverse, mu_pop, List.getElem?_cons_succ, List.getElem?_cons_zero, List.getElem?_nil, Option.bind_some, Option.bind_none, id, L]
  exact ⟨h1.1, h2.1, h3.1⟩
theorem multiply_t (hf : Low f) (hg : Low g) : run (d + 2) 9 [F2 f, F2 g] = .ok (F2 (fr (f.1 * g.1) (f.2 * g.2))) [F2 f, F2 g] := by
  obtain ⟨f1, _, f3, f4⟩ := hf
  obtain ⟨g1, _, g3, g4⟩ := hg
  have h1 := m60 f3 g3
  have h3 := m60 f4 g4
  refine eq_of (w_fn at_multiply rfl ?_)
  have L := fraction_t (d := d) (n := f.1 * g.1) (e := f.2 * g.2) (mne (by omega) (by omega)) (by omega)
  rw [F2_eq f, F2_eq g]
  simp only [f_multiply, ↓reduceIte, ↓w_lit, ↓w_rd, ↓w_vw, ↓w_fz, ↓w_mv, ↓w_bin, ↓w_un, ↓w_cmp, ↓w_sub, ↓w_slc, ↓w_bi, ↓w_isi, ↓w_bm, ↓w_bk, ↓w_frz, ↓w_not, ↓w_ite, ↓w_tup, ↓w_lst, ↓w_mu, ↓w_call, ↓w_lc, ↓w_lc2, ↓w_bop, ↓w_b1, ↓w_b2, ↓w_es0, ↓w_es, ↓w_as0, ↓w_as1, ↓w_as2, ↓w_c0, ↓w_c1, ↓w_seq, ↓w_range1, ↓w_range2, ↓w_enum, ↓w_zip, ↓s_nil, ↓s_one, ↓s_cons, ↓s_set, ↓s_setAt, ↓s_par, ↓s_aug, ↓s_expr, ↓s_ite, ↓s_for, ↓s_ret, ↓s_retN, ↓s_brk, ↓s_cont, ↓s_pass, ↓wpo_some, ↓wp_ok, ↓wpc_ok, ↓wps_nx, ↓wps_rt, ↓wps_bk, ↓wps_ct, ↓wpb_bl, ↓wpi_int, ↓wpo_need, ↓wpo_bind, ↓wpo_map, need_t, getE_0, getE_s, getE_1, getE_2, getE_3, getE_4, getE_5, getE_6, getE_7, getE_8, getE_9, getE_10, getE_11, getE_12, getE_13, getE_14, getE_15, List.set_cons_zero, List.set_cons_succ, asgT, asgTs, unpk, opUn, obSem, opIsi, bmSem, bkSem, Ev.numsOf, isLst, itemsOf, itemsZ, fillAs, backAs, augOp, E.v, E.q, Es.q, Es.vs, As.q, ownOk, PV.pure, pures, PV.frz, frzs, PV.isN, Bool.and_true, Bool.true_and, Bool.or_true, Bool.true_or, Bool.not_true, Bool.not_false, Bool.false_and, Bool.and_false, Bool.or_false, Bool.false_or, List.length_cons, List.length_nil, List.map_cons, List.map_nil, List.replicate, List.cons_append, List.nil_append, true_and, and_true, if_true, Option.isSome_some, backIo, Ev.op_add, Ev.op_sub, Ev.op_mul, Ev.op_div, Ev.op_mod, Ev.op_pow, Ev.op_and, Ev.op_or, Ev.op_lcat, Ev.op_tcat, cmp_lt, cmp_le, cmp_gt, cmp_ge, cmp_is, cmp_isn, sub_t0, sub_t1, sub_t2, sub_l0, sub_l1, sub_l2, sub_tn, sub_ln, eq_self, decide_true, decide_false, exists_eq_left', wipeE, backE, lenOk_0, lenOk_1, lenOk_2, lenOk_3, lenOk_4, lenOk_5, lenOk_6, Nat.reduceAdd, Nat.reduceLT, Nat.reduceLeDiff, Nat.reduceSub, Nat.reduceEqDiff, ne_eq, not_false_eq_true, not_true_eq_false, decide_eq_true_eq, List.mem_cons, List.not_mem_nil, or_false, false_or, true_or, or_true, if_false, Option.map_some, decide_not, decide_true, decide_false, Nat.lt_irrefl, cmp_eq, cmp_ne, cmp_eqb, cmp_neb, List.any_cons, List.any_nil, reduceCtorEq, beq_self_eq_true, Bool.or_self, plainOwn, List.all_cons, List.all_nil, PV.lst.injEq, mu_append, mu_reverse, mu_pop, List.getElem?_cons_succ, List.getElem?_cons_zero, List.getElem?_nil, Option.bind_some, Option.bind_none, id, L]
  exact ⟨h1.1, h3.1⟩
theorem divide_t (hf : Low f) (hg : Low g) (h0 : g.1 ≠ 0) : run (d + 2) 10 [F2 f, F2 g] = .ok (F2 (fr (f.1 * g.2) (f.2 * g.1))) [F2 f, F2 g] := by
  obtain ⟨f1, _, f3, f4⟩ := hf
  obtain ⟨g1, _, g3, g4⟩ := hg
  have h1 := m60 f3 g4
  have h3 := m60 f4 g3
  refine eq_of (w_fn at_divide rfl ?_)
  have L := fraction_t (d := d) (n := f.1 * g.2) (e := f.2 * g.1) (mne (by omega) h0) (by omega)
  rw [F2_eq f, F2_eq g]
  simp only [f_divide, ↓reduceIte, ↓w_lit, ↓w_rd, ↓w_vw, ↓w_fz, ↓w_mv, ↓w_bin, ↓w_un, ↓w_cmp, ↓w_sub, ↓w_slc, ↓w_bi, ↓w_isi, ↓w_bm, ↓w_bk, ↓w_frz, ↓w_not, ↓w_ite, ↓w_tup, ↓w_lst, ↓w_mu, ↓w_call, ↓w_lc, ↓w_lc2, ↓w_bop, ↓w_b1, ↓w_b2, ↓w_es0, ↓w_es, ↓w_as0, ↓w_as1, ↓w_as2, ↓w_c0, ↓w_c1, ↓w_seq, ↓w_range1, ↓w_range2, ↓w_enum, ↓w_zip, ↓s_nil, ↓s_one, ↓s_cons, ↓s_set, ↓s_setAt, ↓s_par, ↓s_aug, ↓s_expr, ↓s_ite, ↓s_for, ↓s_ret, ↓s_retN, ↓s_brk, ↓s_cont, ↓s_pass, ↓wpo_some, ↓wp_ok, ↓wpc_ok, ↓wps_nx, ↓wps_rt, ↓wps_bk, ↓wps_ct, ↓wpb_bl, ↓wpi_int, ↓wpo_need, ↓wpo_bind, ↓wpo_map, need_t, getE_0, getE_s, getE_1, getE_2, getE_3, getE_4, getE_5, getE_6, getE_7, getE_8, getE_9, getE_10, getE_11, getE_12, getE_13, getE_14, getE_15, List.set_cons_zero, List.set_cons_succ, asgT, asgTs, unpk, opUn, obSem, opIsi, bmSem, bkSem, Ev.numsOf, isLst, itemsOf, itemsZ, fillAs, backAs, augOp, E.v, E.q, Es.q, Es.vs, As.q, ownOk, PV.pure, pures, PV.frz, frzs, PV.isN, Bool.and_true, Bool.true_and, Bool.or_true, Bool.true_or, Bool.not_true, Bool.not_false, Bool.false_and, Bool.and_false, Bool.or_false, Bool.false_or, List.length_cons, List.length_nil, List.map_cons, List.map_nil, List.replicate, List.cons_append, List.nil_append, true_and, and_true, if_true, Option.isSome_some, backIo, Ev.op_add, Ev.op_sub, Ev.op_mul, Ev.op_div, Ev.op_mod, Ev.op_pow, Ev.op_and, Ev.op_or, Ev.op_lcat, Ev.op_tcat, cmp_lt, cmp_le, cmp_gt, cmp_ge, cmp_is, cmp_isn, sub_t0, sub_t1, sub_t2, sub_l0, sub_l1, sub_l2, sub_tn, sub_ln, eq_self, decide_true, decide_false, exists_eq_left', wipeE, backE, lenOk_0, lenOk_1, lenOk_2, lenOk_3, lenOk_4, lenOk_5, lenOk_6, Nat.reduceAdd, Nat.reduceLT, Nat.reduceLeDiff, Nat.reduceSub, Nat.reduceEqDiff, ne_eq, not_false_eq_true, not_true_eq_false, decide_eq_true_eq, List.mem_cons, List.not_mem_nil, or_false, false_or, true_or, or_true, if_false, Option.map_some, decide_not, decide_true, decide_false, Nat.lt_irrefl, cmp_eq, cmp_ne, cmp_eqb, cmp_neb, List.any_cons, List.any_nil, reduceCtorEq, beq_self_eq_true, Bool.or_self, plainOwn, List.all_cons, List.all_nil, PV.lst.injEq, mu_append, mu_reverse, mu_pop, List.getElem?_cons_succ, List.getElem?_cons_zero, List.getElem?_nil, Option.bind_some, Option.bind_none, id, L]
  exact ⟨h1.1, h3.1⟩
theorem plus_t (hf : Low f) (hg : Low g) : run (d + 3) 23 [F2 f, F2 g] = .ok (F2 (fr (f.1 * g.2 + g.1 * f.2) (f.2 * g.2))) [F2 f, F2 g] := by
  obtain ⟨f1, _, f3, f4⟩ := hf
  obtain ⟨g1, _, g3, g4⟩ := hg
  have h1 := m60 f3 g4
  have h2 := m60 g3 f4
  have h3 := m60 f4 g4
  refine eq_of (w_fn at_law_plus rfl ?_)
  have L := lawfrac_t (d := d) (n := f.1 * g.2 + g.1 * f.2) (e := f.2 * g.2) (mne (by omega) (by omega)) (by omega) (by omega)
  rw [F2_eq f, F2_eq g]
  simp only [f_law_plus, ↓reduceIte, ↓w_lit, ↓w_rd, ↓w_vw, ↓w_fz, ↓w_mv, ↓w_bin, ↓w_un, ↓w_cmp, ↓w_sub, ↓w_slc, ↓w_bi, ↓w_isi, ↓w_bm, ↓w_bk, ↓w_frz, ↓w_not, ↓w_ite, ↓w_tup, ↓w_lst, ↓w_mu, ↓w_call, ↓w_lc, ↓w_lc2, ↓w_bop, ↓w_b1, ↓w_b2, ↓w_es0, ↓w_es, ↓w_as0, ↓w_as1, ↓w_as2, ↓w_c0, ↓w_c1, ↓w_seq, ↓w_range1, ↓w_range2, ↓w_enum, ↓w_zip, ↓s_nil, ↓s_one, ↓s_cons, ↓s_set, ↓s_setAt, ↓s_par, ↓s_aug, ↓s_expr, ↓s_ite, ↓s_for, ↓s_ret, ↓s_retN, ↓s_brk, ↓s_cont, ↓s_pass, ↓wpo_some, ↓wp_ok, ↓wpc_ok, ↓wps_nx, ↓wps_rt, ↓wps_bk, ↓wps_ct, ↓wpb_bl, ↓wpi_int, ↓wpo_need, ↓wpo_bind, ↓wpo_map, need_t, getE_0, getE_s, getE_1, getE_2, getE_3, getE_4, getE_5, getE_6, getE_7, getE_8, getE_9, getE_10, getE_11, getE_12, getE_13, getE_14, getE_15, List.set_cons_zero, List.set_cons_succ, asgT, asgTs, unpk, opUn, obSem, opIsi, bmSem, bkSem, Ev.numsOf, isLst, itemsOf, itemsZ, fillAs, backAs, augOp, E.v, E.q, Es.q, Es.vs, As.q, ownOk, PV.pure, pures, PV.frz, frzs, PV.isN, Bool.and_true, Bool.true_and, Bool.or_true, Bool.true_or, Bool.not_true, Bool.not_false, Bool.false_and, Bool.and_false, Bool.or_false, Bool.false_or, List.length_cons, List.length_nil, List.map_cons, List.map_nil, List.replicate, List.cons_append, List.nil_append, true_and, and_true, if_true, Option.isSome_some, backIo, Ev.op_add, Ev.op_sub, Ev.op_mul, Ev.op_div, Ev.op_mod, Ev.op_pow, Ev.op_and, Ev.op_or, Ev.op_lcat, Ev.op_tcat, cmp_lt, cmp_le, cmp_gt, cmp_ge, cmp_is, cmp_isn, sub_t0, sub_t1, sub_t2, sub_l0, sub_l1, sub_l2, sub_tn, sub_ln, eq_self, decide_true, decide_false, exists_eq_left', wipeE, backE, lenOk_0, lenOk_1, lenOk_2, lenOk_3, lenOk_4, lenOk_5, lenOk_6, Nat.reduceAdd, Nat.reduceLT, Nat.reduceLeDiff, Nat.reduceSub, Nat.reduceEqDiff, ne_eq, not_false_eq_true, not_true_eq_false, decide_eq_true_eq, List.mem_cons, List.not_mem_nil, or_false, false_or, true_or, or_true, if_false, Option.map_some, decide_not, decide_true, decide_false, Nat.lt_irrefl, cmp_eq, cmp_ne, cmp_eqb, cmp_neb, List.any_cons, List.any_nil, reduceCtorEq, beq_self_eq_true, Bool.or_self, plainOwn, List.all_cons, List.all_nil, PV.lst.injEq, mu_append, mu_reverse, mu_pop, List.getElem?_cons_succ, List.getElem?_cons_zero, List.getElem?_nil, Option.bind_some, Option.bind_none, id, L]
  exact ⟨h1.1, h2.1, h3.1⟩
theorem minus_t (hf : Low f) (hg : Low g) : run (d + 3) 24 [F2 f, F2 g] = .ok (F2 (fr (f.1 * g.2 - g.1 * f.2) (f.2 * g.2))) [F2 f, F2 g] := by
  obtain ⟨f1, _, f3, f4⟩ := hf
  obtain ⟨g1, _, g3, g4⟩ := hg
  have h1 := m60 f3 g4
  have h2 := m60 g3 f4
  have h3 := m60 f4 g4
  refine eq_of (w_fn at_law_minus rfl ?_)
  have L := lawfrac_t (d := d) (n := f.1 * g.2 - g.1 * f.2) (e := f.2 * g.2) (mne (by omega) (by omega)) (by omega) (by omega)
  rw [F2_eq f, F2_eq g]
  simp only [f_law_minus, ↓reduceIte, ↓w_lit, ↓w_rd, ↓w_vw, ↓w_fz, ↓w_mv, ↓w_bin, ↓w_un, ↓w_cmp, ↓w_sub, ↓w_slc, ↓w_bi, ↓w_isi, ↓w_bm, ↓w_bk, ↓w_frz, ↓w_not, ↓w_ite, ↓w_tup, ↓w_lst, ↓w_mu, ↓w_call, ↓w_lc, ↓w_lc2, ↓w_bop, ↓w_b1, ↓w_b2, ↓w_es0, ↓w_es, ↓w_as0, ↓w_as1, ↓w_as2, ↓w_c0, ↓w_c1, ↓w_seq, ↓w_range1, ↓w_range2, ↓w_enum, ↓w_zip, ↓s_nil, ↓s_one, ↓s_cons, ↓s_set, ↓s_setAt, ↓s_par, ↓s_aug, ↓s_expr, ↓s_ite, ↓s_for, ↓s_ret, ↓s_retN, ↓s_brk, ↓s_cont, ↓s_pass, ↓wpo_some, ↓wp_ok, ↓wpc_ok, ↓wps_nx, ↓wps_rt, ↓wps_bk, ↓wps_ct, ↓wpb_bl, ↓wpi_int, ↓wpo_need, ↓wpo_bind, ↓wpo_map, need_t, getE_0, getE_s, getE_1, getE_2, getE_3, getE_4, getE_5, getE_6, getE_7, getE_8, getE_9, getE_10, getE_11, getE_12, getE_13, getE_14, getE_15, List.set_cons_zero, List.set_cons_succ, asgT, asgTs, unpk, opUn, obSem, opIsi, bmSem, bkSem, Ev.numsOf, isLst, itemsOf, itemsZ, fillAs, backAs, augOp, E.v, E.q, Es.q, Es.vs, As.q, ownOk, PV.pure, pures, PV.frz, frzs, PV.isN, Bool.and_true, Bool.true_and, Bool.or_true, Bool.true_or, Bool.not_true, Bool.not_false, Bool.false_and, Bool.and_false, Bool.or_false, Bool.false_or, List.length_cons, List.length_nil, List.map_cons, List.map_nil, List.replicate, List.cons_append, List.nil_append, true_and, and_true, if_true, Option.isSome_some, backIo, Ev.op_add, Ev.op_sub, Ev.op_mul, Ev.op_div, Ev.op_mod, Ev.op_pow, Ev.op_and, Ev.op_or, Ev.op_lcat, Ev.op_tcat, cmp_lt, cmp_le, cmp_gt, cmp_ge, cmp_is, cmp_isn, sub_t0, sub_t1, sub_t2, sub_l0, sub_l1, sub_l2, sub_tn, sub_ln, eq_self, decide_true, decide_false, exists_eq_left', wipeE, backE, lenOk_0, lenOk_1, lenOk_2, lenOk_3, lenOk_4, lenOk_5, lenOk_6, Nat.reduceAdd, Nat.reduceLT, Nat.reduceLeDiff, Nat.reduceSub, Nat.reduceEqDiff, ne_eq, not_false_eq_true, not_true_eq_false, decide_eq_true_eq, List.mem_cons, List.not_mem_nil, or_false, false_or, true_or, or_true, if_false, Option.map_some, decide_not, decide_true, decide_false, Nat.lt_irrefl, cmp_eq, cmp_ne, cmp_eqb, cmp_neb, List.any_cons, List.any_nil, reduceCtorEq, beq_self_eq_true, Bool.or_self, plainOwn, List.all_cons, List.all_nil, PV.lst.injEq, mu_append, mu_reverse, mu_pop, List.getElem?_cons_succ, List.getElem?_cons_zero, List.getElem?_nil, Option.bind_some, Option.bind_none, id, L]
  exact ⟨h1.1, h2.1, h3.1⟩
theorem product_t (hf : Low f) (hg : Low g) : run (d + 3) 25 [F2 f, F2 g] = .ok (F2 (fr (f.1 * g.1) (f.2 * g.2))) [F2 f, F2 g] := by
  obtain ⟨f1, _, f3, f4⟩ := hf
  obtain ⟨g1, _, g3, g4⟩ := hg
  have h1 := m60 f3 g3
  have h3 := m60 f4 g4
  refine eq_of (w_fn at_law_product rfl ?_)
  have L := lawfrac_t (d := d) (n := f.1 * g.1) (e := f.2 * g.2) (mne (by omega) (by omega)) (by omega) (by omega)
  rw [F2_eq f, F2_eq g]
  simp only [f_law_product, ↓reduceIte, ↓w_lit, ↓w_rd, ↓w_vw, ↓w_fz, ↓w_mv, ↓w_bin, ↓w_un, ↓w_cmp, ↓w_sub, ↓w_slc, ↓w_bi, ↓w_isi, ↓w_bm, ↓w_bk, ↓w_frz, ↓w_not, ↓w_ite, ↓w_tup, ↓w_lst, ↓w_mu, ↓w_call, ↓w_lc, ↓w_lc2, ↓w_bop, ↓w_b1, ↓w_b2, ↓w_es0, ↓w_es, ↓w_as0, ↓w_as1, ↓w_as2, ↓w_c0, ↓w_c1, ↓w_seq, ↓w_range1, ↓w_range2, ↓w_enum, ↓w_zip, ↓s_nil, ↓s_one, ↓s_cons, ↓s_set, ↓s_setAt, ↓s_par, ↓s_aug, ↓s_expr, ↓s_ite, ↓s_for, ↓s_ret, ↓s_retN, ↓s_brk, ↓s_cont, ↓s_pass, ↓wpo_some, ↓wp_ok, ↓wpc_ok, ↓wps_nx, ↓wps_rt, ↓wps_bk, ↓wps_ct, ↓wpb_bl, ↓wpi_int, ↓wpo_need, ↓wpo_bind, ↓wpo_map, need_t, getE_0, getE_s, getE_1, getE_2, getE_3, getE_4, getE_5, getE_6, getE_7, getE_8, getE_9, getE_10, getE_11, getE_12, getE_13, getE_14, getE_15, List.set_cons_zero, List.set_cons_succ, asgT, asgTs, unpk, opUn, obSem, opIsi, bmSem, bkSem, Ev.numsOf, isLst, itemsOf, itemsZ, fillAs, backAs, augOp, E.v, E.q, Es.q, Es.vs, As.q, ownOk, PV.pure, pures, PV.frz, frzs, PV.isN, Bool.and_true, Bool.true_and, Bool.or_true, Bool.true_or, Bool.not_true, Bool.not_false, Bool.false_and, Bool.and_false, Bool.or_false, Bool.false_or, List.length_cons, List.length_nil, List.map_cons, List.map_nil, List.replicate, List.cons_append, List.nil_append, true_and, and_true, if_true, Option.isSome_some, backIo, Ev.op_add, Ev.op_sub, Ev.op_mul, Ev.op_div, Ev.op_mod, Ev.op_pow, Ev.op_and, Ev.op_or, Ev.op_lcat, Ev.op_tcat, cmp_lt, cmp_le, cmp_gt, cmp_ge, cmp_is, cmp_isn, sub_t0, sub_t1, sub_t2, sub_l0, sub_l1, sub_l2, sub_tn, sub_ln, eq_self, decide_true, decide_false, exists_eq_left', wipeE, backE, lenOk_0, lenOk_1, lenOk_2, lenOk_3, lenOk_4, lenOk_5, lenOk_6, Nat.reduceAdd, Nat.reduceLT, Nat.reduceLeDiff, Nat.reduceSub, Nat.reduceEqDiff, ne_eq, not_false_eq_true, not_true_eq_false, decide_eq_true_eq, List.mem_cons, List.not_mem_nil, or_false, false_or, true_or, or_true, if_false, Option.map_some, decide_not, decide_true, decide_false, Nat.lt_irrefl, cmp_eq, cmp_ne, cmp_eqb, cmp_neb, List.any_cons, List.any_nil, reduceCtorEq, beq_self_eq_true, Bool.or_self, plainOwn, List.all_cons, List.all_nil, PV.lst.injEq, mu_append, mu_reverse, mu_pop, List.getElem?_cons_succ, List.getElem?_cons_zero, List.getElem?_nil, Option.bind_some, Option.bind_none, id, L]
  exact ⟨h1.1, h3.1⟩
theorem quotient_t (hf : Low f) (hg : Low g) (h0 : g.1 ≠ 0) : run (d + 3) 26 [F2 f, F2 g] = .ok (F2 (fr (f.1 * g.2) (f.2 * g.1))) [F2 f, F2 g] := by
  obtain ⟨f1, _, f3, f4⟩ := hf
  obtain ⟨g1, _, g3, g4⟩ := hg
  have h1 := m60 f3 g4
  have h3 := m60 f4 g3
  refine eq_of (w_fn at_law_quotient rfl ?_)
  have L := lawfrac_t (d := d) (n := f.1 * g.2) (e := f.2 * g.1) (mne (by omega) h0) (by omega) (by omega)
  rw [F2_eq f, F2_eq g]
  simp only [f_law_quotient, ↓reduceIte, ↓w_lit, ↓w_rd, ↓w_vw, ↓w_fz, ↓w_mv, ↓w_bin, ↓w_un, ↓w_cmp, ↓w_sub, ↓w_slc, ↓w_bi, ↓w_isi, ↓w_bm, ↓w_bk, ↓w_frz, ↓w_not, ↓w_ite, ↓w_tup, ↓w_lst, ↓w_mu, ↓w_call, ↓w_lc, ↓w_lc2, ↓w_bop, ↓w_b1, ↓w_b2, ↓w_es0, ↓w_es, ↓w_as0, ↓w_as1, ↓w_as2, ↓w_c0, ↓w_c1, ↓w_seq, ↓w_range1, ↓w_range2, ↓w_enum, ↓w_zip, ↓s_nil, ↓s_one, ↓s_cons, ↓s_set, ↓s_setAt, ↓s_par, ↓s_aug, ↓s_expr, ↓s_ite, ↓s_for, ↓s_ret, ↓s_retN, ↓s_brk, ↓s_cont, ↓s_pass, ↓wpo_some, ↓wp_ok, ↓wpc_ok, ↓wps_nx, ↓wps_rt, ↓wps_bk, ↓wps_ct, ↓wpb_bl, ↓wpi_int, ↓wpo_need, ↓wpo_bind, ↓wpo_map, need_t, getE_0, getE_s, getE_1, getE_2, getE_3, getE_4, getE_5, getE_6, getE_7, getE_8, getE_9, getE_10, getE_11, getE_12, getE_13, getE_14, getE_15, List.set_cons_zero, List.set_cons_succ, asgT, asgTs, unpk, opUn, obSem, opIsi, bmSem, bkSem, Ev.numsOf, isLst, itemsOf, itemsZ, fillAs, backAs, augOp, E.v, E.q, Es.q, Es.vs, As.q, ownOk, PV.pure, pures, PV.frz, frzs, PV.isN, Bool.and_true, Bool.true_and, Bool.or_true, Bool.true_or, Bool.not_true, Bool.not_false, Bool.false_and, Bool.and_false, Bool.or_false, Bool.false_or, List.length_cons, List.length_nil, List.map_cons, List.map_nil, List.replicate, List.cons_append, List.nil_append, true_and, and_true, if_true, Option.isSome_some, backIo, Ev.op_add, Ev.op_sub, Ev.op_mul, Ev.op_div, Ev.op_mod, Ev.op_pow, Ev.op_and, Ev.op_or, Ev.op_lcat, Ev.op_tcat, cmp_lt, cmp_le, cmp_gt, cmp_ge, cmp_is, cmp_isn, sub_t0, sub_t1, sub_t2, sub_l0, sub_l1, sub_l2, sub_tn, sub_ln, eq_self, decide_true, decide_false, exists_eq_left', wipeE, backE, lenOk_0, lenOk_1, lenOk_2, lenOk_3, lenOk_4, lenOk_5, lenOk_6, Nat.reduceAdd, Nat.reduceLT, Nat.reduceLeDiff, Nat.reduceSub, Nat.reduceEqDiff, ne_eq, not_false_eq_true, not_true_eq_false, decide_eq_true_eq, List.mem_cons, List.not_mem_nil, or_false, false_or, true_or, or_true, if_false, Option.map_some, decide_not, decide_true, decide_false, Nat.lt_irrefl, cmp_eq, cmp_ne, cmp_eqb, cmp_neb, List.any_cons, List.any_nil, reduceCtorEq, beq_self_eq_true, Bool.or_self, plainOwn, List.all_cons, List.all_nil, PV.lst.injEq, mu_append, mu_reverse, mu_pop, List.getElem?_cons_succ, List.getElem?_cons_zero, List.getElem?_nil, Option.bind_some, Option.bind_none, id, L]
  exact ⟨h1.1, h3.1⟩
def sg (a b : Int) : Int := if a = b then 0 else if a < b then -1 else 1
theorem compare_t (hf : Low f) (hg : Low g) : run (d + 1) 11 [F2 f, F2 g] = .ok (.int (sg (f.1 * g.2) (g.1 * f.2))) [F2 f, F2 g] := by
  obtain ⟨f1, _, f3, f4⟩ := hf
  obtain ⟨g1, _, g3, g4⟩ := hg
  refine eq_of (w_fn at_compare_fractions rfl ?_)
  rw [F2_eq f, F2_eq g]
  simp only [f_compare_fractions, ↓reduceIte, ↓w_lit, ↓w_rd, ↓w_vw, ↓w_fz, ↓w_mv, ↓w_bin, ↓w_un, ↓w_cmp, ↓w_sub, ↓w_slc, ↓w_bi, ↓w_isi, ↓w_bm, ↓w_bk, ↓w_frz, ↓w_not, ↓w_ite, ↓w_tup, ↓w_lst, ↓w_mu, ↓w_call, ↓w_lc, ↓w_lc2, ↓w_bop, ↓w_b1, ↓w_b2, ↓w_es0, ↓w_es, ↓w_as0, ↓w_as1, ↓w_as2, ↓w_c0, ↓w_c1, ↓w_seq, ↓w_range1, ↓w_range2, ↓w_enum, ↓w_zip, ↓s_nil, ↓s_one, ↓s_cons, ↓s_set, ↓s_setAt, ↓s_par, ↓s_aug, ↓s_expr, ↓s_ite, ↓s_for, ↓s_ret, ↓s_retN, ↓s_brk, ↓s_cont, ↓s_pass, ↓wpo_some, ↓wp_ok, ↓wpc_ok, ↓wps_nx, ↓wps_rt, ↓wps_bk, ↓wps_ct, ↓wpb_bl, ↓wpi_int, ↓wpo_need, ↓wpo_bind, ↓wpo_map, need_t, getE_0, getE_s, getE_1, getE_2, getE_3, getE_4, getE_5, getE_6, getE_7, getE_8, getE_9, getE_10, getE_11, getE_12, getE_13, getE_14, getE_15, List.set_cons_zero, List.set_cons_succ, asgT, asgTs, unpk, opUn, obSem, opIsi, bmSem, bkSem, Ev.numsOf, isLst, itemsOf, itemsZ, fillAs, backAs, augOp, E.v, E.q, Es.q, Es.vs, As.q, ownOk, PV.pure, pures, PV.frz, frzs, PV.isN, Bool.and_true, Bool.true_and, Bool.or_true, Bool.true_or, Bool.not_true, Bool.not_false, Bool.false_and, Bool.and_false, Bool.or_false, Bool.false_or, List.length_cons, List.length_nil, List.map_cons, List.map_nil, List.replicate, List.cons_append, List.nil_append, true_and, and_true, if_true, Option.isSome_some, backIo, Ev.op_add, Ev.op_sub, Ev.op_mul, Ev.op_div, Ev.op_mod, Ev.op_pow, Ev.op_and, Ev.op_or, Ev.op_lcat, Ev.op_tcat, cmp_lt, cmp_le, cmp_gt, cmp_ge, cmp_is, cmp_isn, sub_t0, sub_t1, sub_t2, sub_l0, sub_l1, sub_l2, sub_tn, sub_ln, eq_self, decide_true, decide_false, exists_eq_left', wipeE, backE, lenOk_0, lenOk_1, lenOk_2, lenOk_3, lenOk_4, lenOk_5, lenOk_6, Nat.reduceAdd, Nat.reduceLT, Nat.reduceLeDiff, Nat.reduceSub, Nat.reduceEqDiff, ne_eq, not_false_eq_true, not_true_eq_false, decide_eq_true_eq, List.mem_cons, List.not_mem_nil, or_false, false_or, true_or, or_true, if_false, Option.map_some, decide_not, decide_true, decide_false, Nat.lt_irrefl, cmp_eq, cmp_ne, cmp_eqb, cmp_neb, List.any_cons, List.any_nil, reduceCtorEq, beq_self_eq_true, Bool.or_self, plainOwn, List.all_cons, List.all_nil, PV.lst.injEq, mu_append, mu_reverse, mu_pop, List.getElem?_cons_succ, List.getElem?_cons_zero, List.getElem?_nil, Option.bind_some, Option.bind_none, id]
  refine ⟨(m60 f3 g4).1, (m60 g3 f4).1, ?_⟩
  unfold sg
  refine if_c _ (fun z => ?_) fun z => ?_
  · rw [if_pos z]
  · rw [if_neg z]
    refine if_c _ (fun y => ?_) fun y => ?_
    · rw [if_pos y]
    · rw [if_neg y]
end
def halfBody : Ss := match f_law_second_half.body with
  | .cons _ (.cons (.for _ _ b) _) => b
  | _ => .nil
theorem half_step {d : Nat} {ns : List Int} {D : PV} {i : Nat} {x2 x3 x4 x5 x6 : Option PV} {T : PV → Ev.Env → Prop} {B : Ev.Env → Prop} (hD : Dr D) :
    wpo (asgT (.nm 2) (.int (i : Int)) [some (.scr ns), some D, x2, x3, x4, x5, x6]) fun ρ1 => wps (evSs gl (run (d + 5)) 100000 halfBody ρ1)
      ⟨fun ρ => ∃ D' x2 x3 x4 x5 x6, ρ = [some (.scr ns), some D', x2, x3, x4, x5, x6] ∧ Dr D', T, B, fun ρ => ∃ D' x2 x3 x4 x5 x6, ρ = [some (.scr ns), some D', x2, x3, x4, x5, x6] ∧ Dr D'⟩ := by
  simp only [halfBody, f_law_second_half, ↓reduceIte, ↓w_lit, ↓w_rd, ↓w_vw, ↓w_fz, ↓w_mv, ↓w_bin, ↓w_un, ↓w_cmp, ↓w_sub, ↓w_slc, ↓w_bi, ↓w_isi, ↓w_bm, ↓w_bk, ↓w_frz, ↓w_not, ↓w_ite, ↓w_tup, ↓w_lst, ↓w_mu, ↓w_call, ↓w_lc, ↓w_lc2, ↓w_bop, ↓w_b1, ↓w_b2, ↓w_es0, ↓w_es, ↓w_as0, ↓w_as1, ↓w_as2, ↓w_c0, ↓w_c1, ↓w_seq, ↓w_range1, ↓w_range2, ↓w_enum, ↓w_zip, ↓s_nil, ↓s_one, ↓s_consN, ↓seqN_app, ↓s_set, ↓s_setAt, ↓s_par, ↓s_aug, ↓s_expr, ↓s_ite, ↓s_for, ↓s_ret, ↓s_retN, ↓s_brk, ↓s_cont, ↓s_pass, ↓wpo_some, ↓wp_ok, ↓wpc_ok, ↓wps_nx, ↓wps_rt, ↓wps_bk, ↓wps_ct, ↓wpb_bl, ↓wpi_int, ↓wpo_need, ↓wpo_bind, ↓wpo_map, need_t, getE_0, getE_s, getE_1, getE_2, getE_3, getE_4, getE_5, getE_6, getE_7, getE_8, getE_9, getE_10, getE_11, getE_12, getE_13, getE_14, getE_15, List.set_cons_zero, List.set_cons_succ, asgT, asgTs, unpk, opUn, obSem, opIsi, bmSem, bkSem, Ev.numsOf, isLst, itemsOf, itemsZ, fillAs, backAs, augOp, E.v, E.q, Es.q, Es.vs, As.q, ownOk, PV.pure, pures, PV.frz, frzs, PV.isN, Bool.and_true, Bool.true_and, Bool.or_true, Bool.true_or, Bool.not_true, Bool.not_false, Bool.false_and, Bool.and_false, Bool.or_false, Bool.false_or, List.length_cons, List.length_nil, List.map_cons, List.map_nil, List.replicate, List.cons_append, List.nil_append, true_and, and_true, if_true, Option.isSome_some, backIo, Ev.op_add, Ev.op_sub, Ev.op_mul, Ev.op_div, Ev.op_mod, Ev.op_pow, Ev.op_and, Ev.op_or, Ev.op_lcat, Ev.op_tcat, cmp_lt, cmp_le, cmp_gt, cmp_ge, cmp_is, cmp_isn, sub_t0, sub_t1, sub_t2, sub_l0, sub_l1, sub_l2, sub_tn, sub_ln, eq_self, decide_true, decide_false, exists_eq_left', wipeE, backE, lenOk_0, lenOk_1, lenOk_2, lenOk_3, lenOk_4, lenOk_5, lenOk_6, Nat.reduceAdd, Nat.reduceLT, Nat.reduceLeDiff, Nat.reduceSub, Nat.reduceEqDiff, ne_eq, not_false_eq_true, not_true_eq_false, decide_eq_true_eq, List.mem_cons, List.not_mem_nil, or_false, false_or, true_or, or_true, if_false, Option.map_some, decide_not, decide_true, decide_false, Nat.lt_irrefl, cmp_eq, cmp_ne, cmp_eqb, cmp_neb, List.any_cons, List.any_nil, reduceCtorEq, beq_self_eq_true, Bool.or_self, plainOwn, List.all_cons, List.all_nil, PV.lst.injEq, mu_append, mu_reverse, mu_pop, List.getElem?_cons_succ, List.getElem?_cons_zero, List.getElem?_nil, Option.bind_some, Option.bind_none, id]
  refine wpc_mono (drawnfrac_t hD) ?_
  rintro p l ⟨f, D1, rfl, rfl, hD1, hf⟩
  simp only [F2_eq, ↓reduceIte, ↓w_lit, ↓w_rd, ↓w_vw, ↓w_fz, ↓w_mv, ↓w_bin, ↓w_un, ↓w_cmp, ↓w_sub, ↓w_slc, ↓w_bi, ↓w_isi, ↓w_bm, ↓w_bk, ↓w_frz, ↓w_not, ↓w_ite, ↓w_tup, ↓w_lst, ↓w_mu, ↓w_call, ↓w_lc, ↓w_lc2, ↓w_bop, ↓w_b1, ↓w_b2, ↓w_es0, ↓w_es, ↓w_as0, ↓w_as1, ↓w_as2, ↓w_c0, ↓w_c1, ↓w_seq, ↓w_range1, ↓w_range2, ↓w_enum, ↓w_zip, ↓s_nil, ↓s_one, ↓s_consN, ↓seqN_app, ↓s_set, ↓s_setAt, ↓s_par, ↓s_aug, ↓s_expr, ↓s_ite, ↓s_for, ↓s_ret, ↓s_retN, ↓s_brk, ↓s_cont, ↓s_pass, ↓wpo_some, ↓wp_ok, ↓wpc_ok, ↓wps_nx, ↓wps_rt, ↓wps_bk, ↓wps_ct, ↓wpb_bl, ↓wpi_int, ↓wpo_need, ↓wpo_bind, ↓wpo_map, need_t, getE_0, getE_s, getE_1, getE_2, getE_3, getE_4, getE_5, getE_6, getE_7, getE_8, getE_9, getE_10, getE_11, getE_12, getE_13, getE_14, getE_15, List.set_cons_zero, List.set_cons_succ, asgT, asgTs, unpk, opUn, obSem, opIsi, bmSem, bkSem, Ev.numsOf, isLst, itemsOf, itemsZ, fillAs, backAs, augOp, E.v, E.q, Es.q, Es.vs, As.q, ownOk, PV.pure, pures, PV.frz, frzs, PV.isN, Bool.and_true, Bool.true_and, Bool.or_true, Bool.true_or, Bool.not_true, Bool.not_false, Bool.false_and, Bool.and_false, Bool.or_false, Bool.false_or, List.length_cons, List.length_nil, List.map_cons, List.map_nil, List.replicate, List.cons_append, List.nil_append, true_and, and_true, if_true, Option.isSome_some, backIo, Ev.op_add, Ev.op_sub, Ev.op_mul, Ev.op_div, Ev.op_mod, Ev.op_pow, Ev.op_and, Ev.op_or, Ev.op_lcat, Ev.op_tcat, cmp_lt, cmp_le, cmp_gt, cmp_ge, cmp_is, cmp_isn, sub_t0, sub_t1, sub_t2, sub_l0, sub_l1, sub_l2, sub_tn, sub_ln, eq_self, decide_true, decide_false, exists_eq_left', wipeE, backE, lenOk_0, lenOk_1, lenOk_2, lenOk_3, lenOk_4, lenOk_5, lenOk_6, Nat.reduceAdd, Nat.reduceLT, Nat.reduceLeDiff, Nat.reduceSub, Nat.reduceEqDiff, ne_eq, not_false_eq_true, not_true_eq_false, decide_eq_true_eq, List.mem_cons, List.not_mem_nil, or_false, false_or, true_or, or_true, if_false, Option.map_some, decide_not, decide_true, decide_false, Nat.lt_irrefl, cmp_eq, cmp_ne, cmp_eqb, cmp_neb, List.any_cons, List.any_nil, reduceCtorEq, beq_self_eq_true, Bool.or_self, plainOwn, List.all_cons, List.all_nil, PV.lst.injEq, mu_append, mu_reverse, mu_pop, List.getElem?_cons_succ, List.getElem?_cons_zero, List.getElem?_nil, Option.bind_some, Option.bind_none, id]
  refine wpc_mono (drawnfrac_t hD1) ?_
  rintro p l ⟨g0, D2, rfl, rfl, hD2, hg0⟩
  simp only [F2_eq, ↓reduceIte, ↓w_lit, ↓w_rd, ↓w_vw, ↓w_fz, ↓w_mv, ↓w_bin, ↓w_un, ↓w_cmp, ↓w_sub, ↓w_slc, ↓w_bi, ↓w_isi, ↓w_bm, ↓w_bk, ↓w_frz, ↓w_not, ↓w_ite, ↓w_tup, ↓w_lst, ↓w_mu, ↓w_call, ↓w_lc, ↓w_lc2, ↓w_bop, ↓w_b1, ↓w_b2, ↓w_es0, ↓w_es, ↓w_as0, ↓w_as1, ↓w_as2, ↓w_c0, ↓w_c1, ↓w_seq, ↓w_range1, ↓w_range2, ↓w_enum, ↓w_zip, ↓s_nil, ↓s_one, ↓s_consN, ↓seqN_app, ↓s_set, ↓s_setAt, ↓s_par, ↓s_aug, ↓s_expr, ↓s_ite, ↓s_for, ↓s_ret, ↓s_retN, ↓s_brk, ↓s_cont, ↓s_pass, ↓wpo_some, ↓wp_ok, ↓wpc_ok, ↓wps_nx, ↓wps_rt, ↓wps_bk, ↓wps_ct, ↓wpb_bl, ↓wpi_int, ↓wpo_need, ↓wpo_bind, ↓wpo_map, need_t, getE_0, getE_s, getE_1, getE_2, getE_3, getE_4, getE_5, getE_6, getE_7, getE_8, getE_9, getE_10, getE_11, getE_12, getE_13, getE_14, getE_15, List.set_cons_zero, List.set_cons_succ, asgT, asgTs, unpk, opUn, obSem, opIsi, bmSem, bkSem, Ev.numsOf, isLst, itemsOf, itemsZ, fillAs, backAs, augOp, E.v, E.q, Es.q, Es.vs, As.q, ownOk, PV.pure, pures, PV.frz, frzs, PV.isN, Bool.and_true, Bool.true_and, Bool.or_true, Bool.true_or, Bool.not_true, Bool.not_false, Bool.false_and, Bool.and_false, Bool.or_false, Bool.false_or, List.length_cons, List.length_nil, List.map_cons, List.map_nil, List.replicate, List.cons_append, List.nil_append, true_and, and_true, if_true, Option.isSome_some, backIo, Ev.op_add, Ev.op_sub, Ev.op_mul, Ev.op_div, Ev.op_mod, Ev.op_pow, Ev.op_and, Ev.op_or, Ev.op_lcat, Ev.op_tcat, cmp_lt, cmp_le, cmp_gt, cmp_ge, cmp_is, cmp_isn, sub_t0, sub_t1, sub_t2, sub_l0, sub_l1, sub_l2, sub_tn, sub_ln, eq_self, decide_true, decide_false, exists_eq_left', wipeE, backE, lenOk_0, lenOk_1, lenOk_2, lenOk_3, lenOk_4, lenOk_5, lenOk_6, Nat.reduceAdd, Nat.reduceLT, Nat.reduceLeDiff, Nat.reduceSub, Nat.reduceEqDiff, ne_eq, not_false_eq_true, not_true_eq_false, decide_eq_true_eq, List.mem_cons, List.not_mem_nil, or_false, false_or, true_or, or_true, if_false, Option.map_some, decide_not, decide_true, decide_false, Nat.lt_irrefl, cmp_eq, cmp_ne, cmp_eqb, cmp_neb, List.any_cons, List.any_nil, reduceCtorEq, beq_self_eq_true, Bool.or_self, plainOwn, List.all_cons, List.all_nil, PV.lst.injEq, mu_append, mu_reverse, mu_pop, List.getElem?_cons_succ, List.getElem?_cons_zero, List.getElem?_nil, Option.bind_some, Option.bind_none, id]
  refine wpc_mono (pick_t hD2 (by decide) rfl) ?_
  rintro p l ⟨D3, hp, rfl, hD3⟩
  have hg : ∃ g : Int × Int, Low g ∧ opSub [.lst true [.tup [.int g0.1, .int g0.2], .tup [.int f.1, .int f.2], .tup [.int (0 - f.1), .int f.2]], p] = some (.tup [.int g.1, .int g.2]) := by
    simp at hp
    rcases hp with e | e | e
    · exact ⟨g0, hg0, by rw [e]; rfl⟩
    · exact ⟨f, hf, by rw [e]; rfl⟩
    · exact ⟨_, low_neg hf, by rw [e]; rfl⟩
  obtain ⟨g, hg, eg⟩ := hg
  simp only [eg, ↓reduceIte, ↓w_lit, ↓w_rd, ↓w_vw, ↓w_fz, ↓w_mv, ↓w_bin, ↓w_un, ↓w_cmp, ↓w_sub, ↓w_slc, ↓w_bi, ↓w_isi, ↓w_bm, ↓w_bk, ↓w_frz, ↓w_not, ↓w_ite, ↓w_tup, ↓w_lst, ↓w_mu, ↓w_call, ↓w_lc, ↓w_lc2, ↓w_bop, ↓w_b1, ↓w_b2, ↓w_es0, ↓w_es, ↓w_as0, ↓w_as1, ↓w_as2, ↓w_c0, ↓w_c1, ↓w_seq, ↓w_range1, ↓w_range2, ↓w_enum, ↓w_zip, ↓s_nil, ↓s_one, ↓s_consN, ↓seqN_app, ↓s_set, ↓s_setAt, ↓s_par, ↓s_aug, ↓s_expr, ↓s_ite, ↓s_for, ↓s_ret, ↓s_retN, ↓s_brk, ↓s_cont, ↓s_pass, ↓wpo_some, ↓wp_ok, ↓wpc_ok, ↓wps_nx, ↓wps_rt, ↓wps_bk, ↓wps_ct, ↓wpb_bl, ↓wpi_int, ↓wpo_need, ↓wpo_bind, ↓wpo_map, need_t, getE_0, getE_s, getE_1, getE_2, getE_3, getE_4, getE_5, getE_6, getE_7, getE_8, getE_9, getE_10, getE_11, getE_12, getE_13, getE_14, getE_15, List.set_cons_zero, List.set_cons_succ, asgT, asgTs, unpk, opUn, obSem, opIsi, bmSem, bkSem, Ev.numsOf, isLst, itemsOf, itemsZ, fillAs, backAs, augOp, E.v, E.q, Es.q, Es.vs, As.q, ownOk, PV.pure, pures, PV.frz, frzs, PV.isN, Bool.and_true, Bool.true_and, Bool.or_true, Bool.true_or, Bool.not_true, Bool.not_false, Bool.false_and, Bool.and_false, Bool.or_false, Bool.false_or, List.length_cons, List.length_nil, List.map_cons, List.map_nil, List.replicate, List.cons_append, List.nil_append, true_and, and_true, if_true, Option.isSome_some, backIo, Ev.op_add, Ev.op_sub, Ev.op_mul, Ev.op_div, Ev.op_mod, Ev.op_pow, Ev.op_and, Ev.op_or, Ev.op_lcat, Ev.op_tcat, cmp_lt, cmp_le, cmp_gt, cmp_ge, cmp_is, cmp_isn, sub_t0, sub_t1, sub_t2, sub_l0, sub_l1, sub_l2, sub_tn, sub_ln, eq_self, decide_true, decide_false, exists_eq_left', wipeE, backE, lenOk_0, lenOk_1, lenOk_2, lenOk_3, lenOk_4, lenOk_5, lenOk_6, Nat.reduceAdd, Nat.reduceLT, Nat.reduceLeDiff, Nat.reduceSub, Nat.reduceEqDiff, ne_eq, not_false_eq_true, not_true_eq_false, decide_eq_true_eq, List.mem_cons, List.not_mem_nil, or_false, false_or, true_or, or_true, if_false, Option.map_some, decide_not, decide_true, decide_false, Nat.lt_irrefl, cmp_eq, cmp_ne, cmp_eqb, cmp_neb, List.any_cons, List.any_nil, reduceCtorEq, beq_self_eq_true, Bool.or_self, plainOwn, List.all_cons, List.all_nil, PV.lst.injEq, mu_append, mu_reverse, mu_pop, List.getElem?_cons_succ, List.getElem?_cons_zero, List.getElem?_nil, Option.bind_some, Option.bind_none, id]
  refine ⟨by decide, ?_⟩
  refine wpc_mono (pick_t (d := d + 3) hD3 (by simp) rfl) ?_
  rintro p l ⟨D4, hp, rfl, hD4⟩
  have hc : ∃ c : Int, p = .int c ∧ c ≠ 0 ∧ c.natAbs < 2 ^ 60 := by
    simp at hp
    rcases hp with e | e | e | e | e | e <;> exact ⟨_, e, by decide, by decide⟩
  obtain ⟨c, rfl, hc, hcb⟩ := hc
  have m1 := m60 hf.2.2.1 hcb
  have m2 := m60 hf.2.2.2 hcb
  have m3 := m60 hf.2.2.1 hg.2.2.2
  have m4 := m60 hg.2.2.1 hf.2.2.2
  have f2 : f.2 ≠ 0 := by have := hf.1; omega
  have L1 := fraction_t (d := d + 4) (n := f.1 * c) (e := f.2 * c) (mne f2 hc) (by omega)
  have L2 := fraction_t (d := d + 4) (n := 0) (e := c) hc (by omega)
  rw [fr_scale hf hc] at L1
  rw [fr_zero hc] at L2
  have S1 := same_F2 f (d + 3)
  have S2 := same_F2 (0, 1) (d + 3)
  have A1 := add_t (d := d + 3) hf hg
  have P1 := plus_t (d := d + 2) hf hg
  have S3 := same_F2 (fr (f.1 * g.2 + g.1 * f.2) (f.2 * g.2)) (d + 3)
  have A2 := subtract_t (d := d + 3) hf hg
  have P2 := minus_t (d := d + 2) hf hg
  have S4 := same_F2 (fr (f.1 * g.2 - g.1 * f.2) (f.2 * g.2)) (d + 3)
  have A3 := multiply_t (d := d + 3) hf hg
  have P3 := product_t (d := d + 2) hf hg
  have S5 := same_F2 (fr (f.1 * g.1) (f.2 * g.2)) (d + 3)
  have C1 := compare_t (d := d + 4) hf hg
  have C2 := compare_t (d := d + 4) hg hf
  have e1 : (if f.1 * g.2 > g.1 * f.2 then (1 : Int) else 0) - (if f.1 * g.2 < g.1 * f.2 then (1 : Int) else 0) = sg (f.1 * g.2) (g.1 * f.2) := by
    unfold sg
    split <;> split <;> split <;> (try split) <;> omega
  have e2 : 0 - sg (f.1 * g.2) (g.1 * f.2) = sg (g.1 * f.2) (f.1 * g.2) := by
    unfold sg
    split <;> (try split) <;> (try split) <;> (try split) <;> omega
  have S6 := same_lints [sg (f.1 * g.2) (g.1 * f.2), sg (g.1 * f.2) (f.1 * g.2)] (by simp) (d + 3)
  simp only [F2_eq, List.map_cons, List.map_nil] at L1 L2 S1 S2 A1 P1 S3 A2 P2 S4 A3 P3 S5 C1 C2 S6
  have mm1 := m1.1
  have mm2 := m2.1
  simp only [↓reduceIte, ↓w_lit, ↓w_rd, ↓w_vw, ↓w_fz, ↓w_mv, ↓w_bin, ↓w_un, ↓w_cmp, ↓w_sub, ↓w_slc, ↓w_bi, ↓w_isi, ↓w_bm, ↓w_bk, ↓w_frz, ↓w_not, ↓w_ite, ↓w_tup, ↓w_lst, ↓w_mu, ↓w_call, ↓w_lc, ↓w_lc2, ↓w_bop, ↓w_b1, ↓w_b2, ↓w_es0, ↓w_es, ↓w_as0, ↓w_as1, ↓w_as2, ↓w_c0, ↓w_c1, ↓w_seq, ↓w_range1, ↓w_range2, ↓w_enum, ↓w_zip, ↓s_nil, ↓s_one, ↓s_consN, ↓s_set, ↓s_setAt, ↓s_par, ↓s_aug, ↓s_expr, ↓s_ite, ↓s_for, ↓s_ret, ↓s_retN, ↓s_brk, ↓s_cont, ↓s_pass, ↓wpo_some, ↓wp_ok, ↓wpc_ok, ↓wps_nx, ↓wps_rt, ↓wps_bk, ↓wps_ct, ↓wpb_bl, ↓wpi_int, ↓wpo_need, ↓wpo_bind, ↓wpo_map, need_t, getE_0, getE_s, getE_1, getE_2, getE_3, getE_4, getE_5, getE_6, getE_7, getE_8, getE_9, getE_10, getE_11, getE_12, getE_13, getE_14, getE_15, List.set_cons_zero, List.set_cons_succ, asgT, asgTs, unpk, opUn, obSem, opIsi, bmSem, bkSem, Ev.numsOf, isLst, itemsOf, itemsZ, fillAs, backAs, augOp, E.v, E.q, Es.q, Es.vs, As.q, ownOk, PV.pure, pures, PV.frz, frzs, PV.isN, Bool.and_true, Bool.true_and, Bool.or_true, Bool.true_or, Bool.not_true, Bool.not_false, Bool.false_and, Bool.and_false, Bool.or_false, Bool.false_or, List.length_cons, List.length_nil, List.map_cons, List.map_nil, List.replicate, List.cons_append, List.nil_append, true_and, and_true, if_true, Option.isSome_some, backIo, Ev.op_add, Ev.op_sub, Ev.op_mul, Ev.op_div, Ev.op_mod, Ev.op_pow, Ev.op_and, Ev.op_or, Ev.op_lcat, Ev.op_tcat, cmp_lt, cmp_le, cmp_gt, cmp_ge, cmp_is, cmp_isn, sub_t0, sub_t1, sub_t2, sub_l0, sub_l1, sub_l2, sub_tn, sub_ln, eq_self, decide_true, decide_false, exists_eq_left', wipeE, backE, lenOk_0, lenOk_1, lenOk_2, lenOk_3, lenOk_4, lenOk_5, lenOk_6, Nat.reduceAdd, Nat.reduceLT, Nat.reduceLeDiff, Nat.reduceSub, Nat.reduceEqDiff, ne_eq, not_false_eq_true, not_true_eq_false, decide_eq_true_eq, List.mem_cons, List.not_mem_nil, or_false, false_or, true_or, or_true, if_false, Option.map_some, decide_not, decide_true, decide_false, Nat.lt_irrefl, cmp_eq, cmp_ne, cmp_eqb, cmp_neb, List.any_cons, List.any_nil, reduceCtorEq, beq_self_eq_true, Bool.or_self, plainOwn, List.all_cons, List.all_nil, PV.lst.injEq, mu_append, mu_reverse, mu_pop, List.getElem?_cons_succ, List.getElem?_cons_zero, List.getElem?_nil, Option.bind_some, Option.bind_none, id]
  rw [seqN_app]
  simp only [↓reduceIte, ↓w_lit, ↓w_rd, ↓w_vw, ↓w_fz, ↓w_mv, ↓w_bin, ↓w_un, ↓w_cmp, ↓w_sub, ↓w_slc, ↓w_bi, ↓w_isi, ↓w_bm, ↓w_bk, ↓w_frz, ↓w_not, ↓w_ite, ↓w_tup, ↓w_lst, ↓w_mu, ↓w_call, ↓w_lc, ↓w_lc2, ↓w_bop, ↓w_b1, ↓w_b2, ↓w_es0, ↓w_es, ↓w_as0, ↓w_as1, ↓w_as2, ↓w_c0, ↓w_c1, ↓w_seq, ↓w_range1, ↓w_range2, ↓w_enum, ↓w_zip, ↓s_nil, ↓s_one, ↓s_consN, ↓s_set, ↓s_setAt, ↓s_par, ↓s_aug, ↓s_expr, ↓s_ite, ↓s_for, ↓s_ret, ↓s_retN, ↓s_brk, ↓s_cont, ↓s_pass, ↓wpo_some, ↓wp_ok, ↓wpc_ok, ↓wps_nx, ↓wps_rt, ↓wps_bk, ↓wps_ct, ↓wpb_bl, ↓wpi_int, ↓wpo_need, ↓wpo_bind, ↓wpo_map, need_t, getE_0, getE_s, getE_1, getE_2, getE_3, getE_4, getE_5, getE_6, getE_7, getE_8, getE_9, getE_10, getE_11, getE_12, getE_13, getE_14, getE_15, List.set_cons_zero, List.set_cons_succ, asgT, asgTs, unpk, opUn, obSem, opIsi, bmSem, bkSem, Ev.numsOf, isLst, itemsOf, itemsZ, fillAs, backAs, augOp, E.v, E.q, Es.q, Es.vs, As.q, ownOk, PV.pure, pures, PV.frz, frzs, PV.isN, Bool.and_true, Bool.true_and, Bool.or_true, Bool.true_or, Bool.not_true, Bool.not_false, Bool.false_and, Bool.and_false, Bool.or_false, Bool.false_or, List.length_cons, List.length_nil, List.map_cons, List.map_nil, List.replicate, List.cons_append, List.nil_append, true_and, and_true, if_true, Option.isSome_some, backIo, Ev.op_add, Ev.op_sub, Ev.op_mul, Ev.op_div, Ev.op_mod, Ev.op_pow, Ev.op_and, Ev.op_or, Ev.op_lcat, Ev.op_tcat, cmp_lt, cmp_le, cmp_gt, cmp_ge, cmp_is, cmp_isn, sub_t0, sub_t1, sub_t2, sub_l0, sub_l1, sub_l2, sub_tn, sub_ln, eq_self, decide_true, decide_false, exists_eq_left', wipeE, backE, lenOk_0, lenOk_1, lenOk_2, lenOk_3, lenOk_4, lenOk_5, lenOk_6, Nat.reduceAdd, Nat.reduceLT, Nat.reduceLeDiff, Nat.reduceSub, Nat.reduceEqDiff, ne_eq, not_false_eq_true, not_true_eq_false, decide_eq_true_eq, List.mem_cons, List.not_mem_nil, or_false, false_or, true_or, or_true, if_false, Option.map_some, decide_not, decide_true, decide_false, Nat.lt_irrefl, cmp_eq, cmp_ne, cmp_eqb, cmp_neb, List.any_cons, List.any_nil, reduceCtorEq, beq_self_eq_true, Bool.or_self, plainOwn, List.all_cons, List.all_nil, PV.lst.injEq, mu_append, mu_reverse, mu_pop, List.getElem?_cons_succ, List.getElem?_cons_zero, List.getElem?_nil, Option.bind_some, Option.bind_none, id, L1, L2, S1, S2, mm1, mm2]
  rw [seqN_app]
  simp only [↓reduceIte, ↓w_lit, ↓w_rd, ↓w_vw, ↓w_fz, ↓w_mv, ↓w_bin, ↓w_un, ↓w_cmp, ↓w_sub, ↓w_slc, ↓w_bi, ↓w_isi, ↓w_bm, ↓w_bk, ↓w_frz, ↓w_not, ↓w_ite, ↓w_tup, ↓w_lst, ↓w_mu, ↓w_call, ↓w_lc, ↓w_lc2, ↓w_bop, ↓w_b1, ↓w_b2, ↓w_es0, ↓w_es, ↓w_as0, ↓w_as1, ↓w_as2, ↓w_c0, ↓w_c1, ↓w_seq, ↓w_range1, ↓w_range2, ↓w_enum, ↓w_zip, ↓s_nil, ↓s_one, ↓s_consN, ↓s_set, ↓s_setAt, ↓s_par, ↓s_aug, ↓s_expr, ↓s_ite, ↓s_for, ↓s_ret, ↓s_retN, ↓s_brk, ↓s_cont, ↓s_pass, ↓wpo_some, ↓wp_ok, ↓wpc_ok, ↓wps_nx, ↓wps_rt, ↓wps_bk, ↓wps_ct, ↓wpb_bl, ↓wpi_int, ↓wpo_need, ↓wpo_bind, ↓wpo_map, need_t, getE_0, getE_s, getE_1, getE_2, getE_3, getE_4, getE_5, getE_6, getE_7, getE_8, getE_9, getE_10, getE_11, getE_12, getE_13, getE_14, getE_15, List.set_cons_zero, List.set_cons_succ, asgT, asgTs, unpk, opUn, obSem, opIsi, bmSem, bkSem, Ev.numsOf, isLst, itemsOf, itemsZ, fillAs, backAs, augOp, E.v, E.q, Es.q, Es.vs, As.q, ownOk, PV.pure, pures, PV.frz, frzs, PV.isN, Bool.and_true, Bool.true_and, Bool.or_true, Bool.true_or, Bool.not_true, Bool.not_false, Bool.false_and, Bool.and_false, Bool.or_false, Bool.false_or, List.length_cons, List.length_nil, List.map_cons, List.map_nil, List.replicate, List.cons_append, List.nil_append, true_and, and_true, if_true, Option.isSome_some, backIo, Ev.op_add, Ev.op_sub, Ev.op_mul, Ev.op_div, Ev.op_mod, Ev.op_pow, Ev.op_and, Ev.op_or, Ev.op_lcat, Ev.op_tcat, cmp_lt, cmp_le, cmp_gt, cmp_ge, cmp_is, cmp_isn, sub_t0, sub_t1, sub_t2, sub_l0, sub_l1, sub_l2, sub_tn, sub_ln, eq_self, decide_true, decide_false, exists_eq_left', wipeE, backE, lenOk_0, lenOk_1, lenOk_2, lenOk_3, lenOk_4, lenOk_5, lenOk_6, Nat.reduceAdd, Nat.reduceLT, Nat.reduceLeDiff, Nat.reduceSub, Nat.reduceEqDiff, ne_eq, not_false_eq_true, not_true_eq_false, decide_eq_true_eq, List.mem_cons, List.not_mem_nil, or_false, false_or, true_or, or_true, if_false, Option.map_some, decide_not, decide_true, decide_false, Nat.lt_irrefl, cmp_eq, cmp_ne, cmp_eqb, cmp_neb, List.any_cons, List.any_nil, reduceCtorEq, beq_self_eq_true, Bool.or_self, plainOwn, List.all_cons, List.all_nil, PV.lst.injEq, mu_append, mu_reverse, mu_pop, List.getElem?_cons_succ, List.getElem?_cons_zero, List.getElem?_nil, Option.bind_some, Option.bind_none, id, A1, P1, S3, A2, P2, S4]
  rw [seqN_app]
  simp only [↓reduceIte, ↓w_lit, ↓w_rd, ↓w_vw, ↓w_fz, ↓w_mv, ↓w_bin, ↓w_un, ↓w_cmp, ↓w_sub, ↓w_slc, ↓w_bi, ↓w_isi, ↓w_bm, ↓w_bk, ↓w_frz, ↓w_not, ↓w_ite, ↓w_tup, ↓w_lst, ↓w_mu, ↓w_call, ↓w_lc, ↓w_lc2, ↓w_bop, ↓w_b1, ↓w_b2, ↓w_es0, ↓w_es, ↓w_as0, ↓w_as1, ↓w_as2, ↓w_c0, ↓w_c1, ↓w_seq, ↓w_range1, ↓w_range2, ↓w_enum, ↓w_zip, ↓s_nil, ↓s_one, ↓s_consN, ↓s_set, ↓s_setAt, ↓s_par, ↓s_aug, ↓s_expr, ↓s_ite, ↓s_for, ↓s_ret, ↓s_retN, ↓s_brk, ↓s_cont, ↓s_pass, ↓wpo_some, ↓wp_ok, ↓wpc_ok, ↓wps_nx, ↓wps_rt, ↓wps_bk, ↓wps_ct, ↓wpb_bl, ↓wpi_int, ↓wpo_need, ↓wpo_bind, ↓wpo_map, need_t, getE_0, getE_s, getE_1, getE_2, getE_3, getE_4, getE_5, getE_6, getE_7, getE_8, getE_9, getE_10, getE_11, getE_12, getE_13, getE_14, getE_15, List.set_cons_zero, List.set_cons_succ, asgT, asgTs, unpk, opUn, obSem, opIsi, bmSem, bkSem, Ev.numsOf, isLst, itemsOf, itemsZ, fillAs, backAs, augOp, E.v, E.q, Es.q, Es.vs, As.q, ownOk, PV.pure, pures, PV.frz, frzs, PV.isN, Bool.and_true, Bool.true_and, Bool.or_true, Bool.true_or, Bool.not_true, Bool.not_false, Bool.false_and, Bool.and_false, Bool.or_false, Bool.false_or, List.length_cons, List.length_nil, List.map_cons, List.map_nil, List.replicate, List.cons_append, List.nil_append, true_and, and_true, if_true, Option.isSome_some, backIo, Ev.op_add, Ev.op_sub, Ev.op_mul, Ev.op_div, Ev.op_mod, Ev.op_pow, Ev.op_and, Ev.op_or, Ev.op_lcat, Ev.op_tcat, cmp_lt, cmp_le, cmp_gt, cmp_ge, cmp_is, cmp_isn, sub_t0, sub_t1, sub_t2, sub_l0, sub_l1, sub_l2, sub_tn, sub_ln, eq_self, decide_true, decide_false, exists_eq_left', wipeE, backE, lenOk_0, lenOk_1, lenOk_2, lenOk_3, lenOk_4, lenOk_5, lenOk_6, Nat.reduceAdd, Nat.reduceLT, Nat.reduceLeDiff, Nat.reduceSub, Nat.reduceEqDiff, ne_eq, not_false_eq_true, not_true_eq_false, decide_eq_true_eq, List.mem_cons, List.not_mem_nil, or_false, false_or, true_or, or_true, if_false, Option.map_some, decide_not, decide_true, decide_false, Nat.lt_irrefl, cmp_eq, cmp_ne, cmp_eqb, cmp_neb, List.any_cons, List.any_nil, reduceCtorEq, beq_self_eq_true, Bool.or_self, plainOwn, List.all_cons, List.all_nil, PV.lst.injEq, mu_append, mu_reverse, mu_pop, List.getElem?_cons_succ, List.getElem?_cons_zero, List.getElem?_nil, Option.bind_some, Option.bind_none, id, A3, P3, S5]
  have nxt : ∀ (G : Prop), (seqN gl (run (d + 5)) 100000 (match halfBody with
      | .cons _ (.cons _ (.cons _ (.cons _ (.cons _ (.cons _ (.cons _ (.cons s ss))))))) => .cons s ss
      | _ => .nil) ⟨fun ρ => ∃ D' x2 x3 x4 x5 x6, ρ = [some (.scr ns), some D', x2, x3, x4, x5, x6] ∧ Dr D', T, B, fun ρ => ∃ D' x2 x3 x4 x5 x6, ρ = [some (.scr ns), some D', x2, x3, x4, x5, x6] ∧ Dr D'⟩ [some (.scr ns), some D4, some (.int (i : Int)), some (.tup [.int f.1, .int f.2]), some (.tup [.int g.1, .int g.2]), some (.int c), x6] → G) → G := fun G k => by
    refine k ?_
    simp only [halfBody, f_law_second_half]
    rw [seqN_app]
    simp only [↓reduceIte, ↓w_lit, ↓w_rd, ↓w_vw, ↓w_fz, ↓w_mv, ↓w_bin, ↓w_un, ↓w_cmp, ↓w_sub, ↓w_slc, ↓w_bi, ↓w_isi, ↓w_bm, ↓w_bk, ↓w_frz, ↓w_not, ↓w_ite, ↓w_tup, ↓w_lst, ↓w_mu, ↓w_call, ↓w_lc, ↓w_lc2, ↓w_bop, ↓w_b1, ↓w_b2, ↓w_es0, ↓w_es, ↓w_as0, ↓w_as1, ↓w_as2, ↓w_c0, ↓w_c1, ↓w_seq, ↓w_range1, ↓w_range2, ↓w_enum, ↓w_zip, ↓s_nil, ↓s_one, ↓s_consN, ↓s_set, ↓s_setAt, ↓s_par, ↓s_aug, ↓s_expr, ↓s_ite, ↓s_for, ↓s_ret, ↓s_retN, ↓s_brk, ↓s_cont, ↓s_pass, ↓wpo_some, ↓wp_ok, ↓wpc_ok, ↓wps_nx, ↓wps_rt, ↓wps_bk, ↓wps_ct, ↓wpb_bl, ↓wpi_int, ↓wpo_need, ↓wpo_bind, ↓wpo_map, need_t, getE_0, getE_s, getE_1, getE_2, getE_3, getE_4, getE_5, getE_6, getE_7, getE_8, getE_9, getE_10, getE_11, getE_12, getE_13, getE_14, getE_15, List.set_cons_zero, List.set_cons_succ, asgT, asgTs, unpk, opUn, obSem, opIsi, bmSem, bkSem, Ev.numsOf, isLst, itemsOf, itemsZ, fillAs, backAs, augOp, E.v, E.q, Es.q, Es.vs, As.q, ownOk, PV.pure, pures, PV.frz, frzs, PV.isN, Bool.and_true, Bool.true_and, Bool.or_true, Bool.true_or, Bool.not_true, Bool.not_false, Bool.false_and, Bool.and_false, Bool.or_false, Bool.false_or, List.length_cons, List.length_nil, List.map_cons, List.map_nil, List.replicate, List.cons_append, List.nil_append, true_and, and_true, if_true, Option.isSome_some, backIo, Ev.op_add, Ev.op_sub, Ev.op_mul, Ev.op_div, Ev.op_mod, Ev.op_pow, Ev.op_and, Ev.op_or, Ev.op_lcat, Ev.op_tcat, cmp_lt, cmp_le, cmp_gt, cmp_ge, cmp_is, cmp_isn, sub_t0, sub_t1, sub_t2, sub_l0, sub_l1, sub_l2, sub_tn, sub_ln, eq_self, decide_true, decide_false, exists_eq_left', wipeE, backE, lenOk_0, lenOk_1, lenOk_2, lenOk_3, lenOk_4, lenOk_5, lenOk_6, Nat.reduceAdd, Nat.reduceLT, Nat.reduceLeDiff, Nat.reduceSub, Nat.reduceEqDiff, ne_eq, not_false_eq_true, not_true_eq_false, decide_eq_true_eq, List.mem_cons, List.not_mem_nil, or_false, false_or, true_or, or_true, if_false, Option.map_some, decide_not, decide_true, decide_false, Nat.lt_irrefl, cmp_eq, cmp_ne, cmp_eqb, cmp_neb, List.any_cons, List.any_nil, reduceCtorEq, beq_self_eq_true, Bool.or_self, plainOwn, List.all_cons, List.all_nil, PV.lst.injEq, mu_append, mu_reverse, mu_pop, List.getElem?_cons_succ, List.getElem?_cons_zero, List.getElem?_nil, Option.bind_some, Option.bind_none, id, m3.1, m4.1]
    rw [seqN_app]
    have e1' : (if g.1 * f.2 < f.1 * g.2 then (1 : Int) else 0) - (if f.1 * g.2 < g.1 * f.2 then (1 : Int) else 0) = sg (f.1 * g.2) (g.1 * f.2) := e1
    simp only [↓reduceIte, ↓w_lit, ↓w_rd, ↓w_vw, ↓w_fz, ↓w_mv, ↓w_bin, ↓w_un, ↓w_cmp, ↓w_sub, ↓w_slc, ↓w_bi, ↓w_isi, ↓w_bm, ↓w_bk, ↓w_frz, ↓w_not, ↓w_ite, ↓w_tup, ↓w_lst, ↓w_mu, ↓w_call, ↓w_lc, ↓w_lc2, ↓w_bop, ↓w_b1, ↓w_b2, ↓w_es0, ↓w_es, ↓w_as0, ↓w_as1, ↓w_as2, ↓w_c0, ↓w_c1, ↓w_seq, ↓w_range1, ↓w_range2, ↓w_enum, ↓w_zip, ↓s_nil, ↓s_one, ↓s_consN, ↓s_set, ↓s_setAt, ↓s_par, ↓s_aug, ↓s_expr, ↓s_ite, ↓s_for, ↓s_ret, ↓s_retN, ↓s_brk, ↓s_cont, ↓s_pass, ↓wpo_some, ↓wp_ok, ↓wpc_ok, ↓wps_nx, ↓wps_rt, ↓wps_bk, ↓wps_ct, ↓wpb_bl, ↓wpi_int, ↓wpo_need, ↓wpo_bind, ↓wpo_map, need_t, getE_0, getE_s, getE_1, getE_2, getE_3, getE_4, getE_5, getE_6, getE_7, getE_8, getE_9, getE_10, getE_11, getE_12, getE_13, getE_14, getE_15, List.set_cons_zero, List.set_cons_succ, asgT, asgTs, unpk, opUn, obSem, opIsi, bmSem, bkSem, Ev.numsOf, isLst, itemsOf, itemsZ, fillAs, backAs, augOp, E.v, E.q, Es.q, Es.vs, As.q, ownOk, PV.pure, pures, PV.frz, frzs, PV.isN, Bool.and_true, Bool.true_and, Bool.or_true, Bool.true_or, Bool.not_true, Bool.not_false, Bool.false_and, Bool.and_false, Bool.or_false, Bool.false_or, List.length_cons, List.length_nil, List.map_cons, List.map_nil, List.replicate, List.cons_append, List.nil_append, true_and, and_true, if_true, Option.isSome_some, backIo, Ev.op_add, Ev.op_sub, Ev.op_mul, Ev.op_div, Ev.op_mod, Ev.op_pow, Ev.op_and, Ev.op_or, Ev.op_lcat, Ev.op_tcat, cmp_lt, cmp_le, cmp_gt, cmp_ge, cmp_is, cmp_isn, sub_t0, sub_t1, sub_t2, sub_l0, sub_l1, sub_l2, sub_tn, sub_ln, eq_self, decide_true, decide_false, exists_eq_left', wipeE, backE, lenOk_0, lenOk_1, lenOk_2, lenOk_3, lenOk_4, lenOk_5, lenOk_6, Nat.reduceAdd, Nat.reduceLT, Nat.reduceLeDiff, Nat.reduceSub, Nat.reduceEqDiff, ne_eq, not_false_eq_true, not_true_eq_false, decide_eq_true_eq, List.mem_cons, List.not_mem_nil, or_false, false_or, true_or, or_true, if_false, Option.map_some, decide_not, decide_true, decide_false, Nat.lt_irrefl, cmp_eq, cmp_ne, cmp_eqb, cmp_neb, List.any_cons, List.any_nil, reduceCtorEq, beq_self_eq_true, Bool.or_self, plainOwn, List.all_cons, List.all_nil, PV.lst.injEq, mu_append, mu_reverse, mu_pop, List.getElem?_cons_succ, List.getElem?_cons_zero, List.getElem?_nil, Option.bind_some, Option.bind_none, id, C1, C2, e1', e2, S6]
    exact ⟨D4, _, _, _, _, _, rfl, hD4⟩
  rw [seqN_app]
  by_cases hz : g.1 = 0
  · have hzd : decide (g.1 = 0) = true := decide_eq_true hz
    simp only [↓reduceIte, ↓w_lit, ↓w_rd, ↓w_vw, ↓w_fz, ↓w_mv, ↓w_bin, ↓w_un, ↓w_cmp, ↓w_sub, ↓w_slc, ↓w_bi, ↓w_isi, ↓w_bm, ↓w_bk, ↓w_frz, ↓w_not, ↓w_ite, ↓w_tup, ↓w_lst, ↓w_mu, ↓w_call, ↓w_lc, ↓w_lc2, ↓w_bop, ↓w_b1, ↓w_b2, ↓w_es0, ↓w_es, ↓w_as0, ↓w_as1, ↓w_as2, ↓w_c0, ↓w_c1, ↓w_seq, ↓w_range1, ↓w_range2, ↓w_enum, ↓w_zip, ↓s_nil, ↓s_one, ↓s_consN, ↓s_set, ↓s_setAt, ↓s_par, ↓s_aug, ↓s_expr, ↓s_ite, ↓s_for, ↓s_ret, ↓s_retN, ↓s_brk, ↓s_cont, ↓s_pass, ↓wpo_some, ↓wp_ok, ↓wpc_ok, ↓wps_nx, ↓wps_rt, ↓wps_bk, ↓wps_ct, ↓wpb_bl, ↓wpi_int, ↓wpo_need, ↓wpo_bind, ↓wpo_map, need_t, getE_0, getE_s, getE_1, getE_2, getE_3, getE_4, getE_5, getE_6, getE_7, getE_8, getE_9, getE_10, getE_11, getE_12, getE_13, getE_14, getE_15, List.set_cons_zero, List.set_cons_succ, asgT, asgTs, unpk, opUn, obSem, opIsi, bmSem, bkSem, Ev.numsOf, isLst, itemsOf, itemsZ, fillAs, backAs, augOp, E.v, E.q, Es.q, Es.vs, As.q, ownOk, PV.pure, pures, PV.frz, frzs, PV.isN, Bool.and_true, Bool.true_and, Bool.or_true, Bool.true_or, Bool.not_true, Bool.not_false, Bool.false_and, Bool.and_false, Bool.or_false, Bool.false_or, List.length_cons, List.length_nil, List.map_cons, List.map_nil, List.replicate, List.cons_append, List.nil_append, true_and, and_true, if_true, Option.isSome_some, backIo, Ev.op_add, Ev.op_sub, Ev.op_mul, Ev.op_div, Ev.op_mod, Ev.op_pow, Ev.op_and, Ev.op_or, Ev.op_lcat, Ev.op_tcat, cmp_lt, cmp_le, cmp_gt, cmp_ge, cmp_is, cmp_isn, sub_t0, sub_t1, sub_t2, sub_l0, sub_l1, sub_l2, sub_tn, sub_ln, eq_self, decide_true, decide_false, exists_eq_left', wipeE, backE, lenOk_0, lenOk_1, lenOk_2, lenOk_3, lenOk_4, lenOk_5, lenOk_6, Nat.reduceAdd, Nat.reduceLT, Nat.reduceLeDiff, Nat.reduceSub, Nat.reduceEqDiff, ne_eq, not_false_eq_true, not_true_eq_false, decide_eq_true_eq, List.mem_cons, List.not_mem_nil, or_false, false_or, true_or, or_true, if_false, Option.map_some, decide_not, decide_true, decide_false, Nat.lt_irrefl, cmp_eq, cmp_ne, cmp_eqb, cmp_neb, List.any_cons, List.any_nil, reduceCtorEq, beq_self_eq_true, Bool.or_self, plainOwn, List.all_cons, List.all_nil, PV.lst.injEq, mu_append, mu_reverse, mu_pop, List.getElem?_cons_succ, List.getElem?_cons_zero, List.getElem?_nil, Option.bind_some, Option.bind_none, id, hzd]
    exact nxt _ fun z => z
  · have hzd : decide (g.1 = 0) = false := decide_eq_false hz
    have A4 := divide_t (d := d + 3) hf hg hz
    have P4 := quotient_t (d := d + 2) hf hg hz
    have S7 := same_F2 (fr (f.1 * g.2) (f.2 * g.1)) (d + 3)
    simp only [F2_eq] at A4 P4 S7
    simp only [↓reduceIte, ↓w_lit, ↓w_rd, ↓w_vw, ↓w_fz, ↓w_mv, ↓w_bin, ↓w_un, ↓w_cmp, ↓w_sub, ↓w_slc, ↓w_bi, ↓w_isi, ↓w_bm, ↓w_bk, ↓w_frz, ↓w_not, ↓w_ite, ↓w_tup, ↓w_lst, ↓w_mu, ↓w_call, ↓w_lc, ↓w_lc2, ↓w_bop, ↓w_b1, ↓w_b2, ↓w_es0, ↓w_es, ↓w_as0, ↓w_as1, ↓w_as2, ↓w_c0, ↓w_c1, ↓w_seq, ↓w_range1, ↓w_range2, ↓w_enum, ↓w_zip, ↓s_nil, ↓s_one, ↓s_consN, ↓s_set, ↓s_setAt, ↓s_par, ↓s_aug, ↓s_expr, ↓s_ite, ↓s_for, ↓s_ret, ↓s_retN, ↓s_brk, ↓s_cont, ↓s_pass, ↓wpo_some, ↓wp_ok, ↓wpc_ok, ↓wps_nx, ↓wps_rt, ↓wps_bk, ↓wps_ct, ↓wpb_bl, ↓wpi_int, ↓wpo_need, ↓wpo_bind, ↓wpo_map, need_t, getE_0, getE_s, getE_1, getE_2, getE_3, getE_4, getE_5, getE_6, getE_7, getE_8, getE_9, getE_10, getE_11, getE_12, getE_13, getE_14, getE_15, List.set_cons_zero, List.set_cons_succ, asgT, asgTs, unpk, opUn, obSem, opIsi, bmSem, bkSem, Ev.numsOf, isLst, itemsOf, itemsZ, fillAs, backAs, augOp, E.v, E.q, Es.q, Es.vs, As.q, ownOk, PV.pure, pures, PV.frz, frzs, PV.isN, Bool.and_true, Bool.true_and, Bool.or_true, Bool.true_or, Bool.not_true, Bool.not_false, Bool.false_and, Bool.and_false, Bool.or_false, Bool.false_or, List.length_cons, List.length_nil, List.map_cons, List.map_nil, List.replicate, List.cons_append, List.nil_append, true_and, and_true, if_true, Option.isSome_some, backIo, Ev.op_add, Ev.op_sub, Ev.op_mul, Ev.op_div, Ev.op_mod, Ev.op_pow, Ev.op_and, Ev.op_or, Ev.op_lcat, Ev.op_tcat, cmp_lt, cmp_le, cmp_gt, cmp_ge, cmp_is, cmp_isn, sub_t0, sub_t1, sub_t2, sub_l0, sub_l1, sub_l2, sub_tn, sub_ln, eq_self, decide_true, decide_false, exists_eq_left', wipeE, backE, lenOk_0, lenOk_1, lenOk_2, lenOk_3, lenOk_4, lenOk_5, lenOk_6, Nat.reduceAdd, Nat.reduceLT, Nat.reduceLeDiff, Nat.reduceSub, Nat.reduceEqDiff, ne_eq, not_false_eq_true, not_true_eq_false, decide_eq_true_eq, List.mem_cons, List.not_mem_nil, or_false, false_or, true_or, or_true, if_false, Option.map_some, decide_not, decide_true, decide_false, Nat.lt_irrefl, cmp_eq, cmp_ne, cmp_eqb, cmp_neb, List.any_cons, List.any_nil, reduceCtorEq, beq_self_eq_true, Bool.or_self, plainOwn, List.all_cons, List.all_nil, PV.lst.injEq, mu_append, mu_reverse, mu_pop, List.getElem?_cons_succ, List.getElem?_cons_zero, List.getElem?_nil, Option.bind_some, Option.bind_none, id, hzd, A4, P4, S7]
    exact nxt _ fun z => z
theorem second_t {d : Nat} {ns : List Int} (hn : ns.length ≤ 63) : run (d + 6) 29 [.scr ns] = .ok (.bl true) [.scr ns] := by
  refine eq_of (w_fn at_law_second_half rfl ?_)
  simp only [f_law_second_half, ↓reduceIte, ↓w_lit, ↓w_rd, ↓w_vw, ↓w_fz, ↓w_mv, ↓w_bin, ↓w_un, ↓w_cmp, ↓w_sub, ↓w_slc, ↓w_bi, ↓w_isi, ↓w_bm, ↓w_bk, ↓w_frz, ↓w_not, ↓w_ite, ↓w_tup, ↓w_lst, ↓w_mu, ↓w_call, ↓w_lc, ↓w_lc2, ↓w_bop, ↓w_b1, ↓w_b2, ↓w_es0, ↓w_es, ↓w_as0, ↓w_as1, ↓w_as2, ↓w_c0, ↓w_c1, ↓w_seq, ↓w_range1, ↓w_range2, ↓w_enum, ↓w_zip, ↓s_nil, ↓s_one, ↓s_consN, ↓s_set, ↓s_setAt, ↓s_par, ↓s_aug, ↓s_expr, ↓s_ite, ↓s_for, ↓s_ret, ↓s_retN, ↓s_brk, ↓s_cont, ↓s_pass, ↓wpo_some, ↓wp_ok, ↓wpc_ok, ↓wps_nx, ↓wps_rt, ↓wps_bk, ↓wps_ct, ↓wpb_bl, ↓wpi_int, ↓wpo_need, ↓wpo_bind, ↓wpo_map, need_t, getE_0, getE_s, getE_1, getE_2, getE_3, getE_4, getE_5, getE_6, getE_7, getE_8, getE_9, getE_10, getE_11, getE_12, getE_13, getE_14, getE_15, List.set_cons_zero, List.set_cons_succ, asgT, asgTs, unpk, opUn, obSem, opIsi, bmSem, bkSem, Ev.numsOf, isLst, itemsOf, itemsZ, fillAs, backAs, augOp, E.v, E.q, Es.q, Es.vs, As.q, ownOk, PV.pure, pures, PV.frz, frzs, PV.isN, Bool.and_true, Bool.true_and, Bool.or_true, Bool.true_or, Bool.not_true, Bool.not_false, Bool.false_and, Bool.and_false, Bool.or_false, Bool.false_or, List.length_cons, List.length_nil, List.map_cons, List.map_nil, List.replicate, List.cons_append, List.nil_append, true_and, and_true, if_true, Option.isSome_some, backIo, Ev.op_add, Ev.op_sub, Ev.op_mul, Ev.op_div, Ev.op_mod, Ev.op_pow, Ev.op_and, Ev.op_or, Ev.op_lcat, Ev.op_tcat, cmp_lt, cmp_le, cmp_gt, cmp_ge, cmp_is, cmp_isn, sub_t0, sub_t1, sub_t2, sub_l0, sub_l1, sub_l2, sub_tn, sub_ln, eq_self, decide_true, decide_false, exists_eq_left', wipeE, backE, lenOk_0, lenOk_1, lenOk_2, lenOk_3, lenOk_4, lenOk_5, lenOk_6, Nat.reduceAdd, Nat.reduceLT, Nat.reduceLeDiff, Nat.reduceSub, Nat.reduceEqDiff, ne_eq, not_false_eq_true, not_true_eq_false, decide_eq_true_eq, List.mem_cons, List.not_mem_nil, or_false, false_or, true_or, or_true, if_false, Option.map_some, decide_not, decide_true, decide_false, Nat.lt_irrefl, cmp_eq, cmp_ne, cmp_eqb, cmp_neb, List.any_cons, List.any_nil, reduceCtorEq, beq_self_eq_true, Bool.or_self, plainOwn, List.all_cons, List.all_nil, PV.lst.injEq, mu_append, mu_reverse, mu_pop, List.getElem?_cons_succ, List.getElem?_cons_zero, List.getElem?_nil, Option.bind_some, Option.bind_none, id]
  refine wpc_mono (draws_t (d := d + 4) (m := 300) (by decide) (by omega)) ?_
  rintro p l ⟨hD, rfl⟩
  simp only [↓reduceIte, ↓w_lit, ↓w_rd, ↓w_vw, ↓w_fz, ↓w_mv, ↓w_bin, ↓w_un, ↓w_cmp, ↓w_sub, ↓w_slc, ↓w_bi, ↓w_isi, ↓w_bm, ↓w_bk, ↓w_frz, ↓w_not, ↓w_ite, ↓w_tup, ↓w_lst, ↓w_mu, ↓w_call, ↓w_lc, ↓w_lc2, ↓w_bop, ↓w_b1, ↓w_b2, ↓w_es0, ↓w_es, ↓w_as0, ↓w_as1, ↓w_as2, ↓w_c0, ↓w_c1, ↓w_seq, ↓w_range1, ↓w_range2, ↓w_enum, ↓w_zip, ↓s_nil, ↓s_one, ↓s_consN, ↓s_set, ↓s_setAt, ↓s_par, ↓s_aug, ↓s_expr, ↓s_ite, ↓s_for, ↓s_ret, ↓s_retN, ↓s_brk, ↓s_cont, ↓s_pass, ↓wpo_some, ↓wp_ok, ↓wpc_ok, ↓wps_nx, ↓wps_rt, ↓wps_bk, ↓wps_ct, ↓wpb_bl, ↓wpi_int, ↓wpo_need, ↓wpo_bind, ↓wpo_map, need_t, getE_0, getE_s, getE_1, getE_2, getE_3, getE_4, getE_5, getE_6, getE_7, getE_8, getE_9, getE_10, getE_11, getE_12, getE_13, getE_14, getE_15, List.set_cons_zero, List.set_cons_succ, asgT, asgTs, unpk, opUn, obSem, opIsi, bmSem, bkSem, Ev.numsOf, isLst, itemsOf, itemsZ, fillAs, backAs, augOp, E.v, E.q, Es.q, Es.vs, As.q, ownOk, PV.pure, pures, PV.frz, frzs, PV.isN, Bool.and_true, Bool.true_and, Bool.or_true, Bool.true_or, Bool.not_true, Bool.not_false, Bool.false_and, Bool.and_false, Bool.or_false, Bool.false_or, List.length_cons, List.length_nil, List.map_cons, List.map_nil, List.replicate, List.cons_append, List.nil_append, true_and, and_true, if_true, Option.isSome_some, backIo, Ev.op_add, Ev.op_sub, Ev.op_mul, Ev.op_div, Ev.op_mod, Ev.op_pow, Ev.op_and, Ev.op_or, Ev.op_lcat, Ev.op_tcat, cmp_lt, cmp_le, cmp_gt, cmp_ge, cmp_is, cmp_isn, sub_t0, sub_t1, sub_t2, sub_l0, sub_l1, sub_l2, sub_tn, sub_ln, eq_self, decide_true, decide_false, exists_eq_left', wipeE, backE, lenOk_0, lenOk_1, lenOk_2, lenOk_3, lenOk_4, lenOk_5, lenOk_6, Nat.reduceAdd, Nat.reduceLT, Nat.reduceLeDiff, Nat.reduceSub, Nat.reduceEqDiff, ne_eq, not_false_eq_true, not_true_eq_false, decide_eq_true_eq, List.mem_cons, List.not_mem_nil, or_false, false_or, true_or, or_true, if_false, Option.map_some, decide_not, decide_true, decide_false, Nat.lt_irrefl, cmp_eq, cmp_ne, cmp_eqb, cmp_neb, List.any_cons, List.any_nil, reduceCtorEq, beq_self_eq_true, Bool.or_self, plainOwn, List.all_cons, List.all_nil, PV.lst.injEq, mu_append, mu_reverse, mu_pop, List.getElem?_cons_succ, List.getElem?_cons_zero, List.getElem?_nil, Option.bind_some, Option.bind_none, id]
  rw [seqN_app]
  simp only [↓reduceIte, ↓w_lit, ↓w_rd, ↓w_vw, ↓w_fz, ↓w_mv, ↓w_bin, ↓w_un, ↓w_cmp, ↓w_sub, ↓w_slc, ↓w_bi, ↓w_isi, ↓w_bm, ↓w_bk, ↓w_frz, ↓w_not, ↓w_ite, ↓w_tup, ↓w_lst, ↓w_mu, ↓w_call, ↓w_lc, ↓w_lc2, ↓w_bop, ↓w_b1, ↓w_b2, ↓w_es0, ↓w_es, ↓w_as0, ↓w_as1, ↓w_as2, ↓w_c0, ↓w_c1, ↓w_seq, ↓w_range1, ↓w_range2, ↓w_enum, ↓w_zip, ↓s_nil, ↓s_one, ↓s_consN, ↓s_set, ↓s_setAt, ↓s_par, ↓s_aug, ↓s_expr, ↓s_ite, ↓s_for, ↓s_ret, ↓s_retN, ↓s_brk, ↓s_cont, ↓s_pass, ↓wpo_some, ↓wp_ok, ↓wpc_ok, ↓wps_nx, ↓wps_rt, ↓wps_bk, ↓wps_ct, ↓wpb_bl, ↓wpi_int, ↓wpo_need, ↓wpo_bind, ↓wpo_map, need_t, getE_0, getE_s, getE_1, getE_2, getE_3, getE_4, getE_5, getE_6, getE_7, getE_8, getE_9, getE_10, getE_11, getE_12, getE_13, getE_14, getE_15, List.set_cons_zero, List.set_cons_succ, asgT, asgTs, unpk, opUn, obSem, opIsi, bmSem, bkSem, Ev.numsOf, isLst, itemsOf, itemsZ, fillAs, backAs, augOp, E.v, E.q, Es.q, Es.vs, As.q, ownOk, PV.pure, pures, PV.frz, frzs, PV.isN, Bool.and_true, Bool.true_and, Bool.or_true, Bool.true_or, Bool.not_true, Bool.not_false, Bool.false_and, Bool.and_false, Bool.or_false, Bool.false_or, List.length_cons, List.length_nil, List.map_cons, List.map_nil, List.replicate, List.cons_append, List.nil_append, true_and, and_true, if_true, Option.isSome_some, backIo, Ev.op_add, Ev.op_sub, Ev.op_mul, Ev.op_div, Ev.op_mod, Ev.op_pow, Ev.op_and, Ev.op_or, Ev.op_lcat, Ev.op_tcat, cmp_lt, cmp_le, cmp_gt, cmp_ge, cmp_is, cmp_isn, sub_t0, sub_t1, sub_t2, sub_l0, sub_l1, sub_l2, sub_tn, sub_ln, eq_self, decide_true, decide_false, exists_eq_left', wipeE, backE, lenOk_0, lenOk_1, lenOk_2, lenOk_3, lenOk_4, lenOk_5, lenOk_6, Nat.reduceAdd, Nat.reduceLT, Nat.reduceLeDiff, Nat.reduceSub, Nat.reduceEqDiff, ne_eq, not_false_eq_true, not_true_eq_false, decide_eq_true_eq, List.mem_cons, List.not_mem_nil, or_false, false_or, true_or, or_true, if_false, Option.map_some, decide_not, decide_true, decide_false, Nat.lt_irrefl, cmp_eq, cmp_ne, cmp_eqb, cmp_neb, List.any_cons, List.any_nil, reduceCtorEq, beq_self_eq_true, Bool.or_self, plainOwn, List.all_cons, List.all_nil, PV.lst.injEq, mu_append, mu_reverse, mu_pop, List.getElem?_cons_succ, List.getElem?_cons_zero, List.getElem?_nil, Option.bind_some, Option.bind_none, id]
  refine ⟨by decide, ?_⟩
  refine for_inv (fun xs ρ => (∀ x ∈ xs, ∃ i : Nat, x = .int (i : Int)) ∧ ∃ D' x2 x3 x4 x5 x6, ρ = [some (.scr ns), some D', x2, x3, x4, x5, x6] ∧ Dr D') ?_ ?_ _ _ ⟨fun x hx => by
    obtain ⟨i, _, e⟩ := rangeP_mem hx
    exact ⟨i, e⟩, p, _, _, _, _, _, rfl, hD⟩
  · rintro x xs ρ ⟨hx, D', x2, x3, x4, x5, x6, rfl, hD'⟩
    obtain ⟨i, rfl⟩ := hx x (List.mem_cons_self ..)
    refine wpo_mono (half_step (d := d) (ns := ns) (i := i) hD') fun ρ1 q => wps_mono q (fun ρ q => ⟨fun x h => hx x (List.mem_cons_of_mem _ h), q⟩) (fun _ _ q => q) (fun ρ q => q) (fun ρ q => ⟨fun x h => hx x (List.mem_cons_of_mem _ h), q⟩)
  · rintro ρ ⟨_, D', x2, x3, x4, x5, x6, rfl, hD'⟩
    simp only [↓reduceIte, ↓w_lit, ↓w_rd, ↓w_vw, ↓w_fz, ↓w_mv, ↓w_bin, ↓w_un, ↓w_cmp, ↓w_sub, ↓w_slc, ↓w_bi, ↓w_isi, ↓w_bm, ↓w_bk, ↓w_frz, ↓w_not, ↓w_ite, ↓w_tup, ↓w_lst, ↓w_mu, ↓w_call, ↓w_lc, ↓w_lc2, ↓w_bop, ↓w_b1, ↓w_b2, ↓w_es0, ↓w_es, ↓w_as0, ↓w_as1, ↓w_as2, ↓w_c0, ↓w_c1, ↓w_seq, ↓w_range1, ↓w_range2, ↓w_enum, ↓w_zip, ↓s_nil, ↓s_one, ↓s_consN, ↓seqN_app, ↓s_set, ↓s_setAt, ↓s_par, ↓s_aug, ↓s_expr, ↓s_ite, ↓s_for, ↓s_ret, ↓s_retN, ↓s_brk, ↓s_cont, ↓s_pass, ↓wpo_some, ↓wp_ok, ↓wpc_ok, ↓wps_nx, ↓wps_rt, ↓wps_bk, ↓wps_ct, ↓wpb_bl, ↓wpi_int, ↓wpo_need, ↓wpo_bind, ↓wpo_map, need_t, getE_0, getE_s, getE_1, getE_2, getE_3, getE_4, getE_5, getE_6, getE_7, getE_8, getE_9, getE_10, getE_11, getE_12, getE_13, getE_14, getE_15, List.set_cons_zero, List.set_cons_succ, asgT, asgTs, unpk, opUn, obSem, opIsi, bmSem, bkSem, Ev.numsOf, isLst, itemsOf, itemsZ, fillAs, backAs, augOp, E.v, E.q, Es.q, Es.vs, As.q, ownOk, PV.pure, pures, PV.frz, frzs, PV.isN, Bool.and_true, Bool.true_and, Bool.or_true, Bool.true_or, Bool.not_true, Bool.not_false, Bool.false_and, Bool.and_false, Bool.or_false, Bool.false_or, List.length_cons, List.length_nil, List.map_cons, List.map_nil, List.replicate, List.cons_append, List.nil_append, true_and, and_true, if_true, Option.isSome_some, backIo, Ev.op_add, Ev.op_sub, Ev.op_mul, Ev.op_div, Ev.op_mod, Ev.op_pow, Ev.op_and, Ev.op_or, Ev.op_lcat, Ev.op_tcat, cmp_lt, cmp_le, cmp_gt, cmp_ge, cmp_is, cmp_isn, sub_t0, sub_t1, sub_t2, sub_l0, sub_l1, sub_l2, sub_tn, sub_ln, eq_self, decide_true, decide_false, exists_eq_left', wipeE, backE, lenOk_0, lenOk_1, lenOk_2, lenOk_3, lenOk_4, lenOk_5, lenOk_6, Nat.reduceAdd, Nat.reduceLT, Nat.reduceLeDiff, Nat.reduceSub, Nat.reduceEqDiff, ne_eq, not_false_eq_true, not_true_eq_false, decide_eq_true_eq, List.mem_cons, List.not_mem_nil, or_false, false_or, true_or, or_true, if_false, Option.map_some, decide_not, decide_true, decide_false, Nat.lt_irrefl, cmp_eq, cmp_ne, cmp_eqb, cmp_neb, List.any_cons, List.any_nil, reduceCtorEq, beq_self_eq_true, Bool.or_self, plainOwn, List.all_cons, List.all_nil, PV.lst.injEq, mu_append, mu_reverse, mu_pop, List.getElem?_cons_succ, List.getElem?_cons_zero, List.getElem?_nil, Option.bind_some, Option.bind_none, id]
end K78

set_option Elab.async false
set_option linter.all false
set_option maxRecDepth 100000
set_option maxHeartbeats 4000000
set_option autoImplicit false
namespace K78
open PySem PySem.Spec PyProof.Rows L2 Ev
/-! ### sharings -/
def TV (t : List Nat) : PV := .tup (t.map fun n : Nat => .int (n : Int))
def RV (r : List Int) : PV := .tup (r.map .int)
def BV (rows : List (List Int)) : PV := .tup (rows.map RV)
def free' (t : List Nat) (n : Nat) : Bool := t.all fun o => o &&& n == 0
def step (s : Nat) (found : List (List Nat)) : List (List Nat) := found.flatMap fun t => ((List.range s).filter (free' t)).map fun n => t ++ [n]
def shs (s : Nat) : Nat → List (List Nat)
  | 0 => [[]]
  | k + 1 => step s (shs s k)
theorem band (a b : Nat) : Builtin.bitAnd (a : Int) (b : Int) = ((a &&& b : Nat) : Int) := by
  rw [bitAnd_pp (by omega) (by omega)]; simp
theorem bor (a b : Nat) : Builtin.bitOr (a : Int) (b : Int) = ((a ||| b : Nat) : Int) := by
  have h := nat_or_add_and a b
  rw [bitOr_and, band]; omega
theorem pures_nat (t : List Nat) : pures (t.map fun n : Nat => PV.int (n : Int)) = true := by
  have := pures_int (t.map fun n : Nat => (n : Int))
  rwa [List.map_map] at this
theorem asBls_map {α : Type} (f : α → Bool) : ∀ l : List α, asBls (l.flatMap fun a => [PV.bl (f a)]) = some (l.map f)
  | [] => rfl
  | a :: l => by
    show asBls (PV.bl (f a) :: l.flatMap fun a => [PV.bl (f a)]) = _
    rw [asBls, asBls_map f l]; rfl
theorem is_free_t {d : Nat} {t : List Nat} {n : Nat} (ht : t.length ≤ 1000) : run (d + 1) 2 [TV t, .int (n : Int)] = .ok (.bl (free' t n)) [TV t, .int (n : Int)] := by
  refine eq_of (w_fn at_is_free rfl ?_)
  simp only [f_is_free, TV, ↓reduceIte, ↓w_lit, ↓w_rd, ↓w_vw, ↓w_fz, ↓w_mv, ↓w_bin, ↓w_un, ↓w_cmp, ↓w_sub, ↓w_slc, ↓w_bi, ↓w_isi, ↓w_bm, ↓w_bk, ↓w_frz, ↓w_not, ↓w_ite, ↓w_tup, ↓w_lst, ↓w_mu, ↓w_call, ↓w_lc, ↓w_lc2, ↓w_bop, ↓w_b1, ↓w_b2, ↓w_es0, ↓w_es, ↓w_as0, ↓w_as1, ↓w_as2, ↓w_c0, ↓w_c1, ↓w_seq, ↓w_range1, ↓w_range2, ↓w_enum, ↓w_zip, ↓s_nil, ↓s_one, ↓s_consN, ↓s_set, ↓s_setAt, ↓s_par, ↓s_aug, ↓s_expr, ↓s_ite, ↓s_for, ↓s_ret, ↓s_retN, ↓s_brk, ↓s_cont, ↓s_pass, ↓wpo_some, ↓wp_ok, ↓wpc_ok, ↓wps_nx, ↓wps_rt, ↓wps_bk, ↓wps_ct, ↓wpb_bl, ↓wpi_int, ↓wpo_need, ↓wpo_bind, ↓wpo_map, need_t, getE_0, getE_s, getE_1, getE_2, getE_3, getE_4, getE_5, getE_6, getE_7, getE_8, getE_9, getE_10, getE_11, getE_12, getE_13, getE_14, getE_15, List.set_cons_zero, List.set_cons_succ, asgT, asgTs, unpk, opUn, obSem, opIsi, bmSem, bkSem, Ev.numsOf, isLst, itemsOf, itemsZ, fillAs, backAs, augOp, E.v, E.q, Es.q, Es.vs, As.q, ownOk, PV.pure, pures, PV.frz, frzs, PV.isN, Bool.and_true, Bool.true_and, Bool.or_true, Bool.true_or, Bool.not_true, Bool.not_false, Bool.false_and, Bool.and_false, Bool.or_false, Bool.false_or, List.length_cons, List.length_nil, List.map_cons, List.map_nil, List.replicate, List.cons_append, List.nil_append, true_and, and_true, if_true, Option.isSome_some, backIo, Ev.op_add, Ev.op_sub, Ev.op_mul, Ev.op_div, Ev.op_mod, Ev.op_pow, Ev.op_and, Ev.op_or, Ev.op_lcat, Ev.op_tcat, cmp_lt, cmp_le, cmp_gt, cmp_ge, cmp_is, cmp_isn, sub_t0, sub_t1, sub_t2, sub_l0, sub_l1, sub_l2, sub_tn, sub_ln, eq_self, decide_true, decide_false, exists_eq_left', wipeE, backE, lenOk_0, lenOk_1, lenOk_2, lenOk_3, lenOk_4, lenOk_5, lenOk_6, Nat.reduceAdd, Nat.reduceLT, Nat.reduceLeDiff, Nat.reduceSub, Nat.reduceEqDiff, ne_eq, not_false_eq_true, not_true_eq_false, decide_eq_true_eq, List.mem_cons, List.not_mem_nil, or_false, false_or, true_or, or_true, if_false, Option.map_some, decide_not, decide_true, decide_false, Nat.lt_irrefl, cmp_eq, cmp_ne, cmp_eqb, cmp_neb, List.any_cons, List.any_nil, reduceCtorEq, beq_self_eq_true, Bool.or_self, plainOwn, List.all_cons, List.all_nil, PV.lst.injEq, mu_append, mu_reverse, mu_pop, List.getElem?_cons_succ, List.getElem?_cons_zero, List.getElem?_nil, Option.bind_some, Option.bind_none, id, pures_nat]
  refine ⟨lenOk_of (by rw [List.length_map]; omega), ?_⟩
  refine lc_map (fun o : Nat => PV.int (o : Int)) (fun o => [PV.bl (decide (o &&& n = 0))]) (fun ρ => ∃ y, ρ = [some (.tup (t.map fun n : Nat => .int (n : Int))), some (.int (n : Int)), y]) t ⟨_, rfl⟩ ?_ ?_
  · rintro o ho ρ ⟨y, rfl⟩
    simp only [↓reduceIte, ↓w_lit, ↓w_rd, ↓w_vw, ↓w_fz, ↓w_mv, ↓w_bin, ↓w_un, ↓w_cmp, ↓w_sub, ↓w_slc, ↓w_bi, ↓w_isi, ↓w_bm, ↓w_bk, ↓w_frz, ↓w_not, ↓w_ite, ↓w_tup, ↓w_lst, ↓w_mu, ↓w_call, ↓w_lc, ↓w_lc2, ↓w_bop, ↓w_b1, ↓w_b2, ↓w_es0, ↓w_es, ↓w_as0, ↓w_as1, ↓w_as2, ↓w_c0, ↓w_c1, ↓w_seq, ↓w_range1, ↓w_range2, ↓w_enum, ↓w_zip, ↓s_nil, ↓s_one, ↓s_consN, ↓s_set, ↓s_setAt, ↓s_par, ↓s_aug, ↓s_expr, ↓s_ite, ↓s_for, ↓s_ret, ↓s_retN, ↓s_brk, ↓s_cont, ↓s_pass, ↓wpo_some, ↓wp_ok, ↓wpc_ok, ↓wps_nx, ↓wps_rt, ↓wps_bk, ↓wps_ct, ↓wpb_bl, ↓wpi_int, ↓wpo_need, ↓wpo_bind, ↓wpo_map, need_t, getE_0, getE_s, getE_1, getE_2, getE_3, getE_4, getE_5, getE_6, getE_7, getE_8, getE_9, getE_10, getE_11, getE_12, getE_13, getE_14, getE_15, List.set_cons_zero, List.set_cons_succ, asgT, asgTs, unpk, opUn, obSem, opIsi, bmSem, bkSem, Ev.numsOf, isLst, itemsOf, itemsZ, fillAs, backAs, augOp, E.v, E.q, Es.q, Es.vs, As.q, ownOk, PV.pure, pures, PV.frz, frzs, PV.isN, Bool.and_true, Bool.true_and, Bool.or_true, Bool.true_or, Bool.not_true, Bool.not_false, Bool.false_and, Bool.and_false, Bool.or_false, Bool.false_or, List.length_cons, List.length_nil, List.map_cons, List.map_nil, List.replicate, List.cons_append, List.nil_append, true_and, and_true, if_true, Option.isSome_some, backIo, Ev.op_add, Ev.op_sub, Ev.op_mul, Ev.op_div, Ev.op_mod, Ev.op_pow, Ev.op_and, Ev.op_or, Ev.op_lcat, Ev.op_tcat, cmp_lt, cmp_le, cmp_gt, cmp_ge, cmp_is, cmp_isn, sub_t0, sub_t1, sub_t2, sub_l0, sub_l1, sub_l2, sub_tn, sub_ln, eq_self, decide_true, decide_false, exists_eq_left', wipeE, backE, lenOk_0, lenOk_1, lenOk_2, lenOk_3, lenOk_4, lenOk_5, lenOk_6, Nat.reduceAdd, Nat.reduceLT, Nat.reduceLeDiff, Nat.reduceSub, Nat.reduceEqDiff, ne_eq, not_false_eq_true, not_true_eq_false, decide_eq_true_eq, List.mem_cons, List.not_mem_nil, or_false, false_or, true_or, or_true, if_false, Option.map_some, decide_not, decide_true, decide_false, Nat.lt_irrefl, cmp_eq, cmp_ne, cmp_eqb, cmp_neb, List.any_cons, List.any_nil, reduceCtorEq, beq_self_eq_true, Bool.or_self, plainOwn, List.all_cons, List.all_nil, PV.lst.injEq, mu_append, mu_reverse, mu_pop, List.getElem?_cons_succ, List.getElem?_cons_zero, List.getElem?_nil, Option.bind_some, Option.bind_none, id, ↓w_elt, band]
    refine ⟨?_, _, rfl⟩
    have e : decide (((o &&& n : Nat) : Int) = 0) = decide (o &&& n = 0) := decide_eq_decide.mpr ⟨fun h => by omega, fun h => by rw [h]; rfl⟩
    rw [e]
  · rintro ρ ⟨y, rfl⟩
    simp only [↓reduceIte, ↓w_lit, ↓w_rd, ↓w_vw, ↓w_fz, ↓w_mv, ↓w_bin, ↓w_un, ↓w_cmp, ↓w_sub, ↓w_slc, ↓w_bi, ↓w_isi, ↓w_bm, ↓w_bk, ↓w_frz, ↓w_not, ↓w_ite, ↓w_tup, ↓w_lst, ↓w_mu, ↓w_call, ↓w_lc, ↓w_lc2, ↓w_bop, ↓w_b1, ↓w_b2, ↓w_es0, ↓w_es, ↓w_as0, ↓w_as1, ↓w_as2, ↓w_c0, ↓w_c1, ↓w_seq, ↓w_range1, ↓w_range2, ↓w_enum, ↓w_zip, ↓s_nil, ↓s_one, ↓s_consN, ↓s_set, ↓s_setAt, ↓s_par, ↓s_aug, ↓s_expr, ↓s_ite, ↓s_for, ↓s_ret, ↓s_retN, ↓s_brk, ↓s_cont, ↓s_pass, ↓wpo_some, ↓wp_ok, ↓wpc_ok, ↓wps_nx, ↓wps_rt, ↓wps_bk, ↓wps_ct, ↓wpb_bl, ↓wpi_int, ↓wpo_need, ↓wpo_bind, ↓wpo_map, need_t, getE_0, getE_s, getE_1, getE_2, getE_3, getE_4, getE_5, getE_6, getE_7, getE_8, getE_9, getE_10, getE_11, getE_12, getE_13, getE_14, getE_15, List.set_cons_zero, List.set_cons_succ, asgT, asgTs, unpk, opUn, obSem, opIsi, bmSem, bkSem, Ev.numsOf, isLst, itemsOf, itemsZ, fillAs, backAs, augOp, E.v, E.q, Es.q, Es.vs, As.q, ownOk, PV.pure, pures, PV.frz, frzs, PV.isN, Bool.and_true, Bool.true_and, Bool.or_true, Bool.true_or, Bool.not_true, Bool.not_false, Bool.false_and, Bool.and_false, Bool.or_false, Bool.false_or, List.length_cons, List.length_nil, List.map_cons, List.map_nil, List.replicate, List.cons_append, List.nil_append, true_and, and_true, if_true, Option.isSome_some, backIo, Ev.op_add, Ev.op_sub, Ev.op_mul, Ev.op_div, Ev.op_mod, Ev.op_pow, Ev.op_and, Ev.op_or, Ev.op_lcat, Ev.op_tcat, cmp_lt, cmp_le, cmp_gt, cmp_ge, cmp_is, cmp_isn, sub_t0, sub_t1, sub_t2, sub_l0, sub_l1, sub_l2, sub_tn, sub_ln, eq_self, decide_true, decide_false, exists_eq_left', wipeE, backE, lenOk_0, lenOk_1, lenOk_2, lenOk_3, lenOk_4, lenOk_5, lenOk_6, Nat.reduceAdd, Nat.reduceLT, Nat.reduceLeDiff, Nat.reduceSub, Nat.reduceEqDiff, ne_eq, not_false_eq_true, not_true_eq_false, decide_eq_true_eq, List.mem_cons, List.not_mem_nil, or_false, false_or, true_or, or_true, if_false, Option.map_some, decide_not, decide_true, decide_false, Nat.lt_irrefl, cmp_eq, cmp_ne, cmp_eqb, cmp_neb, List.any_cons, List.any_nil, reduceCtorEq, beq_self_eq_true, Bool.or_self, plainOwn, List.all_cons, List.all_nil, PV.lst.injEq, mu_append, mu_reverse, mu_pop, List.getElem?_cons_succ, List.getElem?_cons_zero, List.getElem?_nil, Option.bind_some, Option.bind_none, id, asBls_map]
    unfold free'
    congr 1
    rw [List.all_map]
    rfl

theorem rangeP_map (n : Nat) : rangeP 0 (n : Int).toNat = (List.range n).map fun i : Nat => .int (i : Int) := by
  unfold rangeP
  rw [Int.toNat_natCast]
  refine List.map_congr_left fun i _ => ?_
  rw [Int.zero_add]
theorem flat_filter {α β : Type} (p : α → Bool) (f : α → β) : ∀ l : List α, (l.flatMap fun a => if p a = true then [f a] else []) = (l.filter p).map f
  | [] => rfl
  | a :: l => by
    rw [List.flatMap_cons, flat_filter p f l, List.filter_cons]
    split <;> rfl
theorem shs_len {s : Nat} : ∀ {k : Nat} {t : List Nat}, t ∈ shs s k → t.length = k
  | 0, t, h => by
    have : t = [] := by simpa [shs] using h
    subst this; rfl
  | k + 1, t, h => by
    simp only [shs, step, List.mem_flatMap, List.mem_map, List.mem_filter] at h
    obtain ⟨u, hu, n, _, rfl⟩ := h
    simp [shs_len hu]
theorem step_len {s : Nat} : ∀ (l : List (List Nat)), (step s l).length ≤ l.length * s
  | [] => by simp [step]
  | t :: l => by
    have ih := step_len (s := s) l
    unfold step at ih ⊢
    rw [List.flatMap_cons, List.length_append, List.length_map, List.length_cons, Nat.add_mul]
    have := List.length_filter_le (free' t) (List.range s)
    rw [List.length_range] at this
    omega
theorem shs_many {s : Nat} (hs : s ≤ 8) : ∀ k : Nat, (shs s k).length ≤ 8 ^ k
  | 0 => by simp [shs]
  | k + 1 => by
    have h := step_len (s := s) (shs s k)
    have ih := shs_many hs k
    show (step s (shs s k)).length ≤ _
    rw [Nat.pow_succ]
    exact Nat.le_trans h (Nat.mul_le_mul ih hs)
def SL (l : List (List Nat)) : PV := .lst false (l.map TV)
theorem pures_RV (rows : List (List Int)) : pures (rows.map RV) = true := by
  induction rows with
  | nil => rfl
  | cons r rows ih => rw [List.map_cons, pures, ih]; simp only [RV, PV.pure, pures_int]; rfl
theorem pures_TV (l : List (List Nat)) : pures (l.map TV) = true := by
  induction l with
  | nil => rfl
  | cons r rows ih => rw [List.map_cons, pures, ih]; simp only [TV, PV.pure, pures_nat]; rfl
theorem frzs_of {l : List PV} (h : ∀ p ∈ l, p.frz = p) : frzs l = l := by
  induction l with
  | nil => rfl
  | cons p l ih => rw [frzs, h p (List.mem_cons_self ..), ih fun q hq => h q (List.mem_cons_of_mem _ hq)]
theorem frz_TV (t : List Nat) : (TV t).frz = TV t := by
  show PV.tup (frzs _) = _
  rw [frzs_of]; · rfl
  · intro p hp
    obtain ⟨n, _, e⟩ := List.mem_map.mp hp
    subst e; rfl
theorem frz_RV (r : List Int) : (RV r).frz = RV r := by
  show PV.tup (frzs _) = _
  rw [frzs_of]; · rfl
  · intro p hp
    obtain ⟨n, _, e⟩ := List.mem_map.mp hp
    subst e; rfl
theorem frz_BV (rows : List (List Int)) : (BV rows).frz = BV rows := by
  show PV.tup (frzs _) = _
  rw [frzs_of]; · rfl
  · intro p hp
    obtain ⟨n, _, e⟩ := List.mem_map.mp hp
    subst e; exact frz_RV n
theorem frzs_TV (l : List (List Nat)) : frzs (l.map TV) = l.map TV := frzs_of fun p hp => by
  obtain ⟨n, _, e⟩ := List.mem_map.mp hp
  subst e; exact frz_TV n
theorem pure_TV (t : List Nat) : (TV t).pure = true := pures_nat t
theorem pure_RV (t : List Int) : (RV t).pure = true := pures_int t
theorem pure_BV (t : List (List Int)) : (BV t).pure = true := pures_RV t
theorem pure_SL (l : List (List Nat)) : (SL l).pure = true := by unfold SL; rw [PV.pure, pures_TV]; rfl
theorem step_TV (s : Nat) (l : List (List Nat)) : (l.flatMap fun t => ((List.range s).filter (free' t)).map fun n => TV (t ++ [n])) = (step s l).map TV := by
  unfold step
  rw [List.map_flatMap]
  congr 1
  funext t
  rw [List.map_map]; rfl
def Rows (s : Nat) (rows : List (List Int)) : Prop := s ≤ 8 ∧ rows.length ≤ 4 ∧ ∀ r ∈ rows, r.length = s
theorem sharings_t {d s : Nat} {rows : List (List Int)} (h : Rows s rows) : run (d + 2) 1 [BV rows] = .ok (SL (shs s rows.length)) [BV rows] := by
  obtain ⟨hs, hn, hr⟩ := h
  refine eq_of (w_fn at_sharings rfl ?_)
  simp only [f_sharings, ↓reduceIte, ↓w_lit, ↓w_rd, ↓w_vw, ↓w_fz, ↓w_mv, ↓w_bin, ↓w_un, ↓w_cmp, ↓w_sub, ↓w_slc, ↓w_bi, ↓w_isi, ↓w_bm, ↓w_bk, ↓w_frz, ↓w_not, ↓w_ite, ↓w_tup, ↓w_lst, ↓w_mu, ↓w_call, ↓w_lc, ↓w_lc2, ↓w_bop, ↓w_b1, ↓w_b2, ↓w_es0, ↓w_es, ↓w_as0, ↓w_as1, ↓w_as2, ↓w_c0, ↓w_c1, ↓w_seq, ↓w_range1, ↓w_range2, ↓w_enum, ↓w_zip, ↓s_nil, ↓s_one, ↓s_consN, ↓s_set, ↓s_setAt, ↓s_par, ↓s_aug, ↓s_expr, ↓s_ite, ↓s_for, ↓s_ret, ↓s_retN, ↓s_brk, ↓s_cont, ↓s_pass, ↓wpo_some, ↓wp_ok, ↓wpc_ok, ↓wps_nx, ↓wps_rt, ↓wps_bk, ↓wps_ct, ↓wpb_bl, ↓wpi_int, ↓wpo_need, ↓wpo_bind, ↓wpo_map, need_t, getE_0, getE_s, getE_1, getE_2, getE_3, getE_4, getE_5, getE_6, getE_7, getE_8, getE_9, getE_10, getE_11, getE_12, getE_13, getE_14, getE_15, List.set_cons_zero, List.set_cons_succ, asgT, asgTs, unpk, opUn, obSem, opIsi, bmSem, bkSem, Ev.numsOf, isLst, itemsOf, itemsZ, fillAs, backAs, augOp, E.v, E.q, Es.q, Es.vs, As.q, ownOk, PV.pure, pures, PV.frz, frzs, PV.isN, Bool.and_true, Bool.true_and, Bool.or_true, Bool.true_or, Bool.not_true, Bool.not_false, Bool.false_and, Bool.and_false, Bool.or_false, Bool.false_or, List.length_cons, List.length_nil, List.map_cons, List.map_nil, List.replicate, List.cons_append, List.nil_append, true_and, and_true, if_true, Option.isSome_some, backIo, Ev.op_add, Ev.op_sub, Ev.op_mul, Ev.op_div, Ev.op_mod, Ev.op_pow, Ev.op_and, Ev.op_or, Ev.op_lcat, Ev.op_tcat, cmp_lt, cmp_le, cmp_gt, cmp_ge, cmp_is, cmp_isn, sub_t0, sub_t1, sub_t2, sub_l0, sub_l1, sub_l2, sub_tn, sub_ln, eq_self, decide_true, decide_false, exists_eq_left', wipeE, backE, lenOk_0, lenOk_1, lenOk_2, lenOk_3, lenOk_4, lenOk_5, lenOk_6, Nat.reduceAdd, Nat.reduceLT, Nat.reduceLeDiff, Nat.reduceSub, Nat.reduceEqDiff, ne_eq, not_false_eq_true, not_true_eq_false, decide_eq_true_eq, List.mem_cons, List.not_mem_nil, or_false, false_or, true_or, or_true, if_false, Option.map_some, decide_not, decide_true, decide_false, Nat.lt_irrefl, cmp_eq, cmp_ne, cmp_eqb, cmp_neb, List.any_cons, List.any_nil, reduceCtorEq, beq_self_eq_true, Bool.or_self, plainOwn, List.all_cons, List.all_nil, PV.lst.injEq, mu_append, mu_reverse, mu_pop, List.getElem?_cons_succ, List.getElem?_cons_zero, List.getElem?_nil, Option.bind_some, Option.bind_none, id]
  rw [seqN_app]
  simp only [↓reduceIte, ↓w_lit, ↓w_rd, ↓w_vw, ↓w_fz, ↓w_mv, ↓w_bin, ↓w_un, ↓w_cmp, ↓w_sub, ↓w_slc, ↓w_bi, ↓w_isi, ↓w_bm, ↓w_bk, ↓w_frz, ↓w_not, ↓w_ite, ↓w_tup, ↓w_lst, ↓w_mu, ↓w_call, ↓w_lc, ↓w_lc2, ↓w_bop, ↓w_b1, ↓w_b2, ↓w_es0, ↓w_es, ↓w_as0, ↓w_as1, ↓w_as2, ↓w_c0, ↓w_c1, ↓w_seq, ↓w_range1, ↓w_range2, ↓w_enum, ↓w_zip, ↓s_nil, ↓s_one, ↓s_consN, ↓s_set, ↓s_setAt, ↓s_par, ↓s_aug, ↓s_expr, ↓s_ite, ↓s_for, ↓s_ret, ↓s_retN, ↓s_brk, ↓s_cont, ↓s_pass, ↓wpo_some, ↓wp_ok, ↓wpc_ok, ↓wps_nx, ↓wps_rt, ↓wps_bk, ↓wps_ct, ↓wpb_bl, ↓wpi_int, ↓wpo_need, ↓wpo_bind, ↓wpo_map, need_t, getE_0, getE_s, getE_1, getE_2, getE_3, getE_4, getE_5, getE_6, getE_7, getE_8, getE_9, getE_10, getE_11, getE_12, getE_13, getE_14, getE_15, List.set_cons_zero, List.set_cons_succ, asgT, asgTs, unpk, opUn, obSem, opIsi, bmSem, bkSem, Ev.numsOf, isLst, itemsOf, itemsZ, fillAs, backAs, augOp, E.v, E.q, Es.q, Es.vs, As.q, ownOk, PV.pure, pures, PV.frz, frzs, PV.isN, Bool.and_true, Bool.true_and, Bool.or_true, Bool.true_or, Bool.not_true, Bool.not_false, Bool.false_and, Bool.and_false, Bool.or_false, Bool.false_or, List.length_cons, List.length_nil, List.map_cons, List.map_nil, List.replicate, List.cons_append, List.nil_append, true_and, and_true, if_true, Option.isSome_some, backIo, Ev.op_add, Ev.op_sub, Ev.op_mul, Ev.op_div, Ev.op_mod, Ev.op_pow, Ev.op_and, Ev.op_or, Ev.op_lcat, Ev.op_tcat, cmp_lt, cmp_le, cmp_gt, cmp_ge, cmp_is, cmp_isn, sub_t0, sub_t1, sub_t2, sub_l0, sub_l1, sub_l2, sub_tn, sub_ln, eq_self, decide_true, decide_false, exists_eq_left', wipeE, backE, lenOk_0, lenOk_1, lenOk_2, lenOk_3, lenOk_4, lenOk_5, lenOk_6, Nat.reduceAdd, Nat.reduceLT, Nat.reduceLeDiff, Nat.reduceSub, Nat.reduceEqDiff, ne_eq, not_false_eq_true, not_true_eq_false, decide_eq_true_eq, List.mem_cons, List.not_mem_nil, or_false, false_or, true_or, or_true, if_false, Option.map_some, decide_not, decide_true, decide_false, Nat.lt_irrefl, cmp_eq, cmp_ne, cmp_eqb, cmp_neb, List.any_cons, List.any_nil, reduceCtorEq, beq_self_eq_true, Bool.or_self, plainOwn, List.all_cons, List.all_nil, PV.lst.injEq, mu_append, mu_reverse, mu_pop, List.getElem?_cons_succ, List.getElem?_cons_zero, List.getElem?_nil, Option.bind_some, Option.bind_none, id, pure_BV]
  show wpo (itemsOf (BV rows)) _
  simp only [BV, ↓reduceIte, ↓w_lit, ↓w_rd, ↓w_vw, ↓w_fz, ↓w_mv, ↓w_bin, ↓w_un, ↓w_cmp, ↓w_sub, ↓w_slc, ↓w_bi, ↓w_isi, ↓w_bm, ↓w_bk, ↓w_frz, ↓w_not, ↓w_ite, ↓w_tup, ↓w_lst, ↓w_mu, ↓w_call, ↓w_lc, ↓w_lc2, ↓w_bop, ↓w_b1, ↓w_b2, ↓w_es0, ↓w_es, ↓w_as0, ↓w_as1, ↓w_as2, ↓w_c0, ↓w_c1, ↓w_seq, ↓w_range1, ↓w_range2, ↓w_enum, ↓w_zip, ↓s_nil, ↓s_one, ↓s_consN, ↓s_set, ↓s_setAt, ↓s_par, ↓s_aug, ↓s_expr, ↓s_ite, ↓s_for, ↓s_ret, ↓s_retN, ↓s_brk, ↓s_cont, ↓s_pass, ↓wpo_some, ↓wp_ok, ↓wpc_ok, ↓wps_nx, ↓wps_rt, ↓wps_bk, ↓wps_ct, ↓wpb_bl, ↓wpi_int, ↓wpo_need, ↓wpo_bind, ↓wpo_map, need_t, getE_0, getE_s, getE_1, getE_2, getE_3, getE_4, getE_5, getE_6, getE_7, getE_8, getE_9, getE_10, getE_11, getE_12, getE_13, getE_14, getE_15, List.set_cons_zero, List.set_cons_succ, asgT, asgTs, unpk, opUn, obSem, opIsi, bmSem, bkSem, Ev.numsOf, isLst, itemsOf, itemsZ, fillAs, backAs, augOp, E.v, E.q, Es.q, Es.vs, As.q, ownOk, PV.pure, pures, PV.frz, frzs, PV.isN, Bool.and_true, Bool.true_and, Bool.or_true, Bool.true_or, Bool.not_true, Bool.not_false, Bool.false_and, Bool.and_false, Bool.or_false, Bool.false_or, List.length_cons, List.length_nil, List.map_cons, List.map_nil, List.replicate, List.cons_append, List.nil_append, true_and, and_true, if_true, Option.isSome_some, backIo, Ev.op_add, Ev.op_sub, Ev.op_mul, Ev.op_div, Ev.op_mod, Ev.op_pow, Ev.op_and, Ev.op_or, Ev.op_lcat, Ev.op_tcat, cmp_lt, cmp_le, cmp_gt, cmp_ge, cmp_is, cmp_isn, sub_t0, sub_t1, sub_t2, sub_l0, sub_l1, sub_l2, sub_tn, sub_ln, eq_self, decide_true, decide_false, exists_eq_left', wipeE, backE, lenOk_0, lenOk_1, lenOk_2, lenOk_3, lenOk_4, lenOk_5, lenOk_6, Nat.reduceAdd, Nat.reduceLT, Nat.reduceLeDiff, Nat.reduceSub, Nat.reduceEqDiff, ne_eq, not_false_eq_true, not_true_eq_false, decide_eq_true_eq, List.mem_cons, List.not_mem_nil, or_false, false_or, true_or, or_true, if_false, Option.map_some, decide_not, decide_true, decide_false, Nat.lt_irrefl, cmp_eq, cmp_ne, cmp_eqb, cmp_neb, List.any_cons, List.any_nil, reduceCtorEq, beq_self_eq_true, Bool.or_self, plainOwn, List.all_cons, List.all_nil, PV.lst.injEq, mu_append, mu_reverse, mu_pop, List.getElem?_cons_succ, List.getElem?_cons_zero, List.getElem?_nil, Option.bind_some, Option.bind_none, id]
  refine for_inv (fun xs ρ => ∃ a b y, a ++ b = rows ∧ xs = b.map RV ∧ ρ = [some (BV rows), some (SL (shs s a.length)), y, none, none]) ?_ ?_ _ _ ⟨[], rows, _, rfl, rfl, rfl⟩
  · rintro x xs ρ ⟨a, b, y, hab, hb, rfl⟩
    cases b with
    | nil => cases hb
    | cons r b =>
      rw [List.map_cons] at hb
      injection hb with h1 h2
      subst h1; subst h2
      have hra : r.length = s := hr r (by rw [← hab]; simp)
      have hal : a.length < 4 := by
        have := congrArg List.length hab
        simp at this; omega
      simp only [↓reduceIte, ↓w_lit, ↓w_rd, ↓w_vw, ↓w_fz, ↓w_mv, ↓w_bin, ↓w_un, ↓w_cmp, ↓w_sub, ↓w_slc, ↓w_bi, ↓w_isi, ↓w_bm, ↓w_bk, ↓w_frz, ↓w_not, ↓w_ite, ↓w_tup, ↓w_lst, ↓w_mu, ↓w_call, ↓w_lc, ↓w_lc2, ↓w_bop, ↓w_b1, ↓w_b2, ↓w_es0, ↓w_es, ↓w_as0, ↓w_as1, ↓w_as2, ↓w_c0, ↓w_c1, ↓w_seq, ↓w_range1, ↓w_range2, ↓w_enum, ↓w_zip, ↓s_nil, ↓s_one, ↓s_consN, ↓s_set, ↓s_setAt, ↓s_par, ↓s_aug, ↓s_expr, ↓s_ite, ↓s_for, ↓s_ret, ↓s_retN, ↓s_brk, ↓s_cont, ↓s_pass, ↓wpo_some, ↓wp_ok, ↓wpc_ok, ↓wps_nx, ↓wps_rt, ↓wps_bk, ↓wps_ct, ↓wpb_bl, ↓wpi_int, ↓wpo_need, ↓wpo_bind, ↓wpo_map, need_t, getE_0, getE_s, getE_1, getE_2, getE_3, getE_4, getE_5, getE_6, getE_7, getE_8, getE_9, getE_10, getE_11, getE_12, getE_13, getE_14, getE_15, List.set_cons_zero, List.set_cons_succ, asgT, asgTs, unpk, opUn, obSem, opIsi, bmSem, bkSem, Ev.numsOf, isLst, itemsOf, itemsZ, fillAs, backAs, augOp, E.v, E.q, Es.q, Es.vs, As.q, ownOk, PV.pure, pures, PV.frz, frzs, PV.isN, Bool.and_true, Bool.true_and, Bool.or_true, Bool.true_or, Bool.not_true, Bool.not_false, Bool.false_and, Bool.and_false, Bool.or_false, Bool.false_or, List.length_cons, List.length_nil, List.map_cons, List.map_nil, List.replicate, List.cons_append, List.nil_append, true_and, and_true, if_true, Option.isSome_some, backIo, Ev.op_add, Ev.op_sub, Ev.op_mul, Ev.op_div, Ev.op_mod, Ev.op_pow, Ev.op_and, Ev.op_or, Ev.op_lcat, Ev.op_tcat, cmp_lt, cmp_le, cmp_gt, cmp_ge, cmp_is, cmp_isn, sub_t0, sub_t1, sub_t2, sub_l0, sub_l1, sub_l2, sub_tn, sub_ln, eq_self, decide_true, decide_false, exists_eq_left', wipeE, backE, lenOk_0, lenOk_1, lenOk_2, lenOk_3, lenOk_4, lenOk_5, lenOk_6, Nat.reduceAdd, Nat.reduceLT, Nat.reduceLeDiff, Nat.reduceSub, Nat.reduceEqDiff, ne_eq, not_false_eq_true, not_true_eq_false, decide_eq_true_eq, List.mem_cons, List.not_mem_nil, or_false, false_or, true_or, or_true, if_false, Option.map_some, decide_not, decide_true, decide_false, Nat.lt_irrefl, cmp_eq, cmp_ne, cmp_eqb, cmp_neb, List.any_cons, List.any_nil, reduceCtorEq, beq_self_eq_true, Bool.or_self, plainOwn, List.all_cons, List.all_nil, PV.lst.injEq, mu_append, mu_reverse, mu_pop, List.getElem?_cons_succ, List.getElem?_cons_zero, List.getElem?_nil, Option.bind_some, Option.bind_none, id, pure_SL]
      show wpo (itemsOf (.lst false ((shs s a.length).map TV))) _
      simp only [↓reduceIte, ↓w_lit, ↓w_rd, ↓w_vw, ↓w_fz, ↓w_mv, ↓w_bin, ↓w_un, ↓w_cmp, ↓w_sub, ↓w_slc, ↓w_bi, ↓w_isi, ↓w_bm, ↓w_bk, ↓w_frz, ↓w_not, ↓w_ite, ↓w_tup, ↓w_lst, ↓w_mu, ↓w_call, ↓w_lc, ↓w_lc2, ↓w_bop, ↓w_b1, ↓w_b2, ↓w_es0, ↓w_es, ↓w_as0, ↓w_as1, ↓w_as2, ↓w_c0, ↓w_c1, ↓w_seq, ↓w_range1, ↓w_range2, ↓w_enum, ↓w_zip, ↓s_nil, ↓s_one, ↓s_consN, ↓s_set, ↓s_setAt, ↓s_par, ↓s_aug, ↓s_expr, ↓s_ite, ↓s_for, ↓s_ret, ↓s_retN, ↓s_brk, ↓s_cont, ↓s_pass, ↓wpo_some, ↓wp_ok, ↓wpc_ok, ↓wps_nx, ↓wps_rt, ↓wps_bk, ↓wps_ct, ↓wpb_bl, ↓wpi_int, ↓wpo_need, ↓wpo_bind, ↓wpo_map, need_t, getE_0, getE_s, getE_1, getE_2, getE_3, getE_4, getE_5, getE_6, getE_7, getE_8, getE_9, getE_10, getE_11, getE_12, getE_13, getE_14, getE_15, List.set_cons_zero, List.set_cons_succ, asgT, asgTs, unpk, opUn, obSem, opIsi, bmSem, bkSem, Ev.numsOf, isLst, itemsOf, itemsZ, fillAs, backAs, augOp, E.v, E.q, Es.q, Es.vs, As.q, ownOk, PV.pure, pures, PV.frz, frzs, PV.isN, Bool.and_true, Bool.true_and, Bool.or_true, Bool.true_or, Bool.not_true, Bool.not_false, Bool.false_and, Bool.and_false, Bool.or_false, Bool.false_or, List.length_cons, List.length_nil, List.map_cons, List.map_nil, List.replicate, List.cons_append, List.nil_append, true_and, and_true, if_true, Option.isSome_some, backIo, Ev.op_add, Ev.op_sub, Ev.op_mul, Ev.op_div, Ev.op_mod, Ev.op_pow, Ev.op_and, Ev.op_or, Ev.op_lcat, Ev.op_tcat, cmp_lt, cmp_le, cmp_gt, cmp_ge, cmp_is, cmp_isn, sub_t0, sub_t1, sub_t2, sub_l0, sub_l1, sub_l2, sub_tn, sub_ln, eq_self, decide_true, decide_false, exists_eq_left', wipeE, backE, lenOk_0, lenOk_1, lenOk_2, lenOk_3, lenOk_4, lenOk_5, lenOk_6, Nat.reduceAdd, Nat.reduceLT, Nat.reduceLeDiff, Nat.reduceSub, Nat.reduceEqDiff, ne_eq, not_false_eq_true, not_true_eq_false, decide_eq_true_eq, List.mem_cons, List.not_mem_nil, or_false, false_or, true_or, or_true, if_false, Option.map_some, decide_not, decide_true, decide_false, Nat.lt_irrefl, cmp_eq, cmp_ne, cmp_eqb, cmp_neb, List.any_cons, List.any_nil, reduceCtorEq, beq_self_eq_true, Bool.or_self, plainOwn, List.all_cons, List.all_nil, PV.lst.injEq, mu_append, mu_reverse, mu_pop, List.getElem?_cons_succ, List.getElem?_cons_zero, List.getElem?_nil, Option.bind_some, Option.bind_none, id, pures_TV]
      have hm : (shs s a.length).length ≤ 8 ^ 3 := Nat.le_trans (shs_many hs _) (Nat.pow_le_pow_right (by omega) (by omega))
      have e8 : (8 : Nat) ^ 3 = 512 := rfl
      refine lc_map TV (fun t => ((List.range s).filter (free' t)).map fun n => TV (t ++ [n])) (fun ρ => ∃ y z, ρ = [some (BV rows), some (SL (shs s a.length)), some (RV r), y, z]) _ ⟨_, _, rfl⟩ ?_ ?_
      · rintro t ht ρ ⟨y, z, rfl⟩
        have htl := shs_len ht
        simp only [↓reduceIte, ↓w_lit, ↓w_rd, ↓w_vw, ↓w_fz, ↓w_mv, ↓w_bin, ↓w_un, ↓w_cmp, ↓w_sub, ↓w_slc, ↓w_bi, ↓w_isi, ↓w_bm, ↓w_bk, ↓w_frz, ↓w_not, ↓w_ite, ↓w_tup, ↓w_lst, ↓w_mu, ↓w_call, ↓w_lc, ↓w_lc2, ↓w_bop, ↓w_b1, ↓w_b2, ↓w_es0, ↓w_es, ↓w_as0, ↓w_as1, ↓w_as2, ↓w_c0, ↓w_c1, ↓w_seq, ↓w_range1, ↓w_range2, ↓w_enum, ↓w_zip, ↓s_nil, ↓s_one, ↓s_consN, ↓s_set, ↓s_setAt, ↓s_par, ↓s_aug, ↓s_expr, ↓s_ite, ↓s_for, ↓s_ret, ↓s_retN, ↓s_brk, ↓s_cont, ↓s_pass, ↓wpo_some, ↓wp_ok, ↓wpc_ok, ↓wps_nx, ↓wps_rt, ↓wps_bk, ↓wps_ct, ↓wpb_bl, ↓wpi_int, ↓wpo_need, ↓wpo_bind, ↓wpo_map, need_t, getE_0, getE_s, getE_1, getE_2, getE_3, getE_4, getE_5, getE_6, getE_7, getE_8, getE_9, getE_10, getE_11, getE_12, getE_13, getE_14, getE_15, List.set_cons_zero, List.set_cons_succ, asgT, asgTs, unpk, opUn, obSem, opIsi, bmSem, bkSem, Ev.numsOf, isLst, itemsOf, itemsZ, fillAs, backAs, augOp, E.v, E.q, Es.q, Es.vs, As.q, ownOk, PV.pure, pures, PV.frz, frzs, PV.isN, Bool.and_true, Bool.true_and, Bool.or_true, Bool.true_or, Bool.not_true, Bool.not_false, Bool.false_and, Bool.and_false, Bool.or_false, Bool.false_or, List.length_cons, List.length_nil, List.map_cons, List.map_nil, List.replicate, List.cons_append, List.nil_append, true_and, and_true, if_true, Option.isSome_some, backIo, Ev.op_add, Ev.op_sub, Ev.op_mul, Ev.op_div, Ev.op_mod, Ev.op_pow, Ev.op_and, Ev.op_or, Ev.op_lcat, Ev.op_tcat, cmp_lt, cmp_le, cmp_gt, cmp_ge, cmp_is, cmp_isn, sub_t0, sub_t1, sub_t2, sub_l0, sub_l1, sub_l2, sub_tn, sub_ln, eq_self, decide_true, decide_false, exists_eq_left', wipeE, backE, lenOk_0, lenOk_1, lenOk_2, lenOk_3, lenOk_4, lenOk_5, lenOk_6, Nat.reduceAdd, Nat.reduceLT, Nat.reduceLeDiff, Nat.reduceSub, Nat.reduceEqDiff, ne_eq, not_false_eq_true, not_true_eq_false, decide_eq_true_eq, List.mem_cons, List.not_mem_nil, or_false, false_or, true_or, or_true, if_false, Option.map_some, decide_not, decide_true, decide_false, Nat.lt_irrefl, cmp_eq, cmp_ne, cmp_eqb, cmp_neb, List.any_cons, List.any_nil, reduceCtorEq, beq_self_eq_true, Bool.or_self, plainOwn, List.all_cons, List.all_nil, PV.lst.injEq, mu_append, mu_reverse, mu_pop, List.getElem?_cons_succ, List.getElem?_cons_zero, List.getElem?_nil, Option.bind_some, Option.bind_none, id, wp_bind, RV, List.length_map, hra]
        rw [rangeP_map]
        have hbs : bnd62 (s : Int) = true := bnd_of (Nat.le_trans hs (by decide))
        refine ⟨pures_int r, hbs, ?_⟩
        refine lc_map (fun i : Nat => PV.int (i : Int)) (fun n => if free' t n = true then [TV (t ++ [n])] else []) (fun ρ => ∃ z, ρ = [some (BV rows), some (SL (shs s a.length)), some (RV r), some (TV t), z]) _ ⟨_, rfl⟩ ?_ ?_
        · rintro n hn' ρ ⟨z, rfl⟩
          have F := is_free_t (d := d) (t := t) (n := n) (by omega)
          simp only [↓reduceIte, ↓w_lit, ↓w_rd, ↓w_vw, ↓w_fz, ↓w_mv, ↓w_bin, ↓w_un, ↓w_cmp, ↓w_sub, ↓w_slc, ↓w_bi, ↓w_isi, ↓w_bm, ↓w_bk, ↓w_frz, ↓w_not, ↓w_ite, ↓w_tup, ↓w_lst, ↓w_mu, ↓w_call, ↓w_lc, ↓w_lc2, ↓w_bop, ↓w_b1, ↓w_b2, ↓w_es0, ↓w_es, ↓w_as0, ↓w_as1, ↓w_as2, ↓w_c0, ↓w_c1, ↓w_seq, ↓w_range1, ↓w_range2, ↓w_enum, ↓w_zip, ↓s_nil, ↓s_one, ↓s_consN, ↓s_set, ↓s_setAt, ↓s_par, ↓s_aug, ↓s_expr, ↓s_ite, ↓s_for, ↓s_ret, ↓s_retN, ↓s_brk, ↓s_cont, ↓s_pass, ↓wpo_some, ↓wp_ok, ↓wpc_ok, ↓wps_nx, ↓wps_rt, ↓wps_bk, ↓wps_ct, ↓wpb_bl, ↓wpi_int, ↓wpo_need, ↓wpo_bind, ↓wpo_map, need_t, getE_0, getE_s, getE_1, getE_2, getE_3, getE_4, getE_5, getE_6, getE_7, getE_8, getE_9, getE_10, getE_11, getE_12, getE_13, getE_14, getE_15, List.set_cons_zero, List.set_cons_succ, asgT, asgTs, unpk, opUn, obSem, opIsi, bmSem, bkSem, Ev.numsOf, isLst, itemsOf, itemsZ, fillAs, backAs, augOp, E.v, E.q, Es.q, Es.vs, As.q, ownOk, PV.pure, pures, PV.frz, frzs, PV.isN, Bool.and_true, Bool.true_and, Bool.or_true, Bool.true_or, Bool.not_true, Bool.not_false, Bool.false_and, Bool.and_false, Bool.or_false, Bool.false_or, List.length_cons, List.length_nil, List.map_cons, List.map_nil, List.replicate, List.cons_append, List.nil_append, true_and, and_true, if_true, Option.isSome_some, backIo, Ev.op_add, Ev.op_sub, Ev.op_mul, Ev.op_div, Ev.op_mod, Ev.op_pow, Ev.op_and, Ev.op_or, Ev.op_lcat, Ev.op_tcat, cmp_lt, cmp_le, cmp_gt, cmp_ge, cmp_is, cmp_isn, sub_t0, sub_t1, sub_t2, sub_l0, sub_l1, sub_l2, sub_tn, sub_ln, eq_self, decide_true, decide_false, exists_eq_left', wipeE, backE, lenOk_0, lenOk_1, lenOk_2, lenOk_3, lenOk_4, lenOk_5, lenOk_6, Nat.reduceAdd, Nat.reduceLT, Nat.reduceLeDiff, Nat.reduceSub, Nat.reduceEqDiff, ne_eq, not_false_eq_true, not_true_eq_false, decide_eq_true_eq, List.mem_cons, List.not_mem_nil, or_false, false_or, true_or, or_true, if_false, Option.map_some, decide_not, decide_true, decide_false, Nat.lt_irrefl, cmp_eq, cmp_ne, cmp_eqb, cmp_neb, List.any_cons, List.any_nil, reduceCtorEq, beq_self_eq_true, Bool.or_self, plainOwn, List.all_cons, List.all_nil, PV.lst.injEq, mu_append, mu_reverse, mu_pop, List.getElem?_cons_succ, List.getElem?_cons_zero, List.getElem?_nil, Option.bind_some, Option.bind_none, id, pure_TV, frz_TV, F, ↓w_elt]
          cases hf : free' t n with
          | true =>
            simp only [TV, ↓reduceIte, ↓w_lit, ↓w_rd, ↓w_vw, ↓w_fz, ↓w_mv, ↓w_bin, ↓w_un, ↓w_cmp, ↓w_sub, ↓w_slc, ↓w_bi, ↓w_isi, ↓w_bm, ↓w_bk, ↓w_frz, ↓w_not, ↓w_ite, ↓w_tup, ↓w_lst, ↓w_mu, ↓w_call, ↓w_lc, ↓w_lc2, ↓w_bop, ↓w_b1, ↓w_b2, ↓w_es0, ↓w_es, ↓w_as0, ↓w_as1, ↓w_as2, ↓w_c0, ↓w_c1, ↓w_seq, ↓w_range1, ↓w_range2, ↓w_enum, ↓w_zip, ↓s_nil, ↓s_one, ↓s_consN, ↓s_set, ↓s_setAt, ↓s_par, ↓s_aug, ↓s_expr, ↓s_ite, ↓s_for, ↓s_ret, ↓s_retN, ↓s_brk, ↓s_cont, ↓s_pass, ↓wpo_some, ↓wp_ok, ↓wpc_ok, ↓wps_nx, ↓wps_rt, ↓wps_bk, ↓wps_ct, ↓wpb_bl, ↓wpi_int, ↓wpo_need, ↓wpo_bind, ↓wpo_map, need_t, getE_0, getE_s, getE_1, getE_2, getE_3, getE_4, getE_5, getE_6, getE_7, getE_8, getE_9, getE_10, getE_11, getE_12, getE_13, getE_14, getE_15, List.set_cons_zero, List.set_cons_succ, asgT, asgTs, unpk, opUn, obSem, opIsi, bmSem, bkSem, Ev.numsOf, isLst, itemsOf, itemsZ, fillAs, backAs, augOp, E.v, E.q, Es.q, Es.vs, As.q, ownOk, PV.pure, pures, PV.frz, frzs, PV.isN, Bool.and_true, Bool.true_and, Bool.or_true, Bool.true_or, Bool.not_true, Bool.not_false, Bool.false_and, Bool.and_false, Bool.or_false, Bool.false_or, List.length_cons, List.length_nil, List.map_cons, List.map_nil, List.replicate, List.cons_append, List.nil_append, true_and, and_true, if_true, Option.isSome_some, backIo, Ev.op_add, Ev.op_sub, Ev.op_mul, Ev.op_div, Ev.op_mod, Ev.op_pow, Ev.op_and, Ev.op_or, Ev.op_lcat, Ev.op_tcat, cmp_lt, cmp_le, cmp_gt, cmp_ge, cmp_is, cmp_isn, sub_t0, sub_t1, sub_t2, sub_l0, sub_l1, sub_l2, sub_tn, sub_ln, eq_self, decide_true, decide_false, exists_eq_left', wipeE, backE, lenOk_0, lenOk_1, lenOk_2, lenOk_3, lenOk_4, lenOk_5, lenOk_6, Nat.reduceAdd, Nat.reduceLT, Nat.reduceLeDiff, Nat.reduceSub, Nat.reduceEqDiff, ne_eq, not_false_eq_true, not_true_eq_false, decide_eq_true_eq, List.mem_cons, List.not_mem_nil, or_false, false_or, true_or, or_true, if_false, Option.map_some, decide_not, decide_true, decide_false, Nat.lt_irrefl, cmp_eq, cmp_ne, cmp_eqb, cmp_neb, List.any_cons, List.any_nil, reduceCtorEq, beq_self_eq_true, Bool.or_self, plainOwn, List.all_cons, List.all_nil, PV.lst.injEq, mu_append, mu_reverse, mu_pop, List.getElem?_cons_succ, List.getElem?_cons_zero, List.getElem?_nil, Option.bind_some, Option.bind_none, id, pures_nat, List.length_map, htl]
            refine ⟨lenOk_of (by omega), ?_, _, rfl⟩
            rw [List.map_append]; rfl
          | false =>
            simp only [↓reduceIte, ↓w_lit, ↓w_rd, ↓w_vw, ↓w_fz, ↓w_mv, ↓w_bin, ↓w_un, ↓w_cmp, ↓w_sub, ↓w_slc, ↓w_bi, ↓w_isi, ↓w_bm, ↓w_bk, ↓w_frz, ↓w_not, ↓w_ite, ↓w_tup, ↓w_lst, ↓w_mu, ↓w_call, ↓w_lc, ↓w_lc2, ↓w_bop, ↓w_b1, ↓w_b2, ↓w_es0, ↓w_es, ↓w_as0, ↓w_as1, ↓w_as2, ↓w_c0, ↓w_c1, ↓w_seq, ↓w_range1, ↓w_range2, ↓w_enum, ↓w_zip, ↓s_nil, ↓s_one, ↓s_consN, ↓s_set, ↓s_setAt, ↓s_par, ↓s_aug, ↓s_expr, ↓s_ite, ↓s_for, ↓s_ret, ↓s_retN, ↓s_brk, ↓s_cont, ↓s_pass, ↓wpo_some, ↓wp_ok, ↓wpc_ok, ↓wps_nx, ↓wps_rt, ↓wps_bk, ↓wps_ct, ↓wpb_bl, ↓wpi_int, ↓wpo_need, ↓wpo_bind, ↓wpo_map, need_t, getE_0, getE_s, getE_1, getE_2, getE_3, getE_4, getE_5, getE_6, getE_7, getE_8, getE_9, getE_10, getE_11, getE_12, getE_13, getE_14, getE_15, List.set_cons_zero, List.set_cons_succ, asgT, asgTs, unpk, opUn, obSem, opIsi, bmSem, bkSem, Ev.numsOf, isLst, itemsOf, itemsZ, fillAs, backAs, augOp, E.v, E.q, Es.q, Es.vs, As.q, ownOk, PV.pure, pures, PV.frz, frzs, PV.isN, Bool.and_true, Bool.true_and, Bool.or_true, Bool.true_or, Bool.not_true, Bool.not_false, Bool.false_and, Bool.and_false, Bool.or_false, Bool.false_or, List.length_cons, List.length_nil, List.map_cons, List.map_nil, List.replicate, List.cons_append, List.nil_append, true_and, and_true, if_true, Option.isSome_some, backIo, Ev.op_add, Ev.op_sub, Ev.op_mul, Ev.op_div, Ev.op_mod, Ev.op_pow, Ev.op_and, Ev.op_or, Ev.op_lcat, Ev.op_tcat, cmp_lt, cmp_le, cmp_gt, cmp_ge, cmp_is, cmp_isn, sub_t0, sub_t1, sub_t2, sub_l0, sub_l1, sub_l2, sub_tn, sub_ln, eq_self, decide_true, decide_false, exists_eq_left', wipeE, backE, lenOk_0, lenOk_1, lenOk_2, lenOk_3, lenOk_4, lenOk_5, lenOk_6, Nat.reduceAdd, Nat.reduceLT, Nat.reduceLeDiff, Nat.reduceSub, Nat.reduceEqDiff, ne_eq, not_false_eq_true, not_true_eq_false, decide_eq_true_eq, List.mem_cons, List.not_mem_nil, or_false, false_or, true_or, or_true, if_false, Option.map_some, decide_not, decide_true, decide_false, Nat.lt_irrefl, cmp_eq, cmp_ne, cmp_eqb, cmp_neb, List.any_cons, List.any_nil, reduceCtorEq, beq_self_eq_true, Bool.or_self, plainOwn, List.all_cons, List.all_nil, PV.lst.injEq, mu_append, mu_reverse, mu_pop, List.getElem?_cons_succ, List.getElem?_cons_zero, List.getElem?_nil, Option.bind_some, Option.bind_none, id, if_neg Bool.false_ne_true]
            exact ⟨_, rfl⟩
        · rintro ρ ⟨z, rfl⟩
          rw [flat_filter]
          exact ⟨rfl, _, _, rfl⟩
      · rintro ρ ⟨y, z, rfl⟩
        rw [step_TV]
        have hm2 := step_len (s := s) (shs s a.length)
        have hm3 : (shs s a.length).length * s ≤ 512 * 8 := Nat.mul_le_mul (by omega) hs
        simp only [↓reduceIte, ↓w_lit, ↓w_rd, ↓w_vw, ↓w_fz, ↓w_mv, ↓w_bin, ↓w_un, ↓w_cmp, ↓w_sub, ↓w_slc, ↓w_bi, ↓w_isi, ↓w_bm, ↓w_bk, ↓w_frz, ↓w_not, ↓w_ite, ↓w_tup, ↓w_lst, ↓w_mu, ↓w_call, ↓w_lc, ↓w_lc2, ↓w_bop, ↓w_b1, ↓w_b2, ↓w_es0, ↓w_es, ↓w_as0, ↓w_as1, ↓w_as2, ↓w_c0, ↓w_c1, ↓w_seq, ↓w_range1, ↓w_range2, ↓w_enum, ↓w_zip, ↓s_nil, ↓s_one, ↓s_consN, ↓s_set, ↓s_setAt, ↓s_par, ↓s_aug, ↓s_expr, ↓s_ite, ↓s_for, ↓s_ret, ↓s_retN, ↓s_brk, ↓s_cont, ↓s_pass, ↓wpo_some, ↓wp_ok, ↓wpc_ok, ↓wps_nx, ↓wps_rt, ↓wps_bk, ↓wps_ct, ↓wpb_bl, ↓wpi_int, ↓wpo_need, ↓wpo_bind, ↓wpo_map, need_t, getE_0, getE_s, getE_1, getE_2, getE_3, getE_4, getE_5, getE_6, getE_7, getE_8, getE_9, getE_10, getE_11, getE_12, getE_13, getE_14, getE_15, List.set_cons_zero, List.set_cons_succ, asgT, asgTs, unpk, opUn, obSem, opIsi, bmSem, bkSem, Ev.numsOf, isLst, itemsOf, itemsZ, fillAs, backAs, augOp, E.v, E.q, Es.q, Es.vs, As.q, ownOk, PV.pure, pures, PV.frz, frzs, PV.isN, Bool.and_true, Bool.true_and, Bool.or_true, Bool.true_or, Bool.not_true, Bool.not_false, Bool.false_and, Bool.and_false, Bool.or_false, Bool.false_or, List.length_cons, List.length_nil, List.map_cons, List.map_nil, List.replicate, List.cons_append, List.nil_append, true_and, and_true, if_true, Option.isSome_some, backIo, Ev.op_add, Ev.op_sub, Ev.op_mul, Ev.op_div, Ev.op_mod, Ev.op_pow, Ev.op_and, Ev.op_or, Ev.op_lcat, Ev.op_tcat, cmp_lt, cmp_le, cmp_gt, cmp_ge, cmp_is, cmp_isn, sub_t0, sub_t1, sub_t2, sub_l0, sub_l1, sub_l2, sub_tn, sub_ln, eq_self, decide_true, decide_false, exists_eq_left', wipeE, backE, lenOk_0, lenOk_1, lenOk_2, lenOk_3, lenOk_4, lenOk_5, lenOk_6, Nat.reduceAdd, Nat.reduceLT, Nat.reduceLeDiff, Nat.reduceSub, Nat.reduceEqDiff, ne_eq, not_false_eq_true, not_true_eq_false, decide_eq_true_eq, List.mem_cons, List.not_mem_nil, or_false, false_or, true_or, or_true, if_false, Option.map_some, decide_not, decide_true, decide_false, Nat.lt_irrefl, cmp_eq, cmp_ne, cmp_eqb, cmp_neb, List.any_cons, List.any_nil, reduceCtorEq, beq_self_eq_true, Bool.or_self, plainOwn, List.all_cons, List.all_nil, PV.lst.injEq, mu_append, mu_reverse, mu_pop, List.getElem?_cons_succ, List.getElem?_cons_zero, List.getElem?_nil, Option.bind_some, Option.bind_none, id, frzs_TV, List.length_map]
        exact ⟨lenOk_of (by omega), a ++ [r], b, some (RV r), by simpa using hab, rfl, by simp [SL, shs]⟩
  · rintro ρ ⟨a, b, y, hab, hb, rfl⟩
    have : b = [] := by cases b <;> first | rfl | cases hb
    subst this
    rw [List.append_nil] at hab
    subst hab
    simp only [↓reduceIte, ↓w_lit, ↓w_rd, ↓w_vw, ↓w_fz, ↓w_mv, ↓w_bin, ↓w_un, ↓w_cmp, ↓w_sub, ↓w_slc, ↓w_bi, ↓w_isi, ↓w_bm, ↓w_bk, ↓w_frz, ↓w_not, ↓w_ite, ↓w_tup, ↓w_lst, ↓w_mu, ↓w_call, ↓w_lc, ↓w_lc2, ↓w_bop, ↓w_b1, ↓w_b2, ↓w_es0, ↓w_es, ↓w_as0, ↓w_as1, ↓w_as2, ↓w_c0, ↓w_c1, ↓w_seq, ↓w_range1, ↓w_range2, ↓w_enum, ↓w_zip, ↓s_nil, ↓s_one, ↓s_consN, ↓seqN_app, ↓s_set, ↓s_setAt, ↓s_par, ↓s_aug, ↓s_expr, ↓s_ite, ↓s_for, ↓s_ret, ↓s_retN, ↓s_brk, ↓s_cont, ↓s_pass, ↓wpo_some, ↓wp_ok, ↓wpc_ok, ↓wps_nx, ↓wps_rt, ↓wps_bk, ↓wps_ct, ↓wpb_bl, ↓wpi_int, ↓wpo_need, ↓wpo_bind, ↓wpo_map, need_t, getE_0, getE_s, getE_1, getE_2, getE_3, getE_4, getE_5, getE_6, getE_7, getE_8, getE_9, getE_10, getE_11, getE_12, getE_13, getE_14, getE_15, List.set_cons_zero, List.set_cons_succ, asgT, asgTs, unpk, opUn, obSem, opIsi, bmSem, bkSem, Ev.numsOf, isLst, itemsOf, itemsZ, fillAs, backAs, augOp, E.v, E.q, Es.q, Es.vs, As.q, ownOk, PV.pure, pures, PV.frz, frzs, PV.isN, Bool.and_true, Bool.true_and, Bool.or_true, Bool.true_or, Bool.not_true, Bool.not_false, Bool.false_and, Bool.and_false, Bool.or_false, Bool.false_or, List.length_cons, List.length_nil, List.map_cons, List.map_nil, List.replicate, List.cons_append, List.nil_append, true_and, and_true, if_true, Option.isSome_some, backIo, Ev.op_add, Ev.op_sub, Ev.op_mul, Ev.op_div, Ev.op_mod, Ev.op_pow, Ev.op_and, Ev.op_or, Ev.op_lcat, Ev.op_tcat, cmp_lt, cmp_le, cmp_gt, cmp_ge, cmp_is, cmp_isn, sub_t0, sub_t1, sub_t2, sub_l0, sub_l1, sub_l2, sub_tn, sub_ln, eq_self, decide_true, decide_false, exists_eq_left', wipeE, backE, lenOk_0, lenOk_1, lenOk_2, lenOk_3, lenOk_4, lenOk_5, lenOk_6, Nat.reduceAdd, Nat.reduceLT, Nat.reduceLeDiff, Nat.reduceSub, Nat.reduceEqDiff, ne_eq, not_false_eq_true, not_true_eq_false, decide_eq_true_eq, List.mem_cons, List.not_mem_nil, or_false, false_or, true_or, or_true, if_false, Option.map_some, decide_not, decide_true, decide_false, Nat.lt_irrefl, cmp_eq, cmp_ne, cmp_eqb, cmp_neb, List.any_cons, List.any_nil, reduceCtorEq, beq_self_eq_true, Bool.or_self, plainOwn, List.all_cons, List.all_nil, PV.lst.injEq, mu_append, mu_reverse, mu_pop, List.getElem?_cons_succ, List.getElem?_cons_zero, List.getElem?_nil, Option.bind_some, Option.bind_none, id, pure_SL]
end K78

set_option Elab.async false
set_option linter.all false
set_option maxRecDepth 100000
set_option maxHeartbeats 4000000
set_option autoImplicit false
namespace K78
open PySem PySem.Spec PyProof.Rows L2 Ev
/-! ### what a sharing is worth -/
def wo (rows : List (List Int)) (t : List Nat) : Int := ((rows.zip t).map fun p => p.1.getD p.2 0).sum
theorem zipP_map (t : List Nat) (rows : List (List Int)) : zipP (rows.map RV) (t.map fun n : Nat => .int (n : Int)) = (rows.zip t).map fun p => .wtp [RV p.1, .int (p.2 : Int)] := by
  induction rows generalizing t with
  | nil => rfl
  | cons r rows ih =>
    cases t with
    | nil => rfl
    | cons n t => simp only [List.map_cons, zipP, List.zip_cons_cons, ih]
theorem asInts_flat {α : Type} (f : α → Int) : ∀ l : List α, asInts (l.flatMap fun a => [PV.int (f a)]) = some (l.map f)
  | [] => rfl
  | a :: l => by
    show asInts (PV.int (f a) :: l.flatMap fun a => [PV.int (f a)]) = _
    rw [asInts, asInts_flat f l]; rfl
theorem sub_RV {r : List Int} {n : Nat} (h : n < r.length) : opSub [RV r, .int (n : Int)] = some (.int (r.getD n 0)) := by
  unfold RV
  rw [sub_tn, List.getElem?_map, List.getElem?_eq_getElem h]
  simp [List.getD, h]
theorem sub_TV {t : List Nat} {n : Nat} (h : n < t.length) : opSub [TV t, .int (n : Int)] = some (.int ((t.getD n 0 : Nat) : Int)) := by
  unfold TV
  rw [sub_tn, List.getElem?_map, List.getElem?_eq_getElem h]
  simp [List.getD, h]
theorem sub_BV {rows : List (List Int)} {n : Nat} (h : n < rows.length) : opSub [BV rows, .int (n : Int)] = some (RV (rows.getD n [])) := by
  unfold BV
  rw [sub_tn, List.getElem?_map, List.getElem?_eq_getElem h]
  simp [List.getD, h]
/-- it fits the rows -/
def Fits (rows : List (List Int)) (t : List Nat) : Prop := t.length = rows.length ∧ ∀ p ∈ rows.zip t, p.2 < p.1.length
theorem worth_t {d : Nat} {rows : List (List Int)} {t : List Nat} (hn : rows.length ≤ 1000) (h : Fits rows t) : run (d + 1) 3 [BV rows, TV t] = .ok (.int (wo rows t)) [BV rows, TV t] := by
  refine eq_of (w_fn at_worth_of_sharing rfl ?_)
  simp only [f_worth_of_sharing, ↓reduceIte, ↓w_lit, ↓w_rd, ↓w_vw, ↓w_fz, ↓w_mv, ↓w_bin, ↓w_un, ↓w_cmp, ↓w_sub, ↓w_slc, ↓w_bi, ↓w_isi, ↓w_bm, ↓w_bk, ↓w_frz, ↓w_not, ↓w_ite, ↓w_tup, ↓w_lst, ↓w_mu, ↓w_call, ↓w_lc, ↓w_lc2, ↓w_bop, ↓w_b1, ↓w_b2, ↓w_es0, ↓w_es, ↓w_as0, ↓w_as1, ↓w_as2, ↓w_c0, ↓w_c1, ↓w_seq, ↓w_range1, ↓w_range2, ↓w_enum, ↓w_zip, ↓s_nil, ↓s_one, ↓s_consN, ↓s_set, ↓s_setAt, ↓s_par, ↓s_aug, ↓s_expr, ↓s_ite, ↓s_for, ↓s_ret, ↓s_retN, ↓s_brk, ↓s_cont, ↓s_pass, ↓wpo_some, ↓wp_ok, ↓wpc_ok, ↓wps_nx, ↓wps_rt, ↓wps_bk, ↓wps_ct, ↓wpb_bl, ↓wpi_int, ↓wpo_need, ↓wpo_bind, ↓wpo_map, need_t, getE_0, getE_s, getE_1, getE_2, getE_3, getE_4, getE_5, getE_6, getE_7, getE_8, getE_9, getE_10, getE_11, getE_12, getE_13, getE_14, getE_15, List.set_cons_zero, List.set_cons_succ, asgT, asgTs, unpk, opUn, obSem, opIsi, bmSem, bkSem, Ev.numsOf, isLst, itemsOf, itemsZ, fillAs, backAs, augOp, E.v, E.q, Es.q, Es.vs, As.q, ownOk, PV.pure, pures, PV.frz, frzs, PV.isN, Bool.and_true, Bool.true_and, Bool.or_true, Bool.true_or, Bool.not_true, Bool.not_false, Bool.false_and, Bool.and_false, Bool.or_false, Bool.false_or, List.length_cons, List.length_nil, List.map_cons, List.map_nil, List.replicate, List.cons_append, List.nil_append, true_and, and_true, if_true, Option.isSome_some, backIo, Ev.op_add, Ev.op_sub, Ev.op_mul, Ev.op_div, Ev.op_mod, Ev.op_pow, Ev.op_and, Ev.op_or, Ev.op_lcat, Ev.op_tcat, cmp_lt, cmp_le, cmp_gt, cmp_ge, cmp_is, cmp_isn, sub_t0, sub_t1, sub_t2, sub_l0, sub_l1, sub_l2, sub_tn, sub_ln, eq_self, decide_true, decide_false, exists_eq_left', wipeE, backE, lenOk_0, lenOk_1, lenOk_2, lenOk_3, lenOk_4, lenOk_5, lenOk_6, Nat.reduceAdd, Nat.reduceLT, Nat.reduceLeDiff, Nat.reduceSub, Nat.reduceEqDiff, ne_eq, not_false_eq_true, not_true_eq_false, decide_eq_true_eq, List.mem_cons, List.not_mem_nil, or_false, false_or, true_or, or_true, if_false, Option.map_some, decide_not, decide_true, decide_false, Nat.lt_irrefl, cmp_eq, cmp_ne, cmp_eqb, cmp_neb, List.any_cons, List.any_nil, reduceCtorEq, beq_self_eq_true, Bool.or_self, plainOwn, List.all_cons, List.all_nil, PV.lst.injEq, mu_append, mu_reverse, mu_pop, List.getElem?_cons_succ, List.getElem?_cons_zero, List.getElem?_nil, Option.bind_some, Option.bind_none, id, pure_BV, pure_TV]
  show wpo (itemsZ (.tup (rows.map RV)) (.tup (t.map fun n : Nat => .int (n : Int)))) _
  simp only [↓reduceIte, ↓w_lit, ↓w_rd, ↓w_vw, ↓w_fz, ↓w_mv, ↓w_bin, ↓w_un, ↓w_cmp, ↓w_sub, ↓w_slc, ↓w_bi, ↓w_isi, ↓w_bm, ↓w_bk, ↓w_frz, ↓w_not, ↓w_ite, ↓w_tup, ↓w_lst, ↓w_mu, ↓w_call, ↓w_lc, ↓w_lc2, ↓w_bop, ↓w_b1, ↓w_b2, ↓w_es0, ↓w_es, ↓w_as0, ↓w_as1, ↓w_as2, ↓w_c0, ↓w_c1, ↓w_seq, ↓w_range1, ↓w_range2, ↓w_enum, ↓w_zip, ↓s_nil, ↓s_one, ↓s_consN, ↓s_set, ↓s_setAt, ↓s_par, ↓s_aug, ↓s_expr, ↓s_ite, ↓s_for, ↓s_ret, ↓s_retN, ↓s_brk, ↓s_cont, ↓s_pass, ↓wpo_some, ↓wp_ok, ↓wpc_ok, ↓wps_nx, ↓wps_rt, ↓wps_bk, ↓wps_ct, ↓wpb_bl, ↓wpi_int, ↓wpo_need, ↓wpo_bind, ↓wpo_map, need_t, getE_0, getE_s, getE_1, getE_2, getE_3, getE_4, getE_5, getE_6, getE_7, getE_8, getE_9, getE_10, getE_11, getE_12, getE_13, getE_14, getE_15, List.set_cons_zero, List.set_cons_succ, asgT, asgTs, unpk, opUn, obSem, opIsi, bmSem, bkSem, Ev.numsOf, isLst, itemsOf, itemsZ, fillAs, backAs, augOp, E.v, E.q, Es.q, Es.vs, As.q, ownOk, PV.pure, pures, PV.frz, frzs, PV.isN, Bool.and_true, Bool.true_and, Bool.or_true, Bool.true_or, Bool.not_true, Bool.not_false, Bool.false_and, Bool.and_false, Bool.or_false, Bool.false_or, List.length_cons, List.length_nil, List.map_cons, List.map_nil, List.replicate, List.cons_append, List.nil_append, true_and, and_true, if_true, Option.isSome_some, backIo, Ev.op_add, Ev.op_sub, Ev.op_mul, Ev.op_div, Ev.op_mod, Ev.op_pow, Ev.op_and, Ev.op_or, Ev.op_lcat, Ev.op_tcat, cmp_lt, cmp_le, cmp_gt, cmp_ge, cmp_is, cmp_isn, sub_t0, sub_t1, sub_t2, sub_l0, sub_l1, sub_l2, sub_tn, sub_ln, eq_self, decide_true, decide_false, exists_eq_left', wipeE, backE, lenOk_0, lenOk_1, lenOk_2, lenOk_3, lenOk_4, lenOk_5, lenOk_6, Nat.reduceAdd, Nat.reduceLT, Nat.reduceLeDiff, Nat.reduceSub, Nat.reduceEqDiff, ne_eq, not_false_eq_true, not_true_eq_false, decide_eq_true_eq, List.mem_cons, List.not_mem_nil, or_false, false_or, true_or, or_true, if_false, Option.map_some, decide_not, decide_true, decide_false, Nat.lt_irrefl, cmp_eq, cmp_ne, cmp_eqb, cmp_neb, List.any_cons, List.any_nil, reduceCtorEq, beq_self_eq_true, Bool.or_self, plainOwn, List.all_cons, List.all_nil, PV.lst.injEq, mu_append, mu_reverse, mu_pop, List.getElem?_cons_succ, List.getElem?_cons_zero, List.getElem?_nil, Option.bind_some, Option.bind_none, id, zipP_map]
  refine ⟨lenOk_of (by simp; omega), ?_⟩
  refine lc_map (fun p : List Int × Nat => PV.wtp [RV p.1, .int (p.2 : Int)]) (fun p => [PV.int (p.1.getD p.2 0)]) (fun ρ => ∃ y z, ρ = [some (BV rows), some (TV t), y, z]) _ ⟨_, _, rfl⟩ ?_ ?_
  · rintro p hp ρ ⟨y, z, rfl⟩
    simp only [↓reduceIte, ↓w_lit, ↓w_rd, ↓w_vw, ↓w_fz, ↓w_mv, ↓w_bin, ↓w_un, ↓w_cmp, ↓w_sub, ↓w_slc, ↓w_bi, ↓w_isi, ↓w_bm, ↓w_bk, ↓w_frz, ↓w_not, ↓w_ite, ↓w_tup, ↓w_lst, ↓w_mu, ↓w_call, ↓w_lc, ↓w_lc2, ↓w_bop, ↓w_b1, ↓w_b2, ↓w_es0, ↓w_es, ↓w_as0, ↓w_as1, ↓w_as2, ↓w_c0, ↓w_c1, ↓w_seq, ↓w_range1, ↓w_range2, ↓w_enum, ↓w_zip, ↓s_nil, ↓s_one, ↓s_consN, ↓s_set, ↓s_setAt, ↓s_par, ↓s_aug, ↓s_expr, ↓s_ite, ↓s_for, ↓s_ret, ↓s_retN, ↓s_brk, ↓s_cont, ↓s_pass, ↓wpo_some, ↓wp_ok, ↓wpc_ok, ↓wps_nx, ↓wps_rt, ↓wps_bk, ↓wps_ct, ↓wpb_bl, ↓wpi_int, ↓wpo_need, ↓wpo_bind, ↓wpo_map, need_t, getE_0, getE_s, getE_1, getE_2, getE_3, getE_4, getE_5, getE_6, getE_7, getE_8, getE_9, getE_10, getE_11, getE_12, getE_13, getE_14, getE_15, List.set_cons_zero, List.set_cons_succ, asgT, asgTs, unpk, opUn, obSem, opIsi, bmSem, bkSem, Ev.numsOf, isLst, itemsOf, itemsZ, fillAs, backAs, augOp, E.v, E.q, Es.q, Es.vs, As.q, ownOk, PV.pure, pures, PV.frz, frzs, PV.isN, Bool.and_true, Bool.true_and, Bool.or_true, Bool.true_or, Bool.not_true, Bool.not_false, Bool.false_and, Bool.and_false, Bool.or_false, Bool.false_or, List.length_cons, List.length_nil, List.map_cons, List.map_nil, List.replicate, List.cons_append, List.nil_append, true_and, and_true, if_true, Option.isSome_some, backIo, Ev.op_add, Ev.op_sub, Ev.op_mul, Ev.op_div, Ev.op_mod, Ev.op_pow, Ev.op_and, Ev.op_or, Ev.op_lcat, Ev.op_tcat, cmp_lt, cmp_le, cmp_gt, cmp_ge, cmp_is, cmp_isn, sub_t0, sub_t1, sub_t2, sub_l0, sub_l1, sub_l2, sub_tn, sub_ln, eq_self, decide_true, decide_false, exists_eq_left', wipeE, backE, lenOk_0, lenOk_1, lenOk_2, lenOk_3, lenOk_4, lenOk_5, lenOk_6, Nat.reduceAdd, Nat.reduceLT, Nat.reduceLeDiff, Nat.reduceSub, Nat.reduceEqDiff, ne_eq, not_false_eq_true, not_true_eq_false, decide_eq_true_eq, List.mem_cons, List.not_mem_nil, or_false, false_or, true_or, or_true, if_false, Option.map_some, decide_not, decide_true, decide_false, Nat.lt_irrefl, cmp_eq, cmp_ne, cmp_eqb, cmp_neb, List.any_cons, List.any_nil, reduceCtorEq, beq_self_eq_true, Bool.or_self, plainOwn, List.all_cons, List.all_nil, PV.lst.injEq, mu_append, mu_reverse, mu_pop, List.getElem?_cons_succ, List.getElem?_cons_zero, List.getElem?_nil, Option.bind_some, Option.bind_none, id, ↓w_elt, pure_RV, sub_RV (h.2 p hp)]
    exact ⟨_, _, rfl⟩
  · rintro ρ ⟨y, z, rfl⟩
    simp only [↓reduceIte, ↓w_lit, ↓w_rd, ↓w_vw, ↓w_fz, ↓w_mv, ↓w_bin, ↓w_un, ↓w_cmp, ↓w_sub, ↓w_slc, ↓w_bi, ↓w_isi, ↓w_bm, ↓w_bk, ↓w_frz, ↓w_not, ↓w_ite, ↓w_tup, ↓w_lst, ↓w_mu, ↓w_call, ↓w_lc, ↓w_lc2, ↓w_bop, ↓w_b1, ↓w_b2, ↓w_es0, ↓w_es, ↓w_as0, ↓w_as1, ↓w_as2, ↓w_c0, ↓w_c1, ↓w_seq, ↓w_range1, ↓w_range2, ↓w_enum, ↓w_zip, ↓s_nil, ↓s_one, ↓s_consN, ↓s_set, ↓s_setAt, ↓s_par, ↓s_aug, ↓s_expr, ↓s_ite, ↓s_for, ↓s_ret, ↓s_retN, ↓s_brk, ↓s_cont, ↓s_pass, ↓wpo_some, ↓wp_ok, ↓wpc_ok, ↓wps_nx, ↓wps_rt, ↓wps_bk, ↓wps_ct, ↓wpb_bl, ↓wpi_int, ↓wpo_need, ↓wpo_bind, ↓wpo_map, need_t, getE_0, getE_s, getE_1, getE_2, getE_3, getE_4, getE_5, getE_6, getE_7, getE_8, getE_9, getE_10, getE_11, getE_12, getE_13, getE_14, getE_15, List.set_cons_zero, List.set_cons_succ, asgT, asgTs, unpk, opUn, obSem, opIsi, bmSem, bkSem, Ev.numsOf, isLst, itemsOf, itemsZ, fillAs, backAs, augOp, E.v, E.q, Es.q, Es.vs, As.q, ownOk, PV.pure, pures, PV.frz, frzs, PV.isN, Bool.and_true, Bool.true_and, Bool.or_true, Bool.true_or, Bool.not_true, Bool.not_false, Bool.false_and, Bool.and_false, Bool.or_false, Bool.false_or, List.length_cons, List.length_nil, List.map_cons, List.map_nil, List.replicate, List.cons_append, List.nil_append, true_and, and_true, if_true, Option.isSome_some, backIo, Ev.op_add, Ev.op_sub, Ev.op_mul, Ev.op_div, Ev.op_mod, Ev.op_pow, Ev.op_and, Ev.op_or, Ev.op_lcat, Ev.op_tcat, cmp_lt, cmp_le, cmp_gt, cmp_ge, cmp_is, cmp_isn, sub_t0, sub_t1, sub_t2, sub_l0, sub_l1, sub_l2, sub_tn, sub_ln, eq_self, decide_true, decide_false, exists_eq_left', wipeE, backE, lenOk_0, lenOk_1, lenOk_2, lenOk_3, lenOk_4, lenOk_5, lenOk_6, Nat.reduceAdd, Nat.reduceLT, Nat.reduceLeDiff, Nat.reduceSub, Nat.reduceEqDiff, ne_eq, not_false_eq_true, not_true_eq_false, decide_eq_true_eq, List.mem_cons, List.not_mem_nil, or_false, false_or, true_or, or_true, if_false, Option.map_some, decide_not, decide_true, decide_false, Nat.lt_irrefl, cmp_eq, cmp_ne, cmp_eqb, cmp_neb, List.any_cons, List.any_nil, reduceCtorEq, beq_self_eq_true, Bool.or_self, plainOwn, List.all_cons, List.all_nil, PV.lst.injEq, mu_append, mu_reverse, mu_pop, List.getElem?_cons_succ, List.getElem?_cons_zero, List.getElem?_nil, Option.bind_some, Option.bind_none, id, asInts_flat]
    rfl
theorem at_len {rows : List (List Int)} {t : List Nat} (h : Fits rows t) {k : Nat} (hk : k < rows.length) : t.getD k 0 < (rows.getD k []).length := by
  have hk2 : k < t.length := by rw [h.1]; exact hk
  have hz : k < (rows.zip t).length := by rw [List.length_zip]; omega
  have := h.2 ((rows.zip t)[k]) (List.getElem_mem hz)
  rw [List.getElem_zip] at this
  simpa [List.getD, hk, hk2] using this
theorem wo_range {rows : List (List Int)} {t : List Nat} (h : t.length = rows.length) : ((List.range rows.length).map fun k => (rows.getD k []).getD (t.getD k 0) 0).sum = wo rows t := by
  unfold wo
  congr 1
  refine List.ext_getElem (by simp [h]) fun k h1 h2 => ?_
  simp only [List.length_map, List.length_range] at h1
  have hk2 : k < t.length := by omega
  simp [List.getElem_zip, List.getD, h1, hk2]
theorem lawsum_t {d : Nat} {rows : List (List Int)} {t : List Nat} (hn : rows.length ≤ 1000) (h : Fits rows t) : run (d + 1) 17 [BV rows, TV t] = .ok (.int (wo rows t)) [BV rows, TV t] := by
  refine eq_of (w_fn at_law_sum_of_bids rfl ?_)
  simp only [f_law_sum_of_bids, ↓reduceIte, ↓w_lit, ↓w_rd, ↓w_vw, ↓w_fz, ↓w_mv, ↓w_bin, ↓w_un, ↓w_cmp, ↓w_sub, ↓w_slc, ↓w_bi, ↓w_isi, ↓w_bm, ↓w_bk, ↓w_frz, ↓w_not, ↓w_ite, ↓w_tup, ↓w_lst, ↓w_mu, ↓w_call, ↓w_lc, ↓w_lc2, ↓w_bop, ↓w_b1, ↓w_b2, ↓w_es0, ↓w_es, ↓w_as0, ↓w_as1, ↓w_as2, ↓w_c0, ↓w_c1, ↓w_seq, ↓w_range1, ↓w_range2, ↓w_enum, ↓w_zip, ↓s_nil, ↓s_one, ↓s_consN, ↓s_set, ↓s_setAt, ↓s_par, ↓s_aug, ↓s_expr, ↓s_ite, ↓s_for, ↓s_ret, ↓s_retN, ↓s_brk, ↓s_cont, ↓s_pass, ↓wpo_some, ↓wp_ok, ↓wpc_ok, ↓wps_nx, ↓wps_rt, ↓wps_bk, ↓wps_ct, ↓wpb_bl, ↓wpi_int, ↓wpo_need, ↓wpo_bind, ↓wpo_map, need_t, getE_0, getE_s, getE_1, getE_2, getE_3, getE_4, getE_5, getE_6, getE_7, getE_8, getE_9, getE_10, getE_11, getE_12, getE_13, getE_14, getE_15, List.set_cons_zero, List.set_cons_succ, asgT, asgTs, unpk, opUn, obSem, opIsi, bmSem, bkSem, Ev.numsOf, isLst, itemsOf, itemsZ, fillAs, backAs, augOp, E.v, E.q, Es.q, Es.vs, As.q, ownOk, PV.pure, pures, PV.frz, frzs, PV.isN, Bool.and_true, Bool.true_and, Bool.or_true, Bool.true_or, Bool.not_true, Bool.not_false, Bool.false_and, Bool.and_false, Bool.or_false, Bool.false_or, List.length_cons, List.length_nil, List.map_cons, List.map_nil, List.replicate, List.cons_append, List.nil_append, true_and, and_true, if_true, Option.isSome_some, backIo, Ev.op_add, Ev.op_sub, Ev.op_mul, Ev.op_div, Ev.op_mod, Ev.op_pow, Ev.op_and, Ev.op_or, Ev.op_lcat, Ev.op_tcat, cmp_lt, cmp_le, cmp_gt, cmp_ge, cmp_is, cmp_isn, sub_t0, sub_t1, sub_t2, sub_l0, sub_l1, sub_l2, sub_tn, sub_ln, eq_self, decide_true, decide_false, exists_eq_left', wipeE, backE, lenOk_0, lenOk_1, lenOk_2, lenOk_3, lenOk_4, lenOk_5, lenOk_6, Nat.reduceAdd, Nat.reduceLT, Nat.reduceLeDiff, Nat.reduceSub, Nat.reduceEqDiff, ne_eq, not_false_eq_true, not_true_eq_false, decide_eq_true_eq, List.mem_cons, List.not_mem_nil, or_false, false_or, true_or, or_true, if_false, Option.map_some, decide_not, decide_true, decide_false, Nat.lt_irrefl, cmp_eq, cmp_ne, cmp_eqb, cmp_neb, List.any_cons, List.any_nil, reduceCtorEq, beq_self_eq_true, Bool.or_self, plainOwn, List.all_cons, List.all_nil, PV.lst.injEq, mu_append, mu_reverse, mu_pop, List.getElem?_cons_succ, List.getElem?_cons_zero, List.getElem?_nil, Option.bind_some, Option.bind_none, id, pure_BV]
  show wpo (obSem .len [.tup (rows.map RV)]) _
  simp only [↓reduceIte, ↓w_lit, ↓w_rd, ↓w_vw, ↓w_fz, ↓w_mv, ↓w_bin, ↓w_un, ↓w_cmp, ↓w_sub, ↓w_slc, ↓w_bi, ↓w_isi, ↓w_bm, ↓w_bk, ↓w_frz, ↓w_not, ↓w_ite, ↓w_tup, ↓w_lst, ↓w_mu, ↓w_call, ↓w_lc, ↓w_lc2, ↓w_bop, ↓w_b1, ↓w_b2, ↓w_es0, ↓w_es, ↓w_as0, ↓w_as1, ↓w_as2, ↓w_c0, ↓w_c1, ↓w_seq, ↓w_range1, ↓w_range2, ↓w_enum, ↓w_zip, ↓s_nil, ↓s_one, ↓s_consN, ↓s_set, ↓s_setAt, ↓s_par, ↓s_aug, ↓s_expr, ↓s_ite, ↓s_for, ↓s_ret, ↓s_retN, ↓s_brk, ↓s_cont, ↓s_pass, ↓wpo_some, ↓wp_ok, ↓wpc_ok, ↓wps_nx, ↓wps_rt, ↓wps_bk, ↓wps_ct, ↓wpb_bl, ↓wpi_int, ↓wpo_need, ↓wpo_bind, ↓wpo_map, need_t, getE_0, getE_s, getE_1, getE_2, getE_3, getE_4, getE_5, getE_6, getE_7, getE_8, getE_9, getE_10, getE_11, getE_12, getE_13, getE_14, getE_15, List.set_cons_zero, List.set_cons_succ, asgT, asgTs, unpk, opUn, obSem, opIsi, bmSem, bkSem, Ev.numsOf, isLst, itemsOf, itemsZ, fillAs, backAs, augOp, E.v, E.q, Es.q, Es.vs, As.q, ownOk, PV.pure, pures, PV.frz, frzs, PV.isN, Bool.and_true, Bool.true_and, Bool.or_true, Bool.true_or, Bool.not_true, Bool.not_false, Bool.false_and, Bool.and_false, Bool.or_false, Bool.false_or, List.length_cons, List.length_nil, List.map_cons, List.map_nil, List.replicate, List.cons_append, List.nil_append, true_and, and_true, if_true, Option.isSome_some, backIo, Ev.op_add, Ev.op_sub, Ev.op_mul, Ev.op_div, Ev.op_mod, Ev.op_pow, Ev.op_and, Ev.op_or, Ev.op_lcat, Ev.op_tcat, cmp_lt, cmp_le, cmp_gt, cmp_ge, cmp_is, cmp_isn, sub_t0, sub_t1, sub_t2, sub_l0, sub_l1, sub_l2, sub_tn, sub_ln, eq_self, decide_true, decide_false, exists_eq_left', wipeE, backE, lenOk_0, lenOk_1, lenOk_2, lenOk_3, lenOk_4, lenOk_5, lenOk_6, Nat.reduceAdd, Nat.reduceLT, Nat.reduceLeDiff, Nat.reduceSub, Nat.reduceEqDiff, ne_eq, not_false_eq_true, not_true_eq_false, decide_eq_true_eq, List.mem_cons, List.not_mem_nil, or_false, false_or, true_or, or_true, if_false, Option.map_some, decide_not, decide_true, decide_false, Nat.lt_irrefl, cmp_eq, cmp_ne, cmp_eqb, cmp_neb, List.any_cons, List.any_nil, reduceCtorEq, beq_self_eq_true, Bool.or_self, plainOwn, List.all_cons, List.all_nil, PV.lst.injEq, mu_append, mu_reverse, mu_pop, List.getElem?_cons_succ, List.getElem?_cons_zero, List.getElem?_nil, Option.bind_some, Option.bind_none, id, List.length_map]
  rw [rangeP_map]
  refine ⟨bnd_of (by omega), lenOk_of (by simp; omega), ?_⟩
  refine lc_map (fun i : Nat => PV.int (i : Int)) (fun k => [PV.int ((rows.getD k []).getD (t.getD k 0) 0)]) (fun ρ => ∃ y, ρ = [some (BV rows), some (TV t), y]) _ ⟨_, rfl⟩ ?_ ?_
  · rintro k hk ρ ⟨y, rfl⟩
    have hk := List.mem_range.mp hk
    have hk2 : k < t.length := by rw [h.1]; exact hk
    simp only [↓reduceIte, ↓w_lit, ↓w_rd, ↓w_vw, ↓w_fz, ↓w_mv, ↓w_bin, ↓w_un, ↓w_cmp, ↓w_sub, ↓w_slc, ↓w_bi, ↓w_isi, ↓w_bm, ↓w_bk, ↓w_frz, ↓w_not, ↓w_ite, ↓w_tup, ↓w_lst, ↓w_mu, ↓w_call, ↓w_lc, ↓w_lc2, ↓w_bop, ↓w_b1, ↓w_b2, ↓w_es0, ↓w_es, ↓w_as0, ↓w_as1, ↓w_as2, ↓w_c0, ↓w_c1, ↓w_seq, ↓w_range1, ↓w_range2, ↓w_enum, ↓w_zip, ↓s_nil, ↓s_one, ↓s_consN, ↓s_set, ↓s_setAt, ↓s_par, ↓s_aug, ↓s_expr, ↓s_ite, ↓s_for, ↓s_ret, ↓s_retN, ↓s_brk, ↓s_cont, ↓s_pass, ↓wpo_some, ↓wp_ok, ↓wpc_ok, ↓wps_nx, ↓wps_rt, ↓wps_bk, ↓wps_ct, ↓wpb_bl, ↓wpi_int, ↓wpo_need, ↓wpo_bind, ↓wpo_map, need_t, getE_0, getE_s, getE_1, getE_2, getE_3, getE_4, getE_5, getE_6, getE_7, getE_8, getE_9, getE_10, getE_11, getE_12, getE_13, getE_14, getE_15, List.set_cons_zero, List.set_cons_succ, asgT, asgTs, unpk, opUn, obSem, opIsi, bmSem, bkSem, Ev.numsOf, isLst, itemsOf, itemsZ, fillAs, backAs, augOp, E.v, E.q, Es.q, Es.vs, As.q, ownOk, PV.pure, pures, PV.frz, frzs, PV.isN, Bool.and_true, Bool.true_and, Bool.or_true, Bool.true_or, Bool.not_true, Bool.not_false, Bool.false_and, Bool.and_false, Bool.or_false, Bool.false_or, List.length_cons, List.length_nil, List.map_cons, List.map_nil, List.replicate, List.cons_append, List.nil_append, true_and, and_true, if_true, Option.isSome_some, backIo, Ev.op_add, Ev.op_sub, Ev.op_mul, Ev.op_div, Ev.op_mod, Ev.op_pow, Ev.op_and, Ev.op_or, Ev.op_lcat, Ev.op_tcat, cmp_lt, cmp_le, cmp_gt, cmp_ge, cmp_is, cmp_isn, sub_t0, sub_t1, sub_t2, sub_l0, sub_l1, sub_l2, sub_tn, sub_ln, eq_self, decide_true, decide_false, exists_eq_left', wipeE, backE, lenOk_0, lenOk_1, lenOk_2, lenOk_3, lenOk_4, lenOk_5, lenOk_6, Nat.reduceAdd, Nat.reduceLT, Nat.reduceLeDiff, Nat.reduceSub, Nat.reduceEqDiff, ne_eq, not_false_eq_true, not_true_eq_false, decide_eq_true_eq, List.mem_cons, List.not_mem_nil, or_false, false_or, true_or, or_true, if_false, Option.map_some, decide_not, decide_true, decide_false, Nat.lt_irrefl, cmp_eq, cmp_ne, cmp_eqb, cmp_neb, List.any_cons, List.any_nil, reduceCtorEq, beq_self_eq_true, Bool.or_self, plainOwn, List.all_cons, List.all_nil, PV.lst.injEq, mu_append, mu_reverse, mu_pop, List.getElem?_cons_succ, List.getElem?_cons_zero, List.getElem?_nil, Option.bind_some, Option.bind_none, id, ↓w_elt, pure_BV, pure_TV, sub_BV hk, sub_TV hk2, sub_RV (at_len h hk)]
    exact ⟨_, rfl⟩
  · rintro ρ ⟨y, rfl⟩
    simp only [↓reduceIte, ↓w_lit, ↓w_rd, ↓w_vw, ↓w_fz, ↓w_mv, ↓w_bin, ↓w_un, ↓w_cmp, ↓w_sub, ↓w_slc, ↓w_bi, ↓w_isi, ↓w_bm, ↓w_bk, ↓w_frz, ↓w_not, ↓w_ite, ↓w_tup, ↓w_lst, ↓w_mu, ↓w_call, ↓w_lc, ↓w_lc2, ↓w_bop, ↓w_b1, ↓w_b2, ↓w_es0, ↓w_es, ↓w_as0, ↓w_as1, ↓w_as2, ↓w_c0, ↓w_c1, ↓w_seq, ↓w_range1, ↓w_range2, ↓w_enum, ↓w_zip, ↓s_nil, ↓s_one, ↓s_consN, ↓s_set, ↓s_setAt, ↓s_par, ↓s_aug, ↓s_expr, ↓s_ite, ↓s_for, ↓s_ret, ↓s_retN, ↓s_brk, ↓s_cont, ↓s_pass, ↓wpo_some, ↓wp_ok, ↓wpc_ok, ↓wps_nx, ↓wps_rt, ↓wps_bk, ↓wps_ct, ↓wpb_bl, ↓wpi_int, ↓wpo_need, ↓wpo_bind, ↓wpo_map, need_t, getE_0, getE_s, getE_1, getE_2, getE_3, getE_4, getE_5, getE_6, getE_7, getE_8, getE_9, getE_10, getE_11, getE_12, getE_13, getE_14, getE_15, List.set_cons_zero, List.set_cons_succ, asgT, asgTs, unpk, opUn, obSem, opIsi, bmSem, bkSem, Ev.numsOf, isLst, itemsOf, itemsZ, fillAs, backAs, augOp, E.v, E.q, Es.q, Es.vs, As.q, ownOk, PV.pure, pures, PV.frz, frzs, PV.isN, Bool.and_true, Bool.true_and, Bool.or_true, Bool.true_or, Bool.not_true, Bool.not_false, Bool.false_and, Bool.and_false, Bool.or_false, Bool.false_or, List.length_cons, List.length_nil, List.map_cons, List.map_nil, List.replicate, List.cons_append, List.nil_append, true_and, and_true, if_true, Option.isSome_some, backIo, Ev.op_add, Ev.op_sub, Ev.op_mul, Ev.op_div, Ev.op_mod, Ev.op_pow, Ev.op_and, Ev.op_or, Ev.op_lcat, Ev.op_tcat, cmp_lt, cmp_le, cmp_gt, cmp_ge, cmp_is, cmp_isn, sub_t0, sub_t1, sub_t2, sub_l0, sub_l1, sub_l2, sub_tn, sub_ln, eq_self, decide_true, decide_false, exists_eq_left', wipeE, backE, lenOk_0, lenOk_1, lenOk_2, lenOk_3, lenOk_4, lenOk_5, lenOk_6, Nat.reduceAdd, Nat.reduceLT, Nat.reduceLeDiff, Nat.reduceSub, Nat.reduceEqDiff, ne_eq, not_false_eq_true, not_true_eq_false, decide_eq_true_eq, List.mem_cons, List.not_mem_nil, or_false, false_or, true_or, or_true, if_false, Option.map_some, decide_not, decide_true, decide_false, Nat.lt_irrefl, cmp_eq, cmp_ne, cmp_eqb, cmp_neb, List.any_cons, List.any_nil, reduceCtorEq, beq_self_eq_true, Bool.or_self, plainOwn, List.all_cons, List.all_nil, PV.lst.injEq, mu_append, mu_reverse, mu_pop, List.getElem?_cons_succ, List.getElem?_cons_zero, List.getElem?_nil, Option.bind_some, Option.bind_none, id, asInts_flat]
    rw [wo_range h.1]

/-! ### the best one -/
def OV (b : Option (List Nat)) : PV := match b with
  | none => .non
  | some t => TV t
def better (rows : List (List Int)) (b : Option (List Nat)) (t : List Nat) : Option (List Nat) := match b with
  | none => some t
  | some u => if wo rows u < wo rows t then some t else some u
def bst (rows : List (List Int)) (l : List (List Nat)) : Option (List Nat) := l.foldl (better rows) none
theorem shs_mem {s : Nat} : ∀ {k : Nat} {t : List Nat}, t ∈ shs s k → ∀ x ∈ t, x < s
  | 0, t, h, x, hx => by
    have : t = [] := by simpa [shs] using h
    subst this; cases hx
  | k + 1, t, h, x, hx => by
    simp only [shs, step, List.mem_flatMap, List.mem_map, List.mem_filter] at h
    obtain ⟨u, hu, n, ⟨hn, _⟩, rfl⟩ := h
    rcases List.mem_append.mp hx with z | z
    · exact shs_mem hu x z
    · rw [List.mem_singleton.mp z]; exact List.mem_range.mp hn
theorem shs_fits {s : Nat} {rows : List (List Int)} (h : Rows s rows) {t : List Nat} (ht : t ∈ shs s rows.length) : Fits rows t := by
  refine ⟨shs_len ht, fun p hp => ?_⟩
  obtain ⟨h1, h2⟩ := List.of_mem_zip hp
  rw [h.2.2 _ h1]
  exact shs_mem ht _ h2
theorem OV_pure (b : Option (List Nat)) : (OV b).pure = true := by cases b <;> first | rfl | exact pure_TV _
theorem OV_frz (b : Option (List Nat)) : (OV b).frz = OV b := by cases b <;> first | rfl | exact frz_TV _
theorem best_loop {rows : List (List Int)} {l : List (List Nat)} (hl : ∀ t ∈ l, Fits rows t) : ∀ t, (∃ b, l.foldl (better rows) b = some t ∧ (∀ u, b = some u → Fits rows u)) → Fits rows t := by
  induction l with
  | nil => rintro t ⟨b, e, h⟩; exact h t e
  | cons c l ih =>
    rintro t ⟨b, e, h⟩
    refine ih (fun u hu => hl u (List.mem_cons_of_mem _ hu)) t ⟨better rows b c, e, fun u hu => ?_⟩
    unfold better at hu
    split at hu
    · cases hu; exact hl c (List.mem_cons_self ..)
    · split at hu
      · cases hu; exact hl c (List.mem_cons_self ..)
      · cases hu; exact h _ rfl
theorem best_t {d s : Nat} {rows : List (List Int)} (h : Rows s rows) : run (d + 3) 4 [BV rows] = .ok (OV (bst rows (shs s rows.length))) [BV rows] := by
  have hn : rows.length ≤ 1000 := by have := h.2.1; omega
  refine eq_of (w_fn at_best_sharing rfl ?_)
  have S := sharings_t (d := d) h
  simp only [f_best_sharing, ↓reduceIte, ↓w_lit, ↓w_rd, ↓w_vw, ↓w_fz, ↓w_mv, ↓w_bin, ↓w_un, ↓w_cmp, ↓w_sub, ↓w_slc, ↓w_bi, ↓w_isi, ↓w_bm, ↓w_bk, ↓w_frz, ↓w_not, ↓w_ite, ↓w_tup, ↓w_lst, ↓w_mu, ↓w_call, ↓w_lc, ↓w_lc2, ↓w_bop, ↓w_b1, ↓w_b2, ↓w_es0, ↓w_es, ↓w_as0, ↓w_as1, ↓w_as2, ↓w_c0, ↓w_c1, ↓w_seq, ↓w_range1, ↓w_range2, ↓w_enum, ↓w_zip, ↓s_nil, ↓s_one, ↓s_consN, ↓s_set, ↓s_setAt, ↓s_par, ↓s_aug, ↓s_expr, ↓s_ite, ↓s_for, ↓s_ret, ↓s_retN, ↓s_brk, ↓s_cont, ↓s_pass, ↓wpo_some, ↓wp_ok, ↓wpc_ok, ↓wps_nx, ↓wps_rt, ↓wps_bk, ↓wps_ct, ↓wpb_bl, ↓wpi_int, ↓wpo_need, ↓wpo_bind, ↓wpo_map, need_t, getE_0, getE_s, getE_1, getE_2, getE_3, getE_4, getE_5, getE_6, getE_7, getE_8, getE_9, getE_10, getE_11, getE_12, getE_13, getE_14, getE_15, List.set_cons_zero, List.set_cons_succ, asgT, asgTs, unpk, opUn, obSem, opIsi, bmSem, bkSem, Ev.numsOf, isLst, itemsOf, itemsZ, fillAs, backAs, augOp, E.v, E.q, Es.q, Es.vs, As.q, ownOk, PV.pure, pures, PV.frz, frzs, PV.isN, Bool.and_true, Bool.true_and, Bool.or_true, Bool.true_or, Bool.not_true, Bool.not_false, Bool.false_and, Bool.and_false, Bool.or_false, Bool.false_or, List.length_cons, List.length_nil, List.map_cons, List.map_nil, List.replicate, List.cons_append, List.nil_append, true_and, and_true, if_true, Option.isSome_some, backIo, Ev.op_add, Ev.op_sub, Ev.op_mul, Ev.op_div, Ev.op_mod, Ev.op_pow, Ev.op_and, Ev.op_or, Ev.op_lcat, Ev.op_tcat, cmp_lt, cmp_le, cmp_gt, cmp_ge, cmp_is, cmp_isn, sub_t0, sub_t1, sub_t2, sub_l0, sub_l1, sub_l2, sub_tn, sub_ln, eq_self, decide_true, decide_false, exists_eq_left', wipeE, backE, lenOk_0, lenOk_1, lenOk_2, lenOk_3, lenOk_4, lenOk_5, lenOk_6, Nat.reduceAdd, Nat.reduceLT, Nat.reduceLeDiff, Nat.reduceSub, Nat.reduceEqDiff, ne_eq, not_false_eq_true, not_true_eq_false, decide_eq_true_eq, List.mem_cons, List.not_mem_nil, or_false, false_or, true_or, or_true, if_false, Option.map_some, decide_not, decide_true, decide_false, Nat.lt_irrefl, cmp_eq, cmp_ne, cmp_eqb, cmp_neb, List.any_cons, List.any_nil, reduceCtorEq, beq_self_eq_true, Bool.or_self, plainOwn, List.all_cons, List.all_nil, PV.lst.injEq, mu_append, mu_reverse, mu_pop, List.getElem?_cons_succ, List.getElem?_cons_zero, List.getElem?_nil, Option.bind_some, Option.bind_none, id]
  rw [seqN_app]
  simp only [↓reduceIte, ↓w_lit, ↓w_rd, ↓w_vw, ↓w_fz, ↓w_mv, ↓w_bin, ↓w_un, ↓w_cmp, ↓w_sub, ↓w_slc, ↓w_bi, ↓w_isi, ↓w_bm, ↓w_bk, ↓w_frz, ↓w_not, ↓w_ite, ↓w_tup, ↓w_lst, ↓w_mu, ↓w_call, ↓w_lc, ↓w_lc2, ↓w_bop, ↓w_b1, ↓w_b2, ↓w_es0, ↓w_es, ↓w_as0, ↓w_as1, ↓w_as2, ↓w_c0, ↓w_c1, ↓w_seq, ↓w_range1, ↓w_range2, ↓w_enum, ↓w_zip, ↓s_nil, ↓s_one, ↓s_consN, ↓s_set, ↓s_setAt, ↓s_par, ↓s_aug, ↓s_expr, ↓s_ite, ↓s_for, ↓s_ret, ↓s_retN, ↓s_brk, ↓s_cont, ↓s_pass, ↓wpo_some, ↓wp_ok, ↓wpc_ok, ↓wps_nx, ↓wps_rt, ↓wps_bk, ↓wps_ct, ↓wpb_bl, ↓wpi_int, ↓wpo_need, ↓wpo_bind, ↓wpo_map, need_t, getE_0, getE_s, getE_1, getE_2, getE_3, getE_4, getE_5, getE_6, getE_7, getE_8, getE_9, getE_10, getE_11, getE_12, getE_13, getE_14, getE_15, List.set_cons_zero, List.set_cons_succ, asgT, asgTs, unpk, opUn, obSem, opIsi, bmSem, bkSem, Ev.numsOf, isLst, itemsOf, itemsZ, fillAs, backAs, augOp, E.v, E.q, Es.q, Es.vs, As.q, ownOk, PV.pure, pures, PV.frz, frzs, PV.isN, Bool.and_true, Bool.true_and, Bool.or_true, Bool.true_or, Bool.not_true, Bool.not_false, Bool.false_and, Bool.and_false, Bool.or_false, Bool.false_or, List.length_cons, List.length_nil, List.map_cons, List.map_nil, List.replicate, List.cons_append, List.nil_append, true_and, and_true, if_true, Option.isSome_some, backIo, Ev.op_add, Ev.op_sub, Ev.op_mul, Ev.op_div, Ev.op_mod, Ev.op_pow, Ev.op_and, Ev.op_or, Ev.op_lcat, Ev.op_tcat, cmp_lt, cmp_le, cmp_gt, cmp_ge, cmp_is, cmp_isn, sub_t0, sub_t1, sub_t2, sub_l0, sub_l1, sub_l2, sub_tn, sub_ln, eq_self, decide_true, decide_false, exists_eq_left', wipeE, backE, lenOk_0, lenOk_1, lenOk_2, lenOk_3, lenOk_4, lenOk_5, lenOk_6, Nat.reduceAdd, Nat.reduceLT, Nat.reduceLeDiff, Nat.reduceSub, Nat.reduceEqDiff, ne_eq, not_false_eq_true, not_true_eq_false, decide_eq_true_eq, List.mem_cons, List.not_mem_nil, or_false, false_or, true_or, or_true, if_false, Option.map_some, decide_not, decide_true, decide_false, Nat.lt_irrefl, cmp_eq, cmp_ne, cmp_eqb, cmp_neb, List.any_cons, List.any_nil, reduceCtorEq, beq_self_eq_true, Bool.or_self, plainOwn, List.all_cons, List.all_nil, PV.lst.injEq, mu_append, mu_reverse, mu_pop, List.getElem?_cons_succ, List.getElem?_cons_zero, List.getElem?_nil, Option.bind_some, Option.bind_none, id, pure_BV, frz_BV, S]
  show wpo (itemsOf (.lst false ((shs s rows.length).map TV))) _
  simp only [↓reduceIte, ↓w_lit, ↓w_rd, ↓w_vw, ↓w_fz, ↓w_mv, ↓w_bin, ↓w_un, ↓w_cmp, ↓w_sub, ↓w_slc, ↓w_bi, ↓w_isi, ↓w_bm, ↓w_bk, ↓w_frz, ↓w_not, ↓w_ite, ↓w_tup, ↓w_lst, ↓w_mu, ↓w_call, ↓w_lc, ↓w_lc2, ↓w_bop, ↓w_b1, ↓w_b2, ↓w_es0, ↓w_es, ↓w_as0, ↓w_as1, ↓w_as2, ↓w_c0, ↓w_c1, ↓w_seq, ↓w_range1, ↓w_range2, ↓w_enum, ↓w_zip, ↓s_nil, ↓s_one, ↓s_consN, ↓s_set, ↓s_setAt, ↓s_par, ↓s_aug, ↓s_expr, ↓s_ite, ↓s_for, ↓s_ret, ↓s_retN, ↓s_brk, ↓s_cont, ↓s_pass, ↓wpo_some, ↓wp_ok, ↓wpc_ok, ↓wps_nx, ↓wps_rt, ↓wps_bk, ↓wps_ct, ↓wpb_bl, ↓wpi_int, ↓wpo_need, ↓wpo_bind, ↓wpo_map, need_t, getE_0, getE_s, getE_1, getE_2, getE_3, getE_4, getE_5, getE_6, getE_7, getE_8, getE_9, getE_10, getE_11, getE_12, getE_13, getE_14, getE_15, List.set_cons_zero, List.set_cons_succ, asgT, asgTs, unpk, opUn, obSem, opIsi, bmSem, bkSem, Ev.numsOf, isLst, itemsOf, itemsZ, fillAs, backAs, augOp, E.v, E.q, Es.q, Es.vs, As.q, ownOk, PV.pure, pures, PV.frz, frzs, PV.isN, Bool.and_true, Bool.true_and, Bool.or_true, Bool.true_or, Bool.not_true, Bool.not_false, Bool.false_and, Bool.and_false, Bool.or_false, Bool.false_or, List.length_cons, List.length_nil, List.map_cons, List.map_nil, List.replicate, List.cons_append, List.nil_append, true_and, and_true, if_true, Option.isSome_some, backIo, Ev.op_add, Ev.op_sub, Ev.op_mul, Ev.op_div, Ev.op_mod, Ev.op_pow, Ev.op_and, Ev.op_or, Ev.op_lcat, Ev.op_tcat, cmp_lt, cmp_le, cmp_gt, cmp_ge, cmp_is, cmp_isn, sub_t0, sub_t1, sub_t2, sub_l0, sub_l1, sub_l2, sub_tn, sub_ln, eq_self, decide_true, decide_false, exists_eq_left', wipeE, backE, lenOk_0, lenOk_1, lenOk_2, lenOk_3, lenOk_4, lenOk_5, lenOk_6, Nat.reduceAdd, Nat.reduceLT, Nat.reduceLeDiff, Nat.reduceSub, Nat.reduceEqDiff, ne_eq, not_false_eq_true, not_true_eq_false, decide_eq_true_eq, List.mem_cons, List.not_mem_nil, or_false, false_or, true_or, or_true, if_false, Option.map_some, decide_not, decide_true, decide_false, Nat.lt_irrefl, cmp_eq, cmp_ne, cmp_eqb, cmp_neb, List.any_cons, List.any_nil, reduceCtorEq, beq_self_eq_true, Bool.or_self, plainOwn, List.all_cons, List.all_nil, PV.lst.injEq, mu_append, mu_reverse, mu_pop, List.getElem?_cons_succ, List.getElem?_cons_zero, List.getElem?_nil, Option.bind_some, Option.bind_none, id, pures_TV]
  refine for_list TV (fun b ρ => (∀ u, b = some u → Fits rows u) ∧ ∃ y, ρ = [some (BV rows), some (OV b), y]) (better rows) _ none _ ⟨fun u z => (nomatch z), _, rfl⟩ ?_ ?_
  · rintro b t ρ ht ⟨hb, y, rfl⟩
    have ft := shs_fits h ht
    have W := worth_t (d := d + 1) hn ft
    cases b with
    | none =>
      simp only [OV, ↓reduceIte, ↓w_lit, ↓w_rd, ↓w_vw, ↓w_fz, ↓w_mv, ↓w_bin, ↓w_un, ↓w_cmp, ↓w_sub, ↓w_slc, ↓w_bi, ↓w_isi, ↓w_bm, ↓w_bk, ↓w_frz, ↓w_not, ↓w_ite, ↓w_tup, ↓w_lst, ↓w_mu, ↓w_call, ↓w_lc, ↓w_lc2, ↓w_bop, ↓w_b1, ↓w_b2, ↓w_es0, ↓w_es, ↓w_as0, ↓w_as1, ↓w_as2, ↓w_c0, ↓w_c1, ↓w_seq, ↓w_range1, ↓w_range2, ↓w_enum, ↓w_zip, ↓s_nil, ↓s_one, ↓s_consN, ↓s_set, ↓s_setAt, ↓s_par, ↓s_aug, ↓s_expr, ↓s_ite, ↓s_for, ↓s_ret, ↓s_retN, ↓s_brk, ↓s_cont, ↓s_pass, ↓wpo_some, ↓wp_ok, ↓wpc_ok, ↓wps_nx, ↓wps_rt, ↓wps_bk, ↓wps_ct, ↓wpb_bl, ↓wpi_int, ↓wpo_need, ↓wpo_bind, ↓wpo_map, need_t, getE_0, getE_s, getE_1, getE_2, getE_3, getE_4, getE_5, getE_6, getE_7, getE_8, getE_9, getE_10, getE_11, getE_12, getE_13, getE_14, getE_15, List.set_cons_zero, List.set_cons_succ, asgT, asgTs, unpk, opUn, obSem, opIsi, bmSem, bkSem, Ev.numsOf, isLst, itemsOf, itemsZ, fillAs, backAs, augOp, E.v, E.q, Es.q, Es.vs, As.q, ownOk, PV.pure, pures, PV.frz, frzs, PV.isN, Bool.and_true, Bool.true_and, Bool.or_true, Bool.true_or, Bool.not_true, Bool.not_false, Bool.false_and, Bool.and_false, Bool.or_false, Bool.false_or, List.length_cons, List.length_nil, List.map_cons, List.map_nil, List.replicate, List.cons_append, List.nil_append, true_and, and_true, if_true, Option.isSome_some, backIo, Ev.op_add, Ev.op_sub, Ev.op_mul, Ev.op_div, Ev.op_mod, Ev.op_pow, Ev.op_and, Ev.op_or, Ev.op_lcat, Ev.op_tcat, cmp_lt, cmp_le, cmp_gt, cmp_ge, cmp_is, cmp_isn, sub_t0, sub_t1, sub_t2, sub_l0, sub_l1, sub_l2, sub_tn, sub_ln, eq_self, decide_true, decide_false, exists_eq_left', wipeE, backE, lenOk_0, lenOk_1, lenOk_2, lenOk_3, lenOk_4, lenOk_5, lenOk_6, Nat.reduceAdd, Nat.reduceLT, Nat.reduceLeDiff, Nat.reduceSub, Nat.reduceEqDiff, ne_eq, not_false_eq_true, not_true_eq_false, decide_eq_true_eq, List.mem_cons, List.not_mem_nil, or_false, false_or, true_or, or_true, if_false, Option.map_some, decide_not, decide_true, decide_false, Nat.lt_irrefl, cmp_eq, cmp_ne, cmp_eqb, cmp_neb, List.any_cons, List.any_nil, reduceCtorEq, beq_self_eq_true, Bool.or_self, plainOwn, List.all_cons, List.all_nil, PV.lst.injEq, mu_append, mu_reverse, mu_pop, List.getElem?_cons_succ, List.getElem?_cons_zero, List.getElem?_nil, Option.bind_some, Option.bind_none, id, pure_TV]
      exact ⟨fun u hu => by cases hu; exact ft, _, rfl⟩
    | some u =>
      have W2 := worth_t (d := d + 1) hn (hb u rfl)
      have nn : (TV u).isN = false := rfl
      simp only [OV, ↓reduceIte, ↓w_lit, ↓w_rd, ↓w_vw, ↓w_fz, ↓w_mv, ↓w_bin, ↓w_un, ↓w_cmp, ↓w_sub, ↓w_slc, ↓w_bi, ↓w_isi, ↓w_bm, ↓w_bk, ↓w_frz, ↓w_not, ↓w_ite, ↓w_tup, ↓w_lst, ↓w_mu, ↓w_call, ↓w_lc, ↓w_lc2, ↓w_bop, ↓w_b1, ↓w_b2, ↓w_es0, ↓w_es, ↓w_as0, ↓w_as1, ↓w_as2, ↓w_c0, ↓w_c1, ↓w_seq, ↓w_range1, ↓w_range2, ↓w_enum, ↓w_zip, ↓s_nil, ↓s_one, ↓s_consN, ↓s_set, ↓s_setAt, ↓s_par, ↓s_aug, ↓s_expr, ↓s_ite, ↓s_for, ↓s_ret, ↓s_retN, ↓s_brk, ↓s_cont, ↓s_pass, ↓wpo_some, ↓wp_ok, ↓wpc_ok, ↓wps_nx, ↓wps_rt, ↓wps_bk, ↓wps_ct, ↓wpb_bl, ↓wpi_int, ↓wpo_need, ↓wpo_bind, ↓wpo_map, need_t, getE_0, getE_s, getE_1, getE_2, getE_3, getE_4, getE_5, getE_6, getE_7, getE_8, getE_9, getE_10, getE_11, getE_12, getE_13, getE_14, getE_15, List.set_cons_zero, List.set_cons_succ, asgT, asgTs, unpk, opUn, obSem, opIsi, bmSem, bkSem, Ev.numsOf, isLst, itemsOf, itemsZ, fillAs, backAs, augOp, E.v, E.q, Es.q, Es.vs, As.q, ownOk, PV.pure, pures, PV.frz, frzs, PV.isN, Bool.and_true, Bool.true_and, Bool.or_true, Bool.true_or, Bool.not_true, Bool.not_false, Bool.false_and, Bool.and_false, Bool.or_false, Bool.false_or, List.length_cons, List.length_nil, List.map_cons, List.map_nil, List.replicate, List.cons_append, List.nil_append, true_and, and_true, if_true, Option.isSome_some, backIo, Ev.op_add, Ev.op_sub, Ev.op_mul, Ev.op_div, Ev.op_mod, Ev.op_pow, Ev.op_and, Ev.op_or, Ev.op_lcat, Ev.op_tcat, cmp_lt, cmp_le, cmp_gt, cmp_ge, cmp_is, cmp_isn, sub_t0, sub_t1, sub_t2, sub_l0, sub_l1, sub_l2, sub_tn, sub_ln, eq_self, decide_true, decide_false, exists_eq_left', wipeE, backE, lenOk_0, lenOk_1, lenOk_2, lenOk_3, lenOk_4, lenOk_5, lenOk_6, Nat.reduceAdd, Nat.reduceLT, Nat.reduceLeDiff, Nat.reduceSub, Nat.reduceEqDiff, ne_eq, not_false_eq_true, not_true_eq_false, decide_eq_true_eq, List.mem_cons, List.not_mem_nil, or_false, false_or, true_or, or_true, if_false, Option.map_some, decide_not, decide_true, decide_false, Nat.lt_irrefl, cmp_eq, cmp_ne, cmp_eqb, cmp_neb, List.any_cons, List.any_nil, reduceCtorEq, beq_self_eq_true, Bool.or_self, plainOwn, List.all_cons, List.all_nil, PV.lst.injEq, mu_append, mu_reverse, mu_pop, List.getElem?_cons_succ, List.getElem?_cons_zero, List.getElem?_nil, Option.bind_some, Option.bind_none, id, pure_TV, pure_BV, frz_BV, frz_TV, W, W2, nn, if_neg Bool.false_ne_true]
      unfold better
      by_cases c : wo rows u < wo rows t
      · simp only [c, ↓reduceIte, ↓w_lit, ↓w_rd, ↓w_vw, ↓w_fz, ↓w_mv, ↓w_bin, ↓w_un, ↓w_cmp, ↓w_sub, ↓w_slc, ↓w_bi, ↓w_isi, ↓w_bm, ↓w_bk, ↓w_frz, ↓w_not, ↓w_ite, ↓w_tup, ↓w_lst, ↓w_mu, ↓w_call, ↓w_lc, ↓w_lc2, ↓w_bop, ↓w_b1, ↓w_b2, ↓w_es0, ↓w_es, ↓w_as0, ↓w_as1, ↓w_as2, ↓w_c0, ↓w_c1, ↓w_seq, ↓w_range1, ↓w_range2, ↓w_enum, ↓w_zip, ↓s_nil, ↓s_one, ↓s_consN, ↓s_set, ↓s_setAt, ↓s_par, ↓s_aug, ↓s_expr, ↓s_ite, ↓s_for, ↓s_ret, ↓s_retN, ↓s_brk, ↓s_cont, ↓s_pass, ↓wpo_some, ↓wp_ok, ↓wpc_ok, ↓wps_nx, ↓wps_rt, ↓wps_bk, ↓wps_ct, ↓wpb_bl, ↓wpi_int, ↓wpo_need, ↓wpo_bind, ↓wpo_map, need_t, getE_0, getE_s, getE_1, getE_2, getE_3, getE_4, getE_5, getE_6, getE_7, getE_8, getE_9, getE_10, getE_11, getE_12, getE_13, getE_14, getE_15, List.set_cons_zero, List.set_cons_succ, asgT, asgTs, unpk, opUn, obSem, opIsi, bmSem, bkSem, Ev.numsOf, isLst, itemsOf, itemsZ, fillAs, backAs, augOp, E.v, E.q, Es.q, Es.vs, As.q, ownOk, PV.pure, pures, PV.frz, frzs, PV.isN, Bool.and_true, Bool.true_and, Bool.or_true, Bool.true_or, Bool.not_true, Bool.not_false, Bool.false_and, Bool.and_false, Bool.or_false, Bool.false_or, List.length_cons, List.length_nil, List.map_cons, List.map_nil, List.replicate, List.cons_append, List.nil_append, true_and, and_true, if_true, Option.isSome_some, backIo, Ev.op_add, Ev.op_sub, Ev.op_mul, Ev.op_div, Ev.op_mod, Ev.op_pow, Ev.op_and, Ev.op_or, Ev.op_lcat, Ev.op_tcat, cmp_lt, cmp_le, cmp_gt, cmp_ge, cmp_is, cmp_isn, sub_t0, sub_t1, sub_t2, sub_l0, sub_l1, sub_l2, sub_tn, sub_ln, eq_self, decide_true, decide_false, exists_eq_left', wipeE, backE, lenOk_0, lenOk_1, lenOk_2, lenOk_3, lenOk_4, lenOk_5, lenOk_6, Nat.reduceAdd, Nat.reduceLT, Nat.reduceLeDiff, Nat.reduceSub, Nat.reduceEqDiff, ne_eq, not_false_eq_true, not_true_eq_false, decide_eq_true_eq, List.mem_cons, List.not_mem_nil, or_false, false_or, true_or, or_true, if_false, Option.map_some, decide_not, decide_true, decide_false, Nat.lt_irrefl, cmp_eq, cmp_ne, cmp_eqb, cmp_neb, List.any_cons, List.any_nil, reduceCtorEq, beq_self_eq_true, Bool.or_self, plainOwn, List.all_cons, List.all_nil, PV.lst.injEq, mu_append, mu_reverse, mu_pop, List.getElem?_cons_succ, List.getElem?_cons_zero, List.getElem?_nil, Option.bind_some, Option.bind_none, id, pure_TV]
        exact ⟨fun v hv => by cases hv; exact ft, _, rfl⟩
      · simp only [c, ↓reduceIte, ↓w_lit, ↓w_rd, ↓w_vw, ↓w_fz, ↓w_mv, ↓w_bin, ↓w_un, ↓w_cmp, ↓w_sub, ↓w_slc, ↓w_bi, ↓w_isi, ↓w_bm, ↓w_bk, ↓w_frz, ↓w_not, ↓w_ite, ↓w_tup, ↓w_lst, ↓w_mu, ↓w_call, ↓w_lc, ↓w_lc2, ↓w_bop, ↓w_b1, ↓w_b2, ↓w_es0, ↓w_es, ↓w_as0, ↓w_as1, ↓w_as2, ↓w_c0, ↓w_c1, ↓w_seq, ↓w_range1, ↓w_range2, ↓w_enum, ↓w_zip, ↓s_nil, ↓s_one, ↓s_consN, ↓s_set, ↓s_setAt, ↓s_par, ↓s_aug, ↓s_expr, ↓s_ite, ↓s_for, ↓s_ret, ↓s_retN, ↓s_brk, ↓s_cont, ↓s_pass, ↓wpo_some, ↓wp_ok, ↓wpc_ok, ↓wps_nx, ↓wps_rt, ↓wps_bk, ↓wps_ct, ↓wpb_bl, ↓wpi_int, ↓wpo_need, ↓wpo_bind, ↓wpo_map, need_t, getE_0, getE_s, getE_1, getE_2, getE_3, getE_4, getE_5, getE_6, getE_7, getE_8, getE_9, getE_10, getE_11, getE_12, getE_13, getE_14, getE_15, List.set_cons_zero, List.set_cons_succ, asgT, asgTs, unpk, opUn, obSem, opIsi, bmSem, bkSem, Ev.numsOf, isLst, itemsOf, itemsZ, fillAs, backAs, augOp, E.v, E.q, Es.q, Es.vs, As.q, ownOk, PV.pure, pures, PV.frz, frzs, PV.isN, Bool.and_true, Bool.true_and, Bool.or_true, Bool.true_or, Bool.not_true, Bool.not_false, Bool.false_and, Bool.and_false, Bool.or_false, Bool.false_or, List.length_cons, List.length_nil, List.map_cons, List.map_nil, List.replicate, List.cons_append, List.nil_append, true_and, and_true, if_true, Option.isSome_some, backIo, Ev.op_add, Ev.op_sub, Ev.op_mul, Ev.op_div, Ev.op_mod, Ev.op_pow, Ev.op_and, Ev.op_or, Ev.op_lcat, Ev.op_tcat, cmp_lt, cmp_le, cmp_gt, cmp_ge, cmp_is, cmp_isn, sub_t0, sub_t1, sub_t2, sub_l0, sub_l1, sub_l2, sub_tn, sub_ln, eq_self, decide_true, decide_false, exists_eq_left', wipeE, backE, lenOk_0, lenOk_1, lenOk_2, lenOk_3, lenOk_4, lenOk_5, lenOk_6, Nat.reduceAdd, Nat.reduceLT, Nat.reduceLeDiff, Nat.reduceSub, Nat.reduceEqDiff, ne_eq, not_false_eq_true, not_true_eq_false, decide_eq_true_eq, List.mem_cons, List.not_mem_nil, or_false, false_or, true_or, or_true, if_false, Option.map_some, decide_not, decide_true, decide_false, Nat.lt_irrefl, cmp_eq, cmp_ne, cmp_eqb, cmp_neb, List.any_cons, List.any_nil, reduceCtorEq, beq_self_eq_true, Bool.or_self, plainOwn, List.all_cons, List.all_nil, PV.lst.injEq, mu_append, mu_reverse, mu_pop, List.getElem?_cons_succ, List.getElem?_cons_zero, List.getElem?_nil, Option.bind_some, Option.bind_none, id]
        exact ⟨fun v hv => by cases hv; exact hb u rfl, _, rfl⟩
  · rintro ρ ⟨hb, y, rfl⟩
    simp only [↓reduceIte, ↓w_lit, ↓w_rd, ↓w_vw, ↓w_fz, ↓w_mv, ↓w_bin, ↓w_un, ↓w_cmp, ↓w_sub, ↓w_slc, ↓w_bi, ↓w_isi, ↓w_bm, ↓w_bk, ↓w_frz, ↓w_not, ↓w_ite, ↓w_tup, ↓w_lst, ↓w_mu, ↓w_call, ↓w_lc, ↓w_lc2, ↓w_bop, ↓w_b1, ↓w_b2, ↓w_es0, ↓w_es, ↓w_as0, ↓w_as1, ↓w_as2, ↓w_c0, ↓w_c1, ↓w_seq, ↓w_range1, ↓w_range2, ↓w_enum, ↓w_zip, ↓s_nil, ↓s_one, ↓s_consN, ↓seqN_app, ↓s_set, ↓s_setAt, ↓s_par, ↓s_aug, ↓s_expr, ↓s_ite, ↓s_for, ↓s_ret, ↓s_retN, ↓s_brk, ↓s_cont, ↓s_pass, ↓wpo_some, ↓wp_ok, ↓wpc_ok, ↓wps_nx, ↓wps_rt, ↓wps_bk, ↓wps_ct, ↓wpb_bl, ↓wpi_int, ↓wpo_need, ↓wpo_bind, ↓wpo_map, need_t, getE_0, getE_s, getE_1, getE_2, getE_3, getE_4, getE_5, getE_6, getE_7, getE_8, getE_9, getE_10, getE_11, getE_12, getE_13, getE_14, getE_15, List.set_cons_zero, List.set_cons_succ, asgT, asgTs, unpk, opUn, obSem, opIsi, bmSem, bkSem, Ev.numsOf, isLst, itemsOf, itemsZ, fillAs, backAs, augOp, E.v, E.q, Es.q, Es.vs, As.q, ownOk, PV.pure, pures, PV.frz, frzs, PV.isN, Bool.and_true, Bool.true_and, Bool.or_true, Bool.true_or, Bool.not_true, Bool.not_false, Bool.false_and, Bool.and_false, Bool.or_false, Bool.false_or, List.length_cons, List.length_nil, List.map_cons, List.map_nil, List.replicate, List.cons_append, List.nil_append, true_and, and_true, if_true, Option.isSome_some, backIo, Ev.op_add, Ev.op_sub, Ev.op_mul, Ev.op_div, Ev.op_mod, Ev.op_pow, Ev.op_and, Ev.op_or, Ev.op_lcat, Ev.op_tcat, cmp_lt, cmp_le, cmp_gt, cmp_ge, cmp_is, cmp_isn, sub_t0, sub_t1, sub_t2, sub_l0, sub_l1, sub_l2, sub_tn, sub_ln, eq_self, decide_true, decide_false, exists_eq_left', wipeE, backE, lenOk_0, lenOk_1, lenOk_2, lenOk_3, lenOk_4, lenOk_5, lenOk_6, Nat.reduceAdd, Nat.reduceLT, Nat.reduceLeDiff, Nat.reduceSub, Nat.reduceEqDiff, ne_eq, not_false_eq_true, not_true_eq_false, decide_eq_true_eq, List.mem_cons, List.not_mem_nil, or_false, false_or, true_or, or_true, if_false, Option.map_some, decide_not, decide_true, decide_false, Nat.lt_irrefl, cmp_eq, cmp_ne, cmp_eqb, cmp_neb, List.any_cons, List.any_nil, reduceCtorEq, beq_self_eq_true, Bool.or_self, plainOwn, List.all_cons, List.all_nil, PV.lst.injEq, mu_append, mu_reverse, mu_pop, List.getElem?_cons_succ, List.getElem?_cons_zero, List.getElem?_nil, Option.bind_some, Option.bind_none, id, OV_pure]
    rfl
end K78

set_option Elab.async false
set_option linter.all false
set_option maxRecDepth 100000
set_option maxHeartbeats 4000000
set_option autoImplicit false
namespace K78
open PySem PySem.Spec PyProof.Rows L2 Ev
/-! ### the law's own sharings -/
def orr (t : List Nat) : Nat := t.foldl (· ||| ·) 0
theorem or_zero {a b : Nat} : a ||| b = 0 ↔ a = 0 ∧ b = 0 := by
  constructor
  · intro h
    have h1 : a ≤ a ||| b := Nat.left_le_or
    have h2 : b ≤ a ||| b := Nat.right_le_or
    omega
  · rintro ⟨rfl, rfl⟩; rfl
theorem orr_free (n : Nat) : ∀ (t : List Nat) (a : Nat), n &&& t.foldl (· ||| ·) a = 0 ↔ n &&& a = 0 ∧ ∀ o ∈ t, o &&& n = 0
  | [], a => by simp
  | o :: t, a => by
    rw [List.foldl_cons, orr_free n t (a ||| o), Nat.and_or_distrib_left, or_zero]
    simp only [List.mem_cons, forall_eq_or_imp]
    rw [Nat.and_comm n o]
    constructor
    · rintro ⟨⟨h1, h2⟩, h3⟩; exact ⟨h1, h2, h3⟩
    · rintro ⟨h1, h2, h3⟩; exact ⟨⟨h1, h2⟩, h3⟩
theorem free_orr (t : List Nat) (n : Nat) : decide (n &&& orr t = 0) = free' t n := by
  unfold free' orr
  rw [Bool.eq_iff_iff, decide_eq_true_eq, orr_free, List.all_eq_true]
  simp
theorem orr_snoc (t : List Nat) (n : Nat) : orr (t ++ [n]) = orr t ||| n := by
  unfold orr; rw [List.foldl_append]; rfl
def PL (t : List Nat) : PV := .lst false [TV t, .int (orr t : Nat)]
theorem pure_PL (t : List Nat) : (PL t).pure = true := by
  unfold PL; simp only [PV.pure, pures, pure_TV]; rfl
theorem frz_PL (t : List Nat) : (PL t).frz = PL t := by
  unfold PL; simp only [PV.frz, frzs, frz_TV]
theorem pures_PL (l : List (List Nat)) : pures (l.map PL) = true := by
  induction l with
  | nil => rfl
  | cons t l ih => rw [List.map_cons, pures, pure_PL, ih]; rfl
theorem frzs_PL (l : List (List Nat)) : frzs (l.map PL) = l.map PL := frzs_of fun p hp => by
  obtain ⟨n, _, e⟩ := List.mem_map.mp hp
  subst e; exact frz_PL n
def QL (l : List (List Nat)) : PV := .lst false (l.map PL)
theorem pure_QL (l : List (List Nat)) : (QL l).pure = true := by unfold QL; rw [PV.pure, pures_PL]; rfl
theorem frz_QL (l : List (List Nat)) : (QL l).frz = QL l := by unfold QL; rw [PV.frz, frzs_PL]
theorem step_fold {s : Nat} : ∀ (l acc : List (List Nat)), l.foldl (fun acc t => acc ++ step s [t]) acc = acc ++ step s l
  | [], acc => by simp [step]
  | t :: l, acc => by
    rw [List.foldl_cons, step_fold l, List.append_assoc]
    congr 1
    simp [step]
def lsBody : Ss := match f_law_sharings.body with
  | .cons _ (.cons (.for _ _ b) _) => b
  | _ => .nil
def okP (x : Option PV) : Prop := ∀ p, x = some p → p.pure = true
theorem ls_step {d n s k : Nat} {K : Conts} {x3 x4 x5 : Option PV} (h5 : okP x5) (hs : s ≤ 8) (hk : k < 4) (hN : ∀ x3 x4 x5, okP x5 → K.N [some (.int (n : Int)), some (.int (s : Int)), some (QL (shs s (k + 1))), x3, x4, x5, none]) :
    wps (evSs gl (run d) 100000 lsBody [some (.int (n : Int)), some (.int (s : Int)), some (QL (shs s k)), x3, x4, x5, none]) K := by
  have hm : (shs s k).length ≤ 8 ^ 3 := Nat.le_trans (shs_many hs _) (Nat.pow_le_pow_right (by decide) (by omega))
  have e8 : (8 : Nat) ^ 3 = 512 := rfl
  simp only [lsBody, f_law_sharings, ↓reduceIte, ↓w_lit, ↓w_rd, ↓w_vw, ↓w_fz, ↓w_mv, ↓w_bin, ↓w_un, ↓w_cmp, ↓w_sub, ↓w_slc, ↓w_bi, ↓w_isi, ↓w_bm, ↓w_bk, ↓w_frz, ↓w_not, ↓w_ite, ↓w_tup, ↓w_lst, ↓w_mu, ↓w_call, ↓w_lc, ↓w_lc2, ↓w_bop, ↓w_b1, ↓w_b2, ↓w_es0, ↓w_es, ↓w_as0, ↓w_as1, ↓w_as2, ↓w_c0, ↓w_c1, ↓w_seq, ↓w_range1, ↓w_range2, ↓w_enum, ↓w_zip, ↓s_nil, ↓s_one, ↓s_consN, ↓s_set, ↓s_setAt, ↓s_par, ↓s_aug, ↓s_expr, ↓s_ite, ↓s_for, ↓s_ret, ↓s_retN, ↓s_brk, ↓s_cont, ↓s_pass, ↓wpo_some, ↓wp_ok, ↓wpc_ok, ↓wps_nx, ↓wps_rt, ↓wps_bk, ↓wps_ct, ↓wpb_bl, ↓wpi_int, ↓wpo_need, ↓wpo_bind, ↓wpo_map, need_t, getE_0, getE_s, getE_1, getE_2, getE_3, getE_4, getE_5, getE_6, getE_7, getE_8, getE_9, getE_10, getE_11, getE_12, getE_13, getE_14, getE_15, List.set_cons_zero, List.set_cons_succ, asgT, asgTs, unpk, opUn, obSem, opIsi, bmSem, bkSem, Ev.numsOf, isLst, itemsOf, itemsZ, fillAs, backAs, augOp, E.v, E.q, Es.q, Es.vs, As.q, ownOk, PV.pure, pures, PV.frz, frzs, PV.isN, Bool.and_true, Bool.true_and, Bool.or_true, Bool.true_or, Bool.not_true, Bool.not_false, Bool.false_and, Bool.and_false, Bool.or_false, Bool.false_or, List.length_cons, List.length_nil, List.map_cons, List.map_nil, List.replicate, List.cons_append, List.nil_append, true_and, and_true, if_true, Option.isSome_some, backIo, Ev.op_add, Ev.op_sub, Ev.op_mul, Ev.op_div, Ev.op_mod, Ev.op_pow, Ev.op_and, Ev.op_or, Ev.op_lcat, Ev.op_tcat, cmp_lt, cmp_le, cmp_gt, cmp_ge, cmp_is, cmp_isn, sub_t0, sub_t1, sub_t2, sub_l0, sub_l1, sub_l2, sub_tn, sub_ln, eq_self, decide_true, decide_false, exists_eq_left', wipeE, backE, lenOk_0, lenOk_1, lenOk_2, lenOk_3, lenOk_4, lenOk_5, lenOk_6, Nat.reduceAdd, Nat.reduceLT, Nat.reduceLeDiff, Nat.reduceSub, Nat.reduceEqDiff, ne_eq, not_false_eq_true, not_true_eq_false, decide_eq_true_eq, List.mem_cons, List.not_mem_nil, or_false, false_or, true_or, or_true, if_false, Option.map_some, decide_not, decide_true, decide_false, Nat.lt_irrefl, cmp_eq, cmp_ne, cmp_eqb, cmp_neb, List.any_cons, List.any_nil, reduceCtorEq, beq_self_eq_true, Bool.or_self, plainOwn, List.all_cons, List.all_nil, PV.lst.injEq, mu_append, mu_reverse, mu_pop, List.getElem?_cons_succ, List.getElem?_cons_zero, List.getElem?_nil, Option.bind_some, Option.bind_none, id]
  rw [seqN_app]
  simp only [↓reduceIte, ↓w_lit, ↓w_rd, ↓w_vw, ↓w_fz, ↓w_mv, ↓w_bin, ↓w_un, ↓w_cmp, ↓w_sub, ↓w_slc, ↓w_bi, ↓w_isi, ↓w_bm, ↓w_bk, ↓w_frz, ↓w_not, ↓w_ite, ↓w_tup, ↓w_lst, ↓w_mu, ↓w_call, ↓w_lc, ↓w_lc2, ↓w_bop, ↓w_b1, ↓w_b2, ↓w_es0, ↓w_es, ↓w_as0, ↓w_as1, ↓w_as2, ↓w_c0, ↓w_c1, ↓w_seq, ↓w_range1, ↓w_range2, ↓w_enum, ↓w_zip, ↓s_nil, ↓s_one, ↓s_consN, ↓s_set, ↓s_setAt, ↓s_par, ↓s_aug, ↓s_expr, ↓s_ite, ↓s_for, ↓s_ret, ↓s_retN, ↓s_brk, ↓s_cont, ↓s_pass, ↓wpo_some, ↓wp_ok, ↓wpc_ok, ↓wps_nx, ↓wps_rt, ↓wps_bk, ↓wps_ct, ↓wpb_bl, ↓wpi_int, ↓wpo_need, ↓wpo_bind, ↓wpo_map, need_t, getE_0, getE_s, getE_1, getE_2, getE_3, getE_4, getE_5, getE_6, getE_7, getE_8, getE_9, getE_10, getE_11, getE_12, getE_13, getE_14, getE_15, List.set_cons_zero, List.set_cons_succ, asgT, asgTs, unpk, opUn, obSem, opIsi, bmSem, bkSem, Ev.numsOf, isLst, itemsOf, itemsZ, fillAs, backAs, augOp, E.v, E.q, Es.q, Es.vs, As.q, ownOk, PV.pure, pures, PV.frz, frzs, PV.isN, Bool.and_true, Bool.true_and, Bool.or_true, Bool.true_or, Bool.not_true, Bool.not_false, Bool.false_and, Bool.and_false, Bool.or_false, Bool.false_or, List.length_cons, List.length_nil, List.map_cons, List.map_nil, List.replicate, List.cons_append, List.nil_append, true_and, and_true, if_true, Option.isSome_some, backIo, Ev.op_add, Ev.op_sub, Ev.op_mul, Ev.op_div, Ev.op_mod, Ev.op_pow, Ev.op_and, Ev.op_or, Ev.op_lcat, Ev.op_tcat, cmp_lt, cmp_le, cmp_gt, cmp_ge, cmp_is, cmp_isn, sub_t0, sub_t1, sub_t2, sub_l0, sub_l1, sub_l2, sub_tn, sub_ln, eq_self, decide_true, decide_false, exists_eq_left', wipeE, backE, lenOk_0, lenOk_1, lenOk_2, lenOk_3, lenOk_4, lenOk_5, lenOk_6, Nat.reduceAdd, Nat.reduceLT, Nat.reduceLeDiff, Nat.reduceSub, Nat.reduceEqDiff, ne_eq, not_false_eq_true, not_true_eq_false, decide_eq_true_eq, List.mem_cons, List.not_mem_nil, or_false, false_or, true_or, or_true, if_false, Option.map_some, decide_not, decide_true, decide_false, Nat.lt_irrefl, cmp_eq, cmp_ne, cmp_eqb, cmp_neb, List.any_cons, List.any_nil, reduceCtorEq, beq_self_eq_true, Bool.or_self, plainOwn, List.all_cons, List.all_nil, PV.lst.injEq, mu_append, mu_reverse, mu_pop, List.getElem?_cons_succ, List.getElem?_cons_zero, List.getElem?_nil, Option.bind_some, Option.bind_none, id, pure_QL]
  show wpo (itemsOf (.lst false ((shs s k).map PL))) _
  simp only [↓reduceIte, ↓w_lit, ↓w_rd, ↓w_vw, ↓w_fz, ↓w_mv, ↓w_bin, ↓w_un, ↓w_cmp, ↓w_sub, ↓w_slc, ↓w_bi, ↓w_isi, ↓w_bm, ↓w_bk, ↓w_frz, ↓w_not, ↓w_ite, ↓w_tup, ↓w_lst, ↓w_mu, ↓w_call, ↓w_lc, ↓w_lc2, ↓w_bop, ↓w_b1, ↓w_b2, ↓w_es0, ↓w_es, ↓w_as0, ↓w_as1, ↓w_as2, ↓w_c0, ↓w_c1, ↓w_seq, ↓w_range1, ↓w_range2, ↓w_enum, ↓w_zip, ↓s_nil, ↓s_one, ↓s_consN, ↓s_set, ↓s_setAt, ↓s_par, ↓s_aug, ↓s_expr, ↓s_ite, ↓s_for, ↓s_ret, ↓s_retN, ↓s_brk, ↓s_cont, ↓s_pass, ↓wpo_some, ↓wp_ok, ↓wpc_ok, ↓wps_nx, ↓wps_rt, ↓wps_bk, ↓wps_ct, ↓wpb_bl, ↓wpi_int, ↓wpo_need, ↓wpo_bind, ↓wpo_map, need_t, getE_0, getE_s, getE_1, getE_2, getE_3, getE_4, getE_5, getE_6, getE_7, getE_8, getE_9, getE_10, getE_11, getE_12, getE_13, getE_14, getE_15, List.set_cons_zero, List.set_cons_succ, asgT, asgTs, unpk, opUn, obSem, opIsi, bmSem, bkSem, Ev.numsOf, isLst, itemsOf, itemsZ, fillAs, backAs, augOp, E.v, E.q, Es.q, Es.vs, As.q, ownOk, PV.pure, pures, PV.frz, frzs, PV.isN, Bool.and_true, Bool.true_and, Bool.or_true, Bool.true_or, Bool.not_true, Bool.not_false, Bool.false_and, Bool.and_false, Bool.or_false, Bool.false_or, List.length_cons, List.length_nil, List.map_cons, List.map_nil, List.replicate, List.cons_append, List.nil_append, true_and, and_true, if_true, Option.isSome_some, backIo, Ev.op_add, Ev.op_sub, Ev.op_mul, Ev.op_div, Ev.op_mod, Ev.op_pow, Ev.op_and, Ev.op_or, Ev.op_lcat, Ev.op_tcat, cmp_lt, cmp_le, cmp_gt, cmp_ge, cmp_is, cmp_isn, sub_t0, sub_t1, sub_t2, sub_l0, sub_l1, sub_l2, sub_tn, sub_ln, eq_self, decide_true, decide_false, exists_eq_left', wipeE, backE, lenOk_0, lenOk_1, lenOk_2, lenOk_3, lenOk_4, lenOk_5, lenOk_6, Nat.reduceAdd, Nat.reduceLT, Nat.reduceLeDiff, Nat.reduceSub, Nat.reduceEqDiff, ne_eq, not_false_eq_true, not_true_eq_false, decide_eq_true_eq, List.mem_cons, List.not_mem_nil, or_false, false_or, true_or, or_true, if_false, Option.map_some, decide_not, decide_true, decide_false, Nat.lt_irrefl, cmp_eq, cmp_ne, cmp_eqb, cmp_neb, List.any_cons, List.any_nil, reduceCtorEq, beq_self_eq_true, Bool.or_self, plainOwn, List.all_cons, List.all_nil, PV.lst.injEq, mu_append, mu_reverse, mu_pop, List.getElem?_cons_succ, List.getElem?_cons_zero, List.getElem?_nil, Option.bind_some, Option.bind_none, id, pures_PL]
  have hbs : bnd62 (s : Int) = true := bnd_of (Nat.le_trans hs (by decide))
  refine for_inv (fun xs ρ => ∃ a b x5, okP x5 ∧ a ++ b = shs s k ∧ xs = b.map PL ∧ ρ = [some (.int (n : Int)), some (.int (s : Int)), some (QL (shs s k)), x3, some (QL (step s a)), x5, none]) ?_ ?_ _ _ ⟨[], _, _, h5, rfl, rfl, rfl⟩
  · rintro x xs ρ ⟨a, b, y5, hy5, hab, hb, rfl⟩
    cases b with
    | nil => cases hb
    | cons t b =>
      rw [List.map_cons] at hb
      injection hb with h1 h2
      subst h1; subst h2
      have hal : a.length + 1 ≤ 512 := by
        have := congrArg List.length hab
        simp at this; omega
      have htl : t.length = k := shs_len (s := s) (k := k) (by rw [← hab]; simp)
      simp only [↓reduceIte, ↓w_lit, ↓w_rd, ↓w_vw, ↓w_fz, ↓w_mv, ↓w_bin, ↓w_un, ↓w_cmp, ↓w_sub, ↓w_slc, ↓w_bi, ↓w_isi, ↓w_bm, ↓w_bk, ↓w_frz, ↓w_not, ↓w_ite, ↓w_tup, ↓w_lst, ↓w_mu, ↓w_call, ↓w_lc, ↓w_lc2, ↓w_bop, ↓w_b1, ↓w_b2, ↓w_es0, ↓w_es, ↓w_as0, ↓w_as1, ↓w_as2, ↓w_c0, ↓w_c1, ↓w_seq, ↓w_range1, ↓w_range2, ↓w_enum, ↓w_zip, ↓s_nil, ↓s_one, ↓s_consN, ↓s_set, ↓s_setAt, ↓s_par, ↓s_aug, ↓s_expr, ↓s_ite, ↓s_for, ↓s_ret, ↓s_retN, ↓s_brk, ↓s_cont, ↓s_pass, ↓wpo_some, ↓wp_ok, ↓wpc_ok, ↓wps_nx, ↓wps_rt, ↓wps_bk, ↓wps_ct, ↓wpb_bl, ↓wpi_int, ↓wpo_need, ↓wpo_bind, ↓wpo_map, need_t, getE_0, getE_s, getE_1, getE_2, getE_3, getE_4, getE_5, getE_6, getE_7, getE_8, getE_9, getE_10, getE_11, getE_12, getE_13, getE_14, getE_15, List.set_cons_zero, List.set_cons_succ, asgT, asgTs, unpk, opUn, obSem, opIsi, bmSem, bkSem, Ev.numsOf, isLst, itemsOf, itemsZ, fillAs, backAs, augOp, E.v, E.q, Es.q, Es.vs, As.q, ownOk, PV.pure, pures, PV.frz, frzs, PV.isN, Bool.and_true, Bool.true_and, Bool.or_true, Bool.true_or, Bool.not_true, Bool.not_false, Bool.false_and, Bool.and_false, Bool.or_false, Bool.false_or, List.length_cons, List.length_nil, List.map_cons, List.map_nil, List.replicate, List.cons_append, List.nil_append, true_and, and_true, if_true, Option.isSome_some, backIo, Ev.op_add, Ev.op_sub, Ev.op_mul, Ev.op_div, Ev.op_mod, Ev.op_pow, Ev.op_and, Ev.op_or, Ev.op_lcat, Ev.op_tcat, cmp_lt, cmp_le, cmp_gt, cmp_ge, cmp_is, cmp_isn, sub_t0, sub_t1, sub_t2, sub_l0, sub_l1, sub_l2, sub_tn, sub_ln, eq_self, decide_true, decide_false, exists_eq_left', wipeE, backE, lenOk_0, lenOk_1, lenOk_2, lenOk_3, lenOk_4, lenOk_5, lenOk_6, Nat.reduceAdd, Nat.reduceLT, Nat.reduceLeDiff, Nat.reduceSub, Nat.reduceEqDiff, ne_eq, not_false_eq_true, not_true_eq_false, decide_eq_true_eq, List.mem_cons, List.not_mem_nil, or_false, false_or, true_or, or_true, if_false, Option.map_some, decide_not, decide_true, decide_false, Nat.lt_irrefl, cmp_eq, cmp_ne, cmp_eqb, cmp_neb, List.any_cons, List.any_nil, reduceCtorEq, beq_self_eq_true, Bool.or_self, plainOwn, List.all_cons, List.all_nil, PV.lst.injEq, mu_append, mu_reverse, mu_pop, List.getElem?_cons_succ, List.getElem?_cons_zero, List.getElem?_nil, Option.bind_some, Option.bind_none, id, pure_QL]
      rw [rangeP_map]
      refine ⟨hbs, lenOk_of (by simp; omega), ?_⟩
      refine lc_map (fun i : Nat => PV.int (i : Int)) (fun m => if free' t m = true then [PL (t ++ [m])] else []) (fun ρ => ∃ z, ρ = [some (.int (n : Int)), some (.int (s : Int)), some (QL (shs s k)), x3, some (QL (step s a)), some (PL t), z]) _ ⟨_, rfl⟩ ?_ ?_
      · rintro m hm' ρ ⟨z, rfl⟩
        have s1 : opSub [PL t, .int 1] = some (.int (orr t : Nat)) := sub_l1
        have s0 : opSub [PL t, .int 0] = some (TV t) := sub_l0
        have fe : decide (((m &&& orr t : Nat) : Int) = 0) = free' t m := by
          rw [← free_orr]; exact decide_eq_decide.mpr ⟨fun h => by omega, fun h => by rw [h]; rfl⟩
        simp only [↓reduceIte, ↓w_lit, ↓w_rd, ↓w_vw, ↓w_fz, ↓w_mv, ↓w_bin, ↓w_un, ↓w_cmp, ↓w_sub, ↓w_slc, ↓w_bi, ↓w_isi, ↓w_bm, ↓w_bk, ↓w_frz, ↓w_not, ↓w_ite, ↓w_tup, ↓w_lst, ↓w_mu, ↓w_call, ↓w_lc, ↓w_lc2, ↓w_bop, ↓w_b1, ↓w_b2, ↓w_es0, ↓w_es, ↓w_as0, ↓w_as1, ↓w_as2, ↓w_c0, ↓w_c1, ↓w_seq, ↓w_range1, ↓w_range2, ↓w_enum, ↓w_zip, ↓s_nil, ↓s_one, ↓s_consN, ↓s_set, ↓s_setAt, ↓s_par, ↓s_aug, ↓s_expr, ↓s_ite, ↓s_for, ↓s_ret, ↓s_retN, ↓s_brk, ↓s_cont, ↓s_pass, ↓wpo_some, ↓wp_ok, ↓wpc_ok, ↓wps_nx, ↓wps_rt, ↓wps_bk, ↓wps_ct, ↓wpb_bl, ↓wpi_int, ↓wpo_need, ↓wpo_bind, ↓wpo_map, need_t, getE_0, getE_s, getE_1, getE_2, getE_3, getE_4, getE_5, getE_6, getE_7, getE_8, getE_9, getE_10, getE_11, getE_12, getE_13, getE_14, getE_15, List.set_cons_zero, List.set_cons_succ, asgT, asgTs, unpk, opUn, obSem, opIsi, bmSem, bkSem, Ev.numsOf, isLst, itemsOf, itemsZ, fillAs, backAs, augOp, E.v, E.q, Es.q, Es.vs, As.q, ownOk, PV.pure, pures, PV.frz, frzs, PV.isN, Bool.and_true, Bool.true_and, Bool.or_true, Bool.true_or, Bool.not_true, Bool.not_false, Bool.false_and, Bool.and_false, Bool.or_false, Bool.false_or, List.length_cons, List.length_nil, List.map_cons, List.map_nil, List.replicate, List.cons_append, List.nil_append, true_and, and_true, if_true, Option.isSome_some, backIo, Ev.op_add, Ev.op_sub, Ev.op_mul, Ev.op_div, Ev.op_mod, Ev.op_pow, Ev.op_and, Ev.op_or, Ev.op_lcat, Ev.op_tcat, cmp_lt, cmp_le, cmp_gt, cmp_ge, cmp_is, cmp_isn, sub_t0, sub_t1, sub_t2, sub_l0, sub_l1, sub_l2, sub_tn, sub_ln, eq_self, decide_true, decide_false, exists_eq_left', wipeE, backE, lenOk_0, lenOk_1, lenOk_2, lenOk_3, lenOk_4, lenOk_5, lenOk_6, Nat.reduceAdd, Nat.reduceLT, Nat.reduceLeDiff, Nat.reduceSub, Nat.reduceEqDiff, ne_eq, not_false_eq_true, not_true_eq_false, decide_eq_true_eq, List.mem_cons, List.not_mem_nil, or_false, false_or, true_or, or_true, if_false, Option.map_some, decide_not, decide_true, decide_false, Nat.lt_irrefl, cmp_eq, cmp_ne, cmp_eqb, cmp_neb, List.any_cons, List.any_nil, reduceCtorEq, beq_self_eq_true, Bool.or_self, plainOwn, List.all_cons, List.all_nil, PV.lst.injEq, mu_append, mu_reverse, mu_pop, List.getElem?_cons_succ, List.getElem?_cons_zero, List.getElem?_nil, Option.bind_some, Option.bind_none, id, pure_PL, s1, s0, band, fe]
        cases hf : free' t m with
        | true =>
          simp only [↓reduceIte, ↓w_lit, ↓w_rd, ↓w_vw, ↓w_fz, ↓w_mv, ↓w_bin, ↓w_un, ↓w_cmp, ↓w_sub, ↓w_slc, ↓w_bi, ↓w_isi, ↓w_bm, ↓w_bk, ↓w_frz, ↓w_not, ↓w_ite, ↓w_tup, ↓w_lst, ↓w_mu, ↓w_call, ↓w_lc, ↓w_lc2, ↓w_bop, ↓w_b1, ↓w_b2, ↓w_es0, ↓w_es, ↓w_as0, ↓w_as1, ↓w_as2, ↓w_c0, ↓w_c1, ↓w_seq, ↓w_range1, ↓w_range2, ↓w_enum, ↓w_zip, ↓s_nil, ↓s_one, ↓s_consN, ↓s_set, ↓s_setAt, ↓s_par, ↓s_aug, ↓s_expr, ↓s_ite, ↓s_for, ↓s_ret, ↓s_retN, ↓s_brk, ↓s_cont, ↓s_pass, ↓wpo_some, ↓wp_ok, ↓wpc_ok, ↓wps_nx, ↓wps_rt, ↓wps_bk, ↓wps_ct, ↓wpb_bl, ↓wpi_int, ↓wpo_need, ↓wpo_bind, ↓wpo_map, need_t, getE_0, getE_s, getE_1, getE_2, getE_3, getE_4, getE_5, getE_6, getE_7, getE_8, getE_9, getE_10, getE_11, getE_12, getE_13, getE_14, getE_15, List.set_cons_zero, List.set_cons_succ, asgT, asgTs, unpk, opUn, obSem, opIsi, bmSem, bkSem, Ev.numsOf, isLst, itemsOf, itemsZ, fillAs, backAs, augOp, E.v, E.q, Es.q, Es.vs, As.q, ownOk, PV.pure, pures, PV.frz, frzs, PV.isN, Bool.and_true, Bool.true_and, Bool.or_true, Bool.true_or, Bool.not_true, Bool.not_false, Bool.false_and, Bool.and_false, Bool.or_false, Bool.false_or, List.length_cons, List.length_nil, List.map_cons, List.map_nil, List.replicate, List.cons_append, List.nil_append, true_and, and_true, if_true, Option.isSome_some, backIo, Ev.op_add, Ev.op_sub, Ev.op_mul, Ev.op_div, Ev.op_mod, Ev.op_pow, Ev.op_and, Ev.op_or, Ev.op_lcat, Ev.op_tcat, cmp_lt, cmp_le, cmp_gt, cmp_ge, cmp_is, cmp_isn, sub_t0, sub_t1, sub_t2, sub_l0, sub_l1, sub_l2, sub_tn, sub_ln, eq_self, decide_true, decide_false, exists_eq_left', wipeE, backE, lenOk_0, lenOk_1, lenOk_2, lenOk_3, lenOk_4, lenOk_5, lenOk_6, Nat.reduceAdd, Nat.reduceLT, Nat.reduceLeDiff, Nat.reduceSub, Nat.reduceEqDiff, ne_eq, not_false_eq_true, not_true_eq_false, decide_eq_true_eq, List.mem_cons, List.not_mem_nil, or_false, false_or, true_or, or_true, if_false, Option.map_some, decide_not, decide_true, decide_false, Nat.lt_irrefl, cmp_eq, cmp_ne, cmp_eqb, cmp_neb, List.any_cons, List.any_nil, reduceCtorEq, beq_self_eq_true, Bool.or_self, plainOwn, List.all_cons, List.all_nil, PV.lst.injEq, mu_append, mu_reverse, mu_pop, List.getElem?_cons_succ, List.getElem?_cons_zero, List.getElem?_nil, Option.bind_some, Option.bind_none, id, ↓w_elt, pure_PL, s1, s0, bor]
          simp only [TV, ↓reduceIte, ↓w_lit, ↓w_rd, ↓w_vw, ↓w_fz, ↓w_mv, ↓w_bin, ↓w_un, ↓w_cmp, ↓w_sub, ↓w_slc, ↓w_bi, ↓w_isi, ↓w_bm, ↓w_bk, ↓w_frz, ↓w_not, ↓w_ite, ↓w_tup, ↓w_lst, ↓w_mu, ↓w_call, ↓w_lc, ↓w_lc2, ↓w_bop, ↓w_b1, ↓w_b2, ↓w_es0, ↓w_es, ↓w_as0, ↓w_as1, ↓w_as2, ↓w_c0, ↓w_c1, ↓w_seq, ↓w_range1, ↓w_range2, ↓w_enum, ↓w_zip, ↓s_nil, ↓s_one, ↓s_consN, ↓s_set, ↓s_setAt, ↓s_par, ↓s_aug, ↓s_expr, ↓s_ite, ↓s_for, ↓s_ret, ↓s_retN, ↓s_brk, ↓s_cont, ↓s_pass, ↓wpo_some, ↓wp_ok, ↓wpc_ok, ↓wps_nx, ↓wps_rt, ↓wps_bk, ↓wps_ct, ↓wpb_bl, ↓wpi_int, ↓wpo_need, ↓wpo_bind, ↓wpo_map, need_t, getE_0, getE_s, getE_1, getE_2, getE_3, getE_4, getE_5, getE_6, getE_7, getE_8, getE_9, getE_10, getE_11, getE_12, getE_13, getE_14, getE_15, List.set_cons_zero, List.set_cons_succ, asgT, asgTs, unpk, opUn, obSem, opIsi, bmSem, bkSem, Ev.numsOf, isLst, itemsOf, itemsZ, fillAs, backAs, augOp, E.v, E.q, Es.q, Es.vs, As.q, ownOk, PV.pure, pures, PV.frz, frzs, PV.isN, Bool.and_true, Bool.true_and, Bool.or_true, Bool.true_or, Bool.not_true, Bool.not_false, Bool.false_and, Bool.and_false, Bool.or_false, Bool.false_or, List.length_cons, List.length_nil, List.map_cons, List.map_nil, List.replicate, List.cons_append, List.nil_append, true_and, and_true, if_true, Option.isSome_some, backIo, Ev.op_add, Ev.op_sub, Ev.op_mul, Ev.op_div, Ev.op_mod, Ev.op_pow, Ev.op_and, Ev.op_or, Ev.op_lcat, Ev.op_tcat, cmp_lt, cmp_le, cmp_gt, cmp_ge, cmp_is, cmp_isn, sub_t0, sub_t1, sub_t2, sub_l0, sub_l1, sub_l2, sub_tn, sub_ln, eq_self, decide_true, decide_false, exists_eq_left', wipeE, backE, lenOk_0, lenOk_1, lenOk_2, lenOk_3, lenOk_4, lenOk_5, lenOk_6, Nat.reduceAdd, Nat.reduceLT, Nat.reduceLeDiff, Nat.reduceSub, Nat.reduceEqDiff, ne_eq, not_false_eq_true, not_true_eq_false, decide_eq_true_eq, List.mem_cons, List.not_mem_nil, or_false, false_or, true_or, or_true, if_false, Option.map_some, decide_not, decide_true, decide_false, Nat.lt_irrefl, cmp_eq, cmp_ne, cmp_eqb, cmp_neb, List.any_cons, List.any_nil, reduceCtorEq, beq_self_eq_true, Bool.or_self, plainOwn, List.all_cons, List.all_nil, PV.lst.injEq, mu_append, mu_reverse, mu_pop, List.getElem?_cons_succ, List.getElem?_cons_zero, List.getElem?_nil, Option.bind_some, Option.bind_none, id, List.length_map, htl]
          refine ⟨lenOk_of (by omega), ?_, _, rfl⟩
          have e1 : (t.map fun n : Nat => PV.int (n : Int)) ++ [PV.int (m : Int)] = (t ++ [m]).map fun n : Nat => PV.int (n : Int) := by rw [List.map_append]; rfl
          rw [e1]
          show [PV.lst false [(TV (t ++ [m])).frz, _]] = _
          rw [frz_TV]
          unfold PL
          rw [orr_snoc]
        | false =>
          simp only [↓reduceIte, ↓w_lit, ↓w_rd, ↓w_vw, ↓w_fz, ↓w_mv, ↓w_bin, ↓w_un, ↓w_cmp, ↓w_sub, ↓w_slc, ↓w_bi, ↓w_isi, ↓w_bm, ↓w_bk, ↓w_frz, ↓w_not, ↓w_ite, ↓w_tup, ↓w_lst, ↓w_mu, ↓w_call, ↓w_lc, ↓w_lc2, ↓w_bop, ↓w_b1, ↓w_b2, ↓w_es0, ↓w_es, ↓w_as0, ↓w_as1, ↓w_as2, ↓w_c0, ↓w_c1, ↓w_seq, ↓w_range1, ↓w_range2, ↓w_enum, ↓w_zip, ↓s_nil, ↓s_one, ↓s_consN, ↓s_set, ↓s_setAt, ↓s_par, ↓s_aug, ↓s_expr, ↓s_ite, ↓s_for, ↓s_ret, ↓s_retN, ↓s_brk, ↓s_cont, ↓s_pass, ↓wpo_some, ↓wp_ok, ↓wpc_ok, ↓wps_nx, ↓wps_rt, ↓wps_bk, ↓wps_ct, ↓wpb_bl, ↓wpi_int, ↓wpo_need, ↓wpo_bind, ↓wpo_map, need_t, getE_0, getE_s, getE_1, getE_2, getE_3, getE_4, getE_5, getE_6, getE_7, getE_8, getE_9, getE_10, getE_11, getE_12, getE_13, getE_14, getE_15, List.set_cons_zero, List.set_cons_succ, asgT, asgTs, unpk, opUn, obSem, opIsi, bmSem, bkSem, Ev.numsOf, isLst, itemsOf, itemsZ, fillAs, backAs, augOp, E.v, E.q, Es.q, Es.vs, As.q, ownOk, PV.pure, pures, PV.frz, frzs, PV.isN, Bool.and_true, Bool.true_and, Bool.or_true, Bool.true_or, Bool.not_true, Bool.not_false, Bool.false_and, Bool.and_false, Bool.or_false, Bool.false_or, List.length_cons, List.length_nil, List.map_cons, List.map_nil, List.replicate, List.cons_append, List.nil_append, true_and, and_true, if_true, Option.isSome_some, backIo, Ev.op_add, Ev.op_sub, Ev.op_mul, Ev.op_div, Ev.op_mod, Ev.op_pow, Ev.op_and, Ev.op_or, Ev.op_lcat, Ev.op_tcat, cmp_lt, cmp_le, cmp_gt, cmp_ge, cmp_is, cmp_isn, sub_t0, sub_t1, sub_t2, sub_l0, sub_l1, sub_l2, sub_tn, sub_ln, eq_self, decide_true, decide_false, exists_eq_left', wipeE, backE, lenOk_0, lenOk_1, lenOk_2, lenOk_3, lenOk_4, lenOk_5, lenOk_6, Nat.reduceAdd, Nat.reduceLT, Nat.reduceLeDiff, Nat.reduceSub, Nat.reduceEqDiff, ne_eq, not_false_eq_true, not_true_eq_false, decide_eq_true_eq, List.mem_cons, List.not_mem_nil, or_false, false_or, true_or, or_true, if_false, Option.map_some, decide_not, decide_true, decide_false, Nat.lt_irrefl, cmp_eq, cmp_ne, cmp_eqb, cmp_neb, List.any_cons, List.any_nil, reduceCtorEq, beq_self_eq_true, Bool.or_self, plainOwn, List.all_cons, List.all_nil, PV.lst.injEq, mu_append, mu_reverse, mu_pop, List.getElem?_cons_succ, List.getElem?_cons_zero, List.getElem?_nil, Option.bind_some, Option.bind_none, id, if_neg Bool.false_ne_true]
          exact ⟨_, rfl⟩
      · rintro ρ ⟨z, rfl⟩
        rw [flat_filter]
        have e2 : ((List.range s).filter (free' t)).map (fun m => PL (t ++ [m])) = (step s [t]).map PL := by
          unfold step
          simp
        rw [e2]
        have hm2 := step_len (s := s) a
        have hm3 : a.length * s ≤ 512 * 8 := Nat.mul_le_mul (by omega) hs
        have hm4 := step_len (s := s) [t]
        simp only [List.length_cons, List.length_nil] at hm4
        simp only [↓reduceIte, ↓w_lit, ↓w_rd, ↓w_vw, ↓w_fz, ↓w_mv, ↓w_bin, ↓w_un, ↓w_cmp, ↓w_sub, ↓w_slc, ↓w_bi, ↓w_isi, ↓w_bm, ↓w_bk, ↓w_frz, ↓w_not, ↓w_ite, ↓w_tup, ↓w_lst, ↓w_mu, ↓w_call, ↓w_lc, ↓w_lc2, ↓w_bop, ↓w_b1, ↓w_b2, ↓w_es0, ↓w_es, ↓w_as0, ↓w_as1, ↓w_as2, ↓w_c0, ↓w_c1, ↓w_seq, ↓w_range1, ↓w_range2, ↓w_enum, ↓w_zip, ↓s_nil, ↓s_one, ↓s_consN, ↓s_set, ↓s_setAt, ↓s_par, ↓s_aug, ↓s_expr, ↓s_ite, ↓s_for, ↓s_ret, ↓s_retN, ↓s_brk, ↓s_cont, ↓s_pass, ↓wpo_some, ↓wp_ok, ↓wpc_ok, ↓wps_nx, ↓wps_rt, ↓wps_bk, ↓wps_ct, ↓wpb_bl, ↓wpi_int, ↓wpo_need, ↓wpo_bind, ↓wpo_map, need_t, getE_0, getE_s, getE_1, getE_2, getE_3, getE_4, getE_5, getE_6, getE_7, getE_8, getE_9, getE_10, getE_11, getE_12, getE_13, getE_14, getE_15, List.set_cons_zero, List.set_cons_succ, asgT, asgTs, unpk, opUn, obSem, opIsi, bmSem, bkSem, Ev.numsOf, isLst, itemsOf, itemsZ, fillAs, backAs, augOp, E.v, E.q, Es.q, Es.vs, As.q, ownOk, PV.pure, pures, PV.frz, frzs, PV.isN, Bool.and_true, Bool.true_and, Bool.or_true, Bool.true_or, Bool.not_true, Bool.not_false, Bool.false_and, Bool.and_false, Bool.or_false, Bool.false_or, List.length_cons, List.length_nil, List.map_cons, List.map_nil, List.replicate, List.cons_append, List.nil_append, true_and, and_true, if_true, Option.isSome_some, backIo, Ev.op_add, Ev.op_sub, Ev.op_mul, Ev.op_div, Ev.op_mod, Ev.op_pow, Ev.op_and, Ev.op_or, Ev.op_lcat, Ev.op_tcat, cmp_lt, cmp_le, cmp_gt, cmp_ge, cmp_is, cmp_isn, sub_t0, sub_t1, sub_t2, sub_l0, sub_l1, sub_l2, sub_tn, sub_ln, eq_self, decide_true, decide_false, exists_eq_left', wipeE, backE, lenOk_0, lenOk_1, lenOk_2, lenOk_3, lenOk_4, lenOk_5, lenOk_6, Nat.reduceAdd, Nat.reduceLT, Nat.reduceLeDiff, Nat.reduceSub, Nat.reduceEqDiff, ne_eq, not_false_eq_true, not_true_eq_false, decide_eq_true_eq, List.mem_cons, List.not_mem_nil, or_false, false_or, true_or, or_true, if_false, Option.map_some, decide_not, decide_true, decide_false, Nat.lt_irrefl, cmp_eq, cmp_ne, cmp_eqb, cmp_neb, List.any_cons, List.any_nil, reduceCtorEq, beq_self_eq_true, Bool.or_self, plainOwn, List.all_cons, List.all_nil, PV.lst.injEq, mu_append, mu_reverse, mu_pop, List.getElem?_cons_succ, List.getElem?_cons_zero, List.getElem?_nil, Option.bind_some, Option.bind_none, id]
        show wpo (opBin .Add [.lst false ((step s a).map PL), .lst true ((step s [t]).map PL)]) _
        simp only [↓reduceIte, ↓w_lit, ↓w_rd, ↓w_vw, ↓w_fz, ↓w_mv, ↓w_bin, ↓w_un, ↓w_cmp, ↓w_sub, ↓w_slc, ↓w_bi, ↓w_isi, ↓w_bm, ↓w_bk, ↓w_frz, ↓w_not, ↓w_ite, ↓w_tup, ↓w_lst, ↓w_mu, ↓w_call, ↓w_lc, ↓w_lc2, ↓w_bop, ↓w_b1, ↓w_b2, ↓w_es0, ↓w_es, ↓w_as0, ↓w_as1, ↓w_as2, ↓w_c0, ↓w_c1, ↓w_seq, ↓w_range1, ↓w_range2, ↓w_enum, ↓w_zip, ↓s_nil, ↓s_one, ↓s_consN, ↓s_set, ↓s_setAt, ↓s_par, ↓s_aug, ↓s_expr, ↓s_ite, ↓s_for, ↓s_ret, ↓s_retN, ↓s_brk, ↓s_cont, ↓s_pass, ↓wpo_some, ↓wp_ok, ↓wpc_ok, ↓wps_nx, ↓wps_rt, ↓wps_bk, ↓wps_ct, ↓wpb_bl, ↓wpi_int, ↓wpo_need, ↓wpo_bind, ↓wpo_map, need_t, getE_0, getE_s, getE_1, getE_2, getE_3, getE_4, getE_5, getE_6, getE_7, getE_8, getE_9, getE_10, getE_11, getE_12, getE_13, getE_14, getE_15, List.set_cons_zero, List.set_cons_succ, asgT, asgTs, unpk, opUn, obSem, opIsi, bmSem, bkSem, Ev.numsOf, isLst, itemsOf, itemsZ, fillAs, backAs, augOp, E.v, E.q, Es.q, Es.vs, As.q, ownOk, PV.pure, pures, PV.frz, frzs, PV.isN, Bool.and_true, Bool.true_and, Bool.or_true, Bool.true_or, Bool.not_true, Bool.not_false, Bool.false_and, Bool.and_false, Bool.or_false, Bool.false_or, List.length_cons, List.length_nil, List.map_cons, List.map_nil, List.replicate, List.cons_append, List.nil_append, true_and, and_true, if_true, Option.isSome_some, backIo, Ev.op_add, Ev.op_sub, Ev.op_mul, Ev.op_div, Ev.op_mod, Ev.op_pow, Ev.op_and, Ev.op_or, Ev.op_lcat, Ev.op_tcat, cmp_lt, cmp_le, cmp_gt, cmp_ge, cmp_is, cmp_isn, sub_t0, sub_t1, sub_t2, sub_l0, sub_l1, sub_l2, sub_tn, sub_ln, eq_self, decide_true, decide_false, exists_eq_left', wipeE, backE, lenOk_0, lenOk_1, lenOk_2, lenOk_3, lenOk_4, lenOk_5, lenOk_6, Nat.reduceAdd, Nat.reduceLT, Nat.reduceLeDiff, Nat.reduceSub, Nat.reduceEqDiff, ne_eq, not_false_eq_true, not_true_eq_false, decide_eq_true_eq, List.mem_cons, List.not_mem_nil, or_false, false_or, true_or, or_true, if_false, Option.map_some, decide_not, decide_true, decide_false, Nat.lt_irrefl, cmp_eq, cmp_ne, cmp_eqb, cmp_neb, List.any_cons, List.any_nil, reduceCtorEq, beq_self_eq_true, Bool.or_self, plainOwn, List.all_cons, List.all_nil, PV.lst.injEq, mu_append, mu_reverse, mu_pop, List.getElem?_cons_succ, List.getElem?_cons_zero, List.getElem?_nil, Option.bind_some, Option.bind_none, id, pures_PL, List.length_map]
        have hle : lenOk ((step s a).length + (step s [t]).length) = true := lenOk_of (by omega)
        refine ⟨hle, ?_⟩
        refine ⟨a ++ [t], b, some (PL t), fun p hp => by cases hp; exact pure_PL t, by simpa using hab, rfl, ?_⟩
        have e3 : step s (a ++ [t]) = step s a ++ step s [t] := by unfold step; simp
        rw [e3, ← List.map_append, frzs_PL]; rfl
  · rintro ρ ⟨a, b, y5, hy5, hab, hb, rfl⟩
    have : b = [] := by cases b <;> first | rfl | cases hb
    subst this
    rw [List.append_nil] at hab
    subst hab
    simp only [↓reduceIte, ↓w_lit, ↓w_rd, ↓w_vw, ↓w_fz, ↓w_mv, ↓w_bin, ↓w_un, ↓w_cmp, ↓w_sub, ↓w_slc, ↓w_bi, ↓w_isi, ↓w_bm, ↓w_bk, ↓w_frz, ↓w_not, ↓w_ite, ↓w_tup, ↓w_lst, ↓w_mu, ↓w_call, ↓w_lc, ↓w_lc2, ↓w_bop, ↓w_b1, ↓w_b2, ↓w_es0, ↓w_es, ↓w_as0, ↓w_as1, ↓w_as2, ↓w_c0, ↓w_c1, ↓w_seq, ↓w_range1, ↓w_range2, ↓w_enum, ↓w_zip, ↓s_nil, ↓s_one, ↓s_consN, ↓seqN_app, ↓s_set, ↓s_setAt, ↓s_par, ↓s_aug, ↓s_expr, ↓s_ite, ↓s_for, ↓s_ret, ↓s_retN, ↓s_brk, ↓s_cont, ↓s_pass, ↓wpo_some, ↓wp_ok, ↓wpc_ok, ↓wps_nx, ↓wps_rt, ↓wps_bk, ↓wps_ct, ↓wpb_bl, ↓wpi_int, ↓wpo_need, ↓wpo_bind, ↓wpo_map, need_t, getE_0, getE_s, getE_1, getE_2, getE_3, getE_4, getE_5, getE_6, getE_7, getE_8, getE_9, getE_10, getE_11, getE_12, getE_13, getE_14, getE_15, List.set_cons_zero, List.set_cons_succ, asgT, asgTs, unpk, opUn, obSem, opIsi, bmSem, bkSem, Ev.numsOf, isLst, itemsOf, itemsZ, fillAs, backAs, augOp, E.v, E.q, Es.q, Es.vs, As.q, ownOk, PV.pure, pures, PV.frz, frzs, PV.isN, Bool.and_true, Bool.true_and, Bool.or_true, Bool.true_or, Bool.not_true, Bool.not_false, Bool.false_and, Bool.and_false, Bool.or_false, Bool.false_or, List.length_cons, List.length_nil, List.map_cons, List.map_nil, List.replicate, List.cons_append, List.nil_append, true_and, and_true, if_true, Option.isSome_some, backIo, Ev.op_add, Ev.op_sub, Ev.op_mul, Ev.op_div, Ev.op_mod, Ev.op_pow, Ev.op_and, Ev.op_or, Ev.op_lcat, Ev.op_tcat, cmp_lt, cmp_le, cmp_gt, cmp_ge, cmp_is, cmp_isn, sub_t0, sub_t1, sub_t2, sub_l0, sub_l1, sub_l2, sub_tn, sub_ln, eq_self, decide_true, decide_false, exists_eq_left', wipeE, backE, lenOk_0, lenOk_1, lenOk_2, lenOk_3, lenOk_4, lenOk_5, lenOk_6, Nat.reduceAdd, Nat.reduceLT, Nat.reduceLeDiff, Nat.reduceSub, Nat.reduceEqDiff, ne_eq, not_false_eq_true, not_true_eq_false, decide_eq_true_eq, List.mem_cons, List.not_mem_nil, or_false, false_or, true_or, or_true, if_false, Option.map_some, decide_not, decide_true, decide_false, Nat.lt_irrefl, cmp_eq, cmp_ne, cmp_eqb, cmp_neb, List.any_cons, List.any_nil, reduceCtorEq, beq_self_eq_true, Bool.or_self, plainOwn, List.all_cons, List.all_nil, PV.lst.injEq, mu_append, mu_reverse, mu_pop, List.getElem?_cons_succ, List.getElem?_cons_zero, List.getElem?_nil, Option.bind_some, Option.bind_none, id, pure_QL]
    exact hN _ _ _ hy5
theorem lawsharings_t {d n s : Nat} {N S : Int} (eN : N = (n : Int)) (eS : S = (s : Int)) (hs : s ≤ 8) (hn : n ≤ 4) : run (d + 1) 16 [.int N, .int S] = .ok (.lst true ((shs s n).map TV)) [.int N, .int S] := by
  refine eq_of ?_
  refine w_fn at_law_sharings rfl ?_
  subst eN; subst eS
  simp only [f_law_sharings, ↓reduceIte, ↓w_lit, ↓w_rd, ↓w_vw, ↓w_fz, ↓w_mv, ↓w_bin, ↓w_un, ↓w_cmp, ↓w_sub, ↓w_slc, ↓w_bi, ↓w_isi, ↓w_bm, ↓w_bk, ↓w_frz, ↓w_not, ↓w_ite, ↓w_tup, ↓w_lst, ↓w_mu, ↓w_call, ↓w_lc, ↓w_lc2, ↓w_bop, ↓w_b1, ↓w_b2, ↓w_es0, ↓w_es, ↓w_as0, ↓w_as1, ↓w_as2, ↓w_c0, ↓w_c1, ↓w_seq, ↓w_range1, ↓w_range2, ↓w_enum, ↓w_zip, ↓s_nil, ↓s_one, ↓s_consN, ↓s_set, ↓s_setAt, ↓s_par, ↓s_aug, ↓s_expr, ↓s_ite, ↓s_for, ↓s_ret, ↓s_retN, ↓s_brk, ↓s_cont, ↓s_pass, ↓wpo_some, ↓wp_ok, ↓wpc_ok, ↓wps_nx, ↓wps_rt, ↓wps_bk, ↓wps_ct, ↓wpb_bl, ↓wpi_int, ↓wpo_need, ↓wpo_bind, ↓wpo_map, need_t, getE_0, getE_s, getE_1, getE_2, getE_3, getE_4, getE_5, getE_6, getE_7, getE_8, getE_9, getE_10, getE_11, getE_12, getE_13, getE_14, getE_15, List.set_cons_zero, List.set_cons_succ, asgT, asgTs, unpk, opUn, obSem, opIsi, bmSem, bkSem, Ev.numsOf, isLst, itemsOf, itemsZ, fillAs, backAs, augOp, E.v, E.q, Es.q, Es.vs, As.q, ownOk, PV.pure, pures, PV.frz, frzs, PV.isN, Bool.and_true, Bool.true_and, Bool.or_true, Bool.true_or, Bool.not_true, Bool.not_false, Bool.false_and, Bool.and_false, Bool.or_false, Bool.false_or, List.length_cons, List.length_nil, List.map_cons, List.map_nil, List.replicate, List.cons_append, List.nil_append, true_and, and_true, if_true, Option.isSome_some, backIo, Ev.op_add, Ev.op_sub, Ev.op_mul, Ev.op_div, Ev.op_mod, Ev.op_pow, Ev.op_and, Ev.op_or, Ev.op_lcat, Ev.op_tcat, cmp_lt, cmp_le, cmp_gt, cmp_ge, cmp_is, cmp_isn, sub_t0, sub_t1, sub_t2, sub_l0, sub_l1, sub_l2, sub_tn, sub_ln, eq_self, decide_true, decide_false, exists_eq_left', wipeE, backE, lenOk_0, lenOk_1, lenOk_2, lenOk_3, lenOk_4, lenOk_5, lenOk_6, Nat.reduceAdd, Nat.reduceLT, Nat.reduceLeDiff, Nat.reduceSub, Nat.reduceEqDiff, ne_eq, not_false_eq_true, not_true_eq_false, decide_eq_true_eq, List.mem_cons, List.not_mem_nil, or_false, false_or, true_or, or_true, if_false, Option.map_some, decide_not, decide_true, decide_false, Nat.lt_irrefl, cmp_eq, cmp_ne, cmp_eqb, cmp_neb, List.any_cons, List.any_nil, reduceCtorEq, beq_self_eq_true, Bool.or_self, plainOwn, List.all_cons, List.all_nil, PV.lst.injEq, mu_append, mu_reverse, mu_pop, List.getElem?_cons_succ, List.getElem?_cons_zero, List.getElem?_nil, Option.bind_some, Option.bind_none, id]
  rw [seqN_app]
  simp only [↓reduceIte, ↓w_lit, ↓w_rd, ↓w_vw, ↓w_fz, ↓w_mv, ↓w_bin, ↓w_un, ↓w_cmp, ↓w_sub, ↓w_slc, ↓w_bi, ↓w_isi, ↓w_bm, ↓w_bk, ↓w_frz, ↓w_not, ↓w_ite, ↓w_tup, ↓w_lst, ↓w_mu, ↓w_call, ↓w_lc, ↓w_lc2, ↓w_bop, ↓w_b1, ↓w_b2, ↓w_es0, ↓w_es, ↓w_as0, ↓w_as1, ↓w_as2, ↓w_c0, ↓w_c1, ↓w_seq, ↓w_range1, ↓w_range2, ↓w_enum, ↓w_zip, ↓s_nil, ↓s_one, ↓s_consN, ↓s_set, ↓s_setAt, ↓s_par, ↓s_aug, ↓s_expr, ↓s_ite, ↓s_for, ↓s_ret, ↓s_retN, ↓s_brk, ↓s_cont, ↓s_pass, ↓wpo_some, ↓wp_ok, ↓wpc_ok, ↓wps_nx, ↓wps_rt, ↓wps_bk, ↓wps_ct, ↓wpb_bl, ↓wpi_int, ↓wpo_need, ↓wpo_bind, ↓wpo_map, need_t, getE_0, getE_s, getE_1, getE_2, getE_3, getE_4, getE_5, getE_6, getE_7, getE_8, getE_9, getE_10, getE_11, getE_12, getE_13, getE_14, getE_15, List.set_cons_zero, List.set_cons_succ, asgT, asgTs, unpk, opUn, obSem, opIsi, bmSem, bkSem, Ev.numsOf, isLst, itemsOf, itemsZ, fillAs, backAs, augOp, E.v, E.q, Es.q, Es.vs, As.q, ownOk, PV.pure, pures, PV.frz, frzs, PV.isN, Bool.and_true, Bool.true_and, Bool.or_true, Bool.true_or, Bool.not_true, Bool.not_false, Bool.false_and, Bool.and_false, Bool.or_false, Bool.false_or, List.length_cons, List.length_nil, List.map_cons, List.map_nil, List.replicate, List.cons_append, List.nil_append, true_and, and_true, if_true, Option.isSome_some, backIo, Ev.op_add, Ev.op_sub, Ev.op_mul, Ev.op_div, Ev.op_mod, Ev.op_pow, Ev.op_and, Ev.op_or, Ev.op_lcat, Ev.op_tcat, cmp_lt, cmp_le, cmp_gt, cmp_ge, cmp_is, cmp_isn, sub_t0, sub_t1, sub_t2, sub_l0, sub_l1, sub_l2, sub_tn, sub_ln, eq_self, decide_true, decide_false, exists_eq_left', wipeE, backE, lenOk_0, lenOk_1, lenOk_2, lenOk_3, lenOk_4, lenOk_5, lenOk_6, Nat.reduceAdd, Nat.reduceLT, Nat.reduceLeDiff, Nat.reduceSub, Nat.reduceEqDiff, ne_eq, not_false_eq_true, not_true_eq_false, decide_eq_true_eq, List.mem_cons, List.not_mem_nil, or_false, false_or, true_or, or_true, if_false, Option.map_some, decide_not, decide_true, decide_false, Nat.lt_irrefl, cmp_eq, cmp_ne, cmp_eqb, cmp_neb, List.any_cons, List.any_nil, reduceCtorEq, beq_self_eq_true, Bool.or_self, plainOwn, List.all_cons, List.all_nil, PV.lst.injEq, mu_append, mu_reverse, mu_pop, List.getElem?_cons_succ, List.getElem?_cons_zero, List.getElem?_nil, Option.bind_some, Option.bind_none, id]
  refine ⟨bnd_of (by omega), ?_⟩
  have hm : (shs s n).length ≤ 8 ^ 4 := Nat.le_trans (shs_many hs _) (Nat.pow_le_pow_right (by decide) (by omega))
  have e8 : (8 : Nat) ^ 4 = 4096 := rfl
  refine for_inv (fun xs ρ => xs.length ≤ n ∧ (∀ x ∈ xs, ∃ i : Nat, x = .int (i : Int)) ∧ ∃ x3 x4 x5, okP x5 ∧ ρ = [some (.int (n : Int)), some (.int (s : Int)), some (QL (shs s (n - xs.length))), x3, x4, x5, none]) ?_ ?_ _ _ ⟨by rw [rangeP_len]; omega, fun x hx => by
    obtain ⟨i, _, e⟩ := rangeP_mem hx
    exact ⟨i, e⟩, none, none, none, (fun p hp => by cases hp), by rw [rangeP_len, Int.toNat_natCast, Nat.sub_self]; rfl⟩
  · rintro x xs ρ ⟨hl, hx, x3, x4, x5, h5, rfl⟩
    simp only [List.length_cons] at hl
    simp only [↓reduceIte, ↓w_lit, ↓w_rd, ↓w_vw, ↓w_fz, ↓w_mv, ↓w_bin, ↓w_un, ↓w_cmp, ↓w_sub, ↓w_slc, ↓w_bi, ↓w_isi, ↓w_bm, ↓w_bk, ↓w_frz, ↓w_not, ↓w_ite, ↓w_tup, ↓w_lst, ↓w_mu, ↓w_call, ↓w_lc, ↓w_lc2, ↓w_bop, ↓w_b1, ↓w_b2, ↓w_es0, ↓w_es, ↓w_as0, ↓w_as1, ↓w_as2, ↓w_c0, ↓w_c1, ↓w_seq, ↓w_range1, ↓w_range2, ↓w_enum, ↓w_zip, ↓s_nil, ↓s_one, ↓s_consN, ↓s_set, ↓s_setAt, ↓s_par, ↓s_aug, ↓s_expr, ↓s_ite, ↓s_for, ↓s_ret, ↓s_retN, ↓s_brk, ↓s_cont, ↓s_pass, ↓wpo_some, ↓wp_ok, ↓wpc_ok, ↓wps_nx, ↓wps_rt, ↓wps_bk, ↓wps_ct, ↓wpb_bl, ↓wpi_int, ↓wpo_need, ↓wpo_bind, ↓wpo_map, need_t, getE_0, getE_s, getE_1, getE_2, getE_3, getE_4, getE_5, getE_6, getE_7, getE_8, getE_9, getE_10, getE_11, getE_12, getE_13, getE_14, getE_15, List.set_cons_zero, List.set_cons_succ, asgT, asgTs, unpk, opUn, obSem, opIsi, bmSem, bkSem, Ev.numsOf, isLst, itemsOf, itemsZ, fillAs, backAs, augOp, E.v, E.q, Es.q, Es.vs, As.q, ownOk, PV.pure, pures, PV.frz, frzs, PV.isN, Bool.and_true, Bool.true_and, Bool.or_true, Bool.true_or, Bool.not_true, Bool.not_false, Bool.false_and, Bool.and_false, Bool.or_false, Bool.false_or, List.length_cons, List.length_nil, List.map_cons, List.map_nil, List.replicate, List.cons_append, List.nil_append, true_and, and_true, if_true, Option.isSome_some, backIo, Ev.op_add, Ev.op_sub, Ev.op_mul, Ev.op_div, Ev.op_mod, Ev.op_pow, Ev.op_and, Ev.op_or, Ev.op_lcat, Ev.op_tcat, cmp_lt, cmp_le, cmp_gt, cmp_ge, cmp_is, cmp_isn, sub_t0, sub_t1, sub_t2, sub_l0, sub_l1, sub_l2, sub_tn, sub_ln, eq_self, decide_true, decide_false, exists_eq_left', wipeE, backE, lenOk_0, lenOk_1, lenOk_2, lenOk_3, lenOk_4, lenOk_5, lenOk_6, Nat.reduceAdd, Nat.reduceLT, Nat.reduceLeDiff, Nat.reduceSub, Nat.reduceEqDiff, ne_eq, not_false_eq_true, not_true_eq_false, decide_eq_true_eq, List.mem_cons, List.not_mem_nil, or_false, false_or, true_or, or_true, if_false, Option.map_some, decide_not, decide_true, decide_false, Nat.lt_irrefl, cmp_eq, cmp_ne, cmp_eqb, cmp_neb, List.any_cons, List.any_nil, reduceCtorEq, beq_self_eq_true, Bool.or_self, plainOwn, List.all_cons, List.all_nil, PV.lst.injEq, mu_append, mu_reverse, mu_pop, List.getElem?_cons_succ, List.getElem?_cons_zero, List.getElem?_nil, Option.bind_some, Option.bind_none, id, List.length_cons]
    refine ls_step (d := d) (x4 := x4) (x5 := x5) h5 hs (by omega) fun y3 y4 y5 hy5 => ?_
    refine ⟨by omega, fun x h => hx x (List.mem_cons_of_mem _ h), y3, y4, y5, hy5, ?_⟩
    rw [show n - (xs.length + 1) + 1 = n - xs.length by omega]
  · rintro ρ ⟨_, _, x3, x4, x5, h5, rfl⟩
    simp only [↓reduceIte, ↓w_lit, ↓w_rd, ↓w_vw, ↓w_fz, ↓w_mv, ↓w_bin, ↓w_un, ↓w_cmp, ↓w_sub, ↓w_slc, ↓w_bi, ↓w_isi, ↓w_bm, ↓w_bk, ↓w_frz, ↓w_not, ↓w_ite, ↓w_tup, ↓w_lst, ↓w_mu, ↓w_call, ↓w_lc, ↓w_lc2, ↓w_bop, ↓w_b1, ↓w_b2, ↓w_es0, ↓w_es, ↓w_as0, ↓w_as1, ↓w_as2, ↓w_c0, ↓w_c1, ↓w_seq, ↓w_range1, ↓w_range2, ↓w_enum, ↓w_zip, ↓s_nil, ↓s_one, ↓s_consN, ↓seqN_app, ↓s_set, ↓s_setAt, ↓s_par, ↓s_aug, ↓s_expr, ↓s_ite, ↓s_for, ↓s_ret, ↓s_retN, ↓s_brk, ↓s_cont, ↓s_pass, ↓wpo_some, ↓wp_ok, ↓wpc_ok, ↓wps_nx, ↓wps_rt, ↓wps_bk, ↓wps_ct, ↓wpb_bl, ↓wpi_int, ↓wpo_need, ↓wpo_bind, ↓wpo_map, need_t, getE_0, getE_s, getE_1, getE_2, getE_3, getE_4, getE_5, getE_6, getE_7, getE_8, getE_9, getE_10, getE_11, getE_12, getE_13, getE_14, getE_15, List.set_cons_zero, List.set_cons_succ, asgT, asgTs, unpk, opUn, obSem, opIsi, bmSem, bkSem, Ev.numsOf, isLst, itemsOf, itemsZ, fillAs, backAs, augOp, E.v, E.q, Es.q, Es.vs, As.q, ownOk, PV.pure, pures, PV.frz, frzs, PV.isN, Bool.and_true, Bool.true_and, Bool.or_true, Bool.true_or, Bool.not_true, Bool.not_false, Bool.false_and, Bool.and_false, Bool.or_false, Bool.false_or, List.length_cons, List.length_nil, List.map_cons, List.map_nil, List.replicate, List.cons_append, List.nil_append, true_and, and_true, if_true, Option.isSome_some, backIo, Ev.op_add, Ev.op_sub, Ev.op_mul, Ev.op_div, Ev.op_mod, Ev.op_pow, Ev.op_and, Ev.op_or, Ev.op_lcat, Ev.op_tcat, cmp_lt, cmp_le, cmp_gt, cmp_ge, cmp_is, cmp_isn, sub_t0, sub_t1, sub_t2, sub_l0, sub_l1, sub_l2, sub_tn, sub_ln, eq_self, decide_true, decide_false, exists_eq_left', wipeE, backE, lenOk_0, lenOk_1, lenOk_2, lenOk_3, lenOk_4, lenOk_5, lenOk_6, Nat.reduceAdd, Nat.reduceLT, Nat.reduceLeDiff, Nat.reduceSub, Nat.reduceEqDiff, ne_eq, not_false_eq_true, not_true_eq_false, decide_eq_true_eq, List.mem_cons, List.not_mem_nil, or_false, false_or, true_or, or_true, if_false, Option.map_some, decide_not, decide_true, decide_false, Nat.lt_irrefl, cmp_eq, cmp_ne, cmp_eqb, cmp_neb, List.any_cons, List.any_nil, reduceCtorEq, beq_self_eq_true, Bool.or_self, plainOwn, List.all_cons, List.all_nil, PV.lst.injEq, mu_append, mu_reverse, mu_pop, List.getElem?_cons_succ, List.getElem?_cons_zero, List.getElem?_nil, Option.bind_some, Option.bind_none, id, List.length_nil, Nat.sub_zero, pure_QL]
    show wpo (itemsOf (.lst false ((shs s n).map PL))) _
    simp only [↓reduceIte, ↓w_lit, ↓w_rd, ↓w_vw, ↓w_fz, ↓w_mv, ↓w_bin, ↓w_un, ↓w_cmp, ↓w_sub, ↓w_slc, ↓w_bi, ↓w_isi, ↓w_bm, ↓w_bk, ↓w_frz, ↓w_not, ↓w_ite, ↓w_tup, ↓w_lst, ↓w_mu, ↓w_call, ↓w_lc, ↓w_lc2, ↓w_bop, ↓w_b1, ↓w_b2, ↓w_es0, ↓w_es, ↓w_as0, ↓w_as1, ↓w_as2, ↓w_c0, ↓w_c1, ↓w_seq, ↓w_range1, ↓w_range2, ↓w_enum, ↓w_zip, ↓s_nil, ↓s_one, ↓s_consN, ↓s_set, ↓s_setAt, ↓s_par, ↓s_aug, ↓s_expr, ↓s_ite, ↓s_for, ↓s_ret, ↓s_retN, ↓s_brk, ↓s_cont, ↓s_pass, ↓wpo_some, ↓wp_ok, ↓wpc_ok, ↓wps_nx, ↓wps_rt, ↓wps_bk, ↓wps_ct, ↓wpb_bl, ↓wpi_int, ↓wpo_need, ↓wpo_bind, ↓wpo_map, need_t, getE_0, getE_s, getE_1, getE_2, getE_3, getE_4, getE_5, getE_6, getE_7, getE_8, getE_9, getE_10, getE_11, getE_12, getE_13, getE_14, getE_15, List.set_cons_zero, List.set_cons_succ, asgT, asgTs, unpk, opUn, obSem, opIsi, bmSem, bkSem, Ev.numsOf, isLst, itemsOf, itemsZ, fillAs, backAs, augOp, E.v, E.q, Es.q, Es.vs, As.q, ownOk, PV.pure, pures, PV.frz, frzs, PV.isN, Bool.and_true, Bool.true_and, Bool.or_true, Bool.true_or, Bool.not_true, Bool.not_false, Bool.false_and, Bool.and_false, Bool.or_false, Bool.false_or, List.length_cons, List.length_nil, List.map_cons, List.map_nil, List.replicate, List.cons_append, List.nil_append, true_and, and_true, if_true, Option.isSome_some, backIo, Ev.op_add, Ev.op_sub, Ev.op_mul, Ev.op_div, Ev.op_mod, Ev.op_pow, Ev.op_and, Ev.op_or, Ev.op_lcat, Ev.op_tcat, cmp_lt, cmp_le, cmp_gt, cmp_ge, cmp_is, cmp_isn, sub_t0, sub_t1, sub_t2, sub_l0, sub_l1, sub_l2, sub_tn, sub_ln, eq_self, decide_true, decide_false, exists_eq_left', wipeE, backE, lenOk_0, lenOk_1, lenOk_2, lenOk_3, lenOk_4, lenOk_5, lenOk_6, Nat.reduceAdd, Nat.reduceLT, Nat.reduceLeDiff, Nat.reduceSub, Nat.reduceEqDiff, ne_eq, not_false_eq_true, not_true_eq_false, decide_eq_true_eq, List.mem_cons, List.not_mem_nil, or_false, false_or, true_or, or_true, if_false, Option.map_some, decide_not, decide_true, decide_false, Nat.lt_irrefl, cmp_eq, cmp_ne, cmp_eqb, cmp_neb, List.any_cons, List.any_nil, reduceCtorEq, beq_self_eq_true, Bool.or_self, plainOwn, List.all_cons, List.all_nil, PV.lst.injEq, mu_append, mu_reverse, mu_pop, List.getElem?_cons_succ, List.getElem?_cons_zero, List.getElem?_nil, Option.bind_some, Option.bind_none, id, pures_PL]
    rw [List.length_map]
    refine ⟨?_, ?_⟩
    · rw [lenOk_of (by omega)]
      cases x5 with
      | none => rfl
      | some p => show (p.pure && true) = true; rw [h5 p rfl]; rfl
    refine lc_map PL (fun t => [TV t]) (fun ρ => ∃ y, ρ = [some (.int (n : Int)), some (.int (s : Int)), some (QL (shs s n)), x3, x4, y, none]) _ ⟨_, rfl⟩ ?_ ?_
    · rintro t ht ρ ⟨y, rfl⟩
      have s0 : opSub [PL t, .int 0] = some (TV t) := sub_l0
      simp only [↓reduceIte, ↓w_lit, ↓w_rd, ↓w_vw, ↓w_fz, ↓w_mv, ↓w_bin, ↓w_un, ↓w_cmp, ↓w_sub, ↓w_slc, ↓w_bi, ↓w_isi, ↓w_bm, ↓w_bk, ↓w_frz, ↓w_not, ↓w_ite, ↓w_tup, ↓w_lst, ↓w_mu, ↓w_call, ↓w_lc, ↓w_lc2, ↓w_bop, ↓w_b1, ↓w_b2, ↓w_es0, ↓w_es, ↓w_as0, ↓w_as1, ↓w_as2, ↓w_c0, ↓w_c1, ↓w_seq, ↓w_range1, ↓w_range2, ↓w_enum, ↓w_zip, ↓s_nil, ↓s_one, ↓s_consN, ↓s_set, ↓s_setAt, ↓s_par, ↓s_aug, ↓s_expr, ↓s_ite, ↓s_for, ↓s_ret, ↓s_retN, ↓s_brk, ↓s_cont, ↓s_pass, ↓wpo_some, ↓wp_ok, ↓wpc_ok, ↓wps_nx, ↓wps_rt, ↓wps_bk, ↓wps_ct, ↓wpb_bl, ↓wpi_int, ↓wpo_need, ↓wpo_bind, ↓wpo_map, need_t, getE_0, getE_s, getE_1, getE_2, getE_3, getE_4, getE_5, getE_6, getE_7, getE_8, getE_9, getE_10, getE_11, getE_12, getE_13, getE_14, getE_15, List.set_cons_zero, List.set_cons_succ, asgT, asgTs, unpk, opUn, obSem, opIsi, bmSem, bkSem, Ev.numsOf, isLst, itemsOf, itemsZ, fillAs, backAs, augOp, E.v, E.q, Es.q, Es.vs, As.q, ownOk, PV.pure, pures, PV.frz, frzs, PV.isN, Bool.and_true, Bool.true_and, Bool.or_true, Bool.true_or, Bool.not_true, Bool.not_false, Bool.false_and, Bool.and_false, Bool.or_false, Bool.false_or, List.length_cons, List.length_nil, List.map_cons, List.map_nil, List.replicate, List.cons_append, List.nil_append, true_and, and_true, if_true, Option.isSome_some, backIo, Ev.op_add, Ev.op_sub, Ev.op_mul, Ev.op_div, Ev.op_mod, Ev.op_pow, Ev.op_and, Ev.op_or, Ev.op_lcat, Ev.op_tcat, cmp_lt, cmp_le, cmp_gt, cmp_ge, cmp_is, cmp_isn, sub_t0, sub_t1, sub_t2, sub_l0, sub_l1, sub_l2, sub_tn, sub_ln, eq_self, decide_true, decide_false, exists_eq_left', wipeE, backE, lenOk_0, lenOk_1, lenOk_2, lenOk_3, lenOk_4, lenOk_5, lenOk_6, Nat.reduceAdd, Nat.reduceLT, Nat.reduceLeDiff, Nat.reduceSub, Nat.reduceEqDiff, ne_eq, not_false_eq_true, not_true_eq_false, decide_eq_true_eq, List.mem_cons, List.not_mem_nil, or_false, false_or, true_or, or_true, if_false, Option.map_some, decide_not, decide_true, decide_false, Nat.lt_irrefl, cmp_eq, cmp_ne, cmp_eqb, cmp_neb, List.any_cons, List.any_nil, reduceCtorEq, beq_self_eq_true, Bool.or_self, plainOwn, List.all_cons, List.all_nil, PV.lst.injEq, mu_append, mu_reverse, mu_pop, List.getElem?_cons_succ, List.getElem?_cons_zero, List.getElem?_nil, Option.bind_some, Option.bind_none, id, ↓w_elt, pure_PL, s0]
      exact ⟨_, rfl⟩
    · rintro ρ ⟨y, rfl⟩
      rw [List.map_eq_flatMap]
end K78

set_option Elab.async false
set_option linter.all false
set_option maxRecDepth 100000
set_option maxHeartbeats 4000000
set_option autoImplicit false
namespace K78
open PySem PySem.Spec PyProof.Rows L2 Ev
theorem lawbest_t {d s : Nat} {S : Int} {rows : List (List Int)} (eS : S = (s : Int)) (h : Rows s rows) : run (d + 2) 18 [BV rows, .int S] = .ok (OV (bst rows (shs s rows.length))) [BV rows, .int S] := by
  have hn : rows.length ≤ 1000 := by have := h.2.1; omega
  refine eq_of (w_fn at_law_best rfl ?_)
  have Q := lawsharings_t (d := d) (n := rows.length) (s := s) rfl eS h.1 h.2.1
  have ln : obSem .len [BV rows] = some (.int (rows.length : Nat)) := by
    show some (PV.int ((rows.map RV).length : Nat)) = _
    rw [List.length_map]
  simp only [f_law_best, ↓reduceIte, ↓w_lit, ↓w_rd, ↓w_vw, ↓w_fz, ↓w_mv, ↓w_bin, ↓w_un, ↓w_cmp, ↓w_sub, ↓w_slc, ↓w_bi, ↓w_isi, ↓w_bm, ↓w_bk, ↓w_frz, ↓w_not, ↓w_ite, ↓w_tup, ↓w_lst, ↓w_mu, ↓w_call, ↓w_lc, ↓w_lc2, ↓w_bop, ↓w_b1, ↓w_b2, ↓w_es0, ↓w_es, ↓w_as0, ↓w_as1, ↓w_as2, ↓w_c0, ↓w_c1, ↓w_seq, ↓w_range1, ↓w_range2, ↓w_enum, ↓w_zip, ↓s_nil, ↓s_one, ↓s_consN, ↓s_set, ↓s_setAt, ↓s_par, ↓s_aug, ↓s_expr, ↓s_ite, ↓s_for, ↓s_ret, ↓s_retN, ↓s_brk, ↓s_cont, ↓s_pass, ↓wpo_some, ↓wp_ok, ↓wpc_ok, ↓wps_nx, ↓wps_rt, ↓wps_bk, ↓wps_ct, ↓wpb_bl, ↓wpi_int, ↓wpo_need, ↓wpo_bind, ↓wpo_map, need_t, getE_0, getE_s, getE_1, getE_2, getE_3, getE_4, getE_5, getE_6, getE_7, getE_8, getE_9, getE_10, getE_11, getE_12, getE_13, getE_14, getE_15, List.set_cons_zero, List.set_cons_succ, asgT, asgTs, unpk, opUn, obSem, opIsi, bmSem, bkSem, Ev.numsOf, isLst, itemsOf, itemsZ, fillAs, backAs, augOp, E.v, E.q, Es.q, Es.vs, As.q, ownOk, PV.pure, pures, PV.frz, frzs, PV.isN, Bool.and_true, Bool.true_and, Bool.or_true, Bool.true_or, Bool.not_true, Bool.not_false, Bool.false_and, Bool.and_false, Bool.or_false, Bool.false_or, List.length_cons, List.length_nil, List.map_cons, List.map_nil, List.replicate, List.cons_append, List.nil_append, true_and, and_true, if_true, Option.isSome_some, backIo, Ev.op_add, Ev.op_sub, Ev.op_mul, Ev.op_div, Ev.op_mod, Ev.op_pow, Ev.op_and, Ev.op_or, Ev.op_lcat, Ev.op_tcat, cmp_lt, cmp_le, cmp_gt, cmp_ge, cmp_is, cmp_isn, sub_t0, sub_t1, sub_t2, sub_l0, sub_l1, sub_l2, sub_tn, sub_ln, eq_self, decide_true, decide_false, exists_eq_left', wipeE, backE, lenOk_0, lenOk_1, lenOk_2, lenOk_3, lenOk_4, lenOk_5, lenOk_6, Nat.reduceAdd, Nat.reduceLT, Nat.reduceLeDiff, Nat.reduceSub, Nat.reduceEqDiff, ne_eq, not_false_eq_true, not_true_eq_false, decide_eq_true_eq, List.mem_cons, List.not_mem_nil, or_false, false_or, true_or, or_true, if_false, Option.map_some, decide_not, decide_true, decide_false, Nat.lt_irrefl, cmp_eq, cmp_ne, cmp_eqb, cmp_neb, List.any_cons, List.any_nil, reduceCtorEq, beq_self_eq_true, Bool.or_self, plainOwn, List.all_cons, List.all_nil, PV.lst.injEq, mu_append, mu_reverse, mu_pop, List.getElem?_cons_succ, List.getElem?_cons_zero, List.getElem?_nil, Option.bind_some, Option.bind_none, id]
  rw [seqN_app]
  simp only [↓reduceIte, ↓w_lit, ↓w_rd, ↓w_vw, ↓w_fz, ↓w_mv, ↓w_bin, ↓w_un, ↓w_cmp, ↓w_sub, ↓w_slc, ↓w_bi, ↓w_isi, ↓w_bm, ↓w_bk, ↓w_frz, ↓w_not, ↓w_ite, ↓w_tup, ↓w_lst, ↓w_mu, ↓w_call, ↓w_lc, ↓w_lc2, ↓w_bop, ↓w_b1, ↓w_b2, ↓w_es0, ↓w_es, ↓w_as0, ↓w_as1, ↓w_as2, ↓w_c0, ↓w_c1, ↓w_seq, ↓w_range1, ↓w_range2, ↓w_enum, ↓w_zip, ↓s_nil, ↓s_one, ↓s_consN, ↓s_set, ↓s_setAt, ↓s_par, ↓s_aug, ↓s_expr, ↓s_ite, ↓s_for, ↓s_ret, ↓s_retN, ↓s_brk, ↓s_cont, ↓s_pass, ↓wpo_some, ↓wp_ok, ↓wpc_ok, ↓wps_nx, ↓wps_rt, ↓wps_bk, ↓wps_ct, ↓wpb_bl, ↓wpi_int, ↓wpo_need, ↓wpo_bind, ↓wpo_map, need_t, getE_0, getE_s, getE_1, getE_2, getE_3, getE_4, getE_5, getE_6, getE_7, getE_8, getE_9, getE_10, getE_11, getE_12, getE_13, getE_14, getE_15, List.set_cons_zero, List.set_cons_succ, asgT, asgTs, unpk, opUn, obSem, opIsi, bmSem, bkSem, Ev.numsOf, isLst, itemsOf, itemsZ, fillAs, backAs, augOp, E.v, E.q, Es.q, Es.vs, As.q, ownOk, PV.pure, pures, PV.frz, frzs, PV.isN, Bool.and_true, Bool.true_and, Bool.or_true, Bool.true_or, Bool.not_true, Bool.not_false, Bool.false_and, Bool.and_false, Bool.or_false, Bool.false_or, List.length_cons, List.length_nil, List.map_cons, List.map_nil, List.replicate, List.cons_append, List.nil_append, true_and, and_true, if_true, Option.isSome_some, backIo, Ev.op_add, Ev.op_sub, Ev.op_mul, Ev.op_div, Ev.op_mod, Ev.op_pow, Ev.op_and, Ev.op_or, Ev.op_lcat, Ev.op_tcat, cmp_lt, cmp_le, cmp_gt, cmp_ge, cmp_is, cmp_isn, sub_t0, sub_t1, sub_t2, sub_l0, sub_l1, sub_l2, sub_tn, sub_ln, eq_self, decide_true, decide_false, exists_eq_left', wipeE, backE, lenOk_0, lenOk_1, lenOk_2, lenOk_3, lenOk_4, lenOk_5, lenOk_6, Nat.reduceAdd, Nat.reduceLT, Nat.reduceLeDiff, Nat.reduceSub, Nat.reduceEqDiff, ne_eq, not_false_eq_true, not_true_eq_false, decide_eq_true_eq, List.mem_cons, List.not_mem_nil, or_false, false_or, true_or, or_true, if_false, Option.map_some, decide_not, decide_true, decide_false, Nat.lt_irrefl, cmp_eq, cmp_ne, cmp_eqb, cmp_neb, List.any_cons, List.any_nil, reduceCtorEq, beq_self_eq_true, Bool.or_self, plainOwn, List.all_cons, List.all_nil, PV.lst.injEq, mu_append, mu_reverse, mu_pop, List.getElem?_cons_succ, List.getElem?_cons_zero, List.getElem?_nil, Option.bind_some, Option.bind_none, id, pure_BV]
  show wpo (obSem .len [BV rows]) _
  rw [ln]
  simp only [↓reduceIte, ↓w_lit, ↓w_rd, ↓w_vw, ↓w_fz, ↓w_mv, ↓w_bin, ↓w_un, ↓w_cmp, ↓w_sub, ↓w_slc, ↓w_bi, ↓w_isi, ↓w_bm, ↓w_bk, ↓w_frz, ↓w_not, ↓w_ite, ↓w_tup, ↓w_lst, ↓w_mu, ↓w_call, ↓w_lc, ↓w_lc2, ↓w_bop, ↓w_b1, ↓w_b2, ↓w_es0, ↓w_es, ↓w_as0, ↓w_as1, ↓w_as2, ↓w_c0, ↓w_c1, ↓w_seq, ↓w_range1, ↓w_range2, ↓w_enum, ↓w_zip, ↓s_nil, ↓s_one, ↓s_consN, ↓s_set, ↓s_setAt, ↓s_par, ↓s_aug, ↓s_expr, ↓s_ite, ↓s_for, ↓s_ret, ↓s_retN, ↓s_brk, ↓s_cont, ↓s_pass, ↓wpo_some, ↓wp_ok, ↓wpc_ok, ↓wps_nx, ↓wps_rt, ↓wps_bk, ↓wps_ct, ↓wpb_bl, ↓wpi_int, ↓wpo_need, ↓wpo_bind, ↓wpo_map, need_t, getE_0, getE_s, getE_1, getE_2, getE_3, getE_4, getE_5, getE_6, getE_7, getE_8, getE_9, getE_10, getE_11, getE_12, getE_13, getE_14, getE_15, List.set_cons_zero, List.set_cons_succ, asgT, asgTs, unpk, opUn, obSem, opIsi, bmSem, bkSem, Ev.numsOf, isLst, itemsOf, itemsZ, fillAs, backAs, augOp, E.v, E.q, Es.q, Es.vs, As.q, ownOk, PV.pure, pures, PV.frz, frzs, PV.isN, Bool.and_true, Bool.true_and, Bool.or_true, Bool.true_or, Bool.not_true, Bool.not_false, Bool.false_and, Bool.and_false, Bool.or_false, Bool.false_or, List.length_cons, List.length_nil, List.map_cons, List.map_nil, List.replicate, List.cons_append, List.nil_append, true_and, and_true, if_true, Option.isSome_some, backIo, Ev.op_add, Ev.op_sub, Ev.op_mul, Ev.op_div, Ev.op_mod, Ev.op_pow, Ev.op_and, Ev.op_or, Ev.op_lcat, Ev.op_tcat, cmp_lt, cmp_le, cmp_gt, cmp_ge, cmp_is, cmp_isn, sub_t0, sub_t1, sub_t2, sub_l0, sub_l1, sub_l2, sub_tn, sub_ln, eq_self, decide_true, decide_false, exists_eq_left', wipeE, backE, lenOk_0, lenOk_1, lenOk_2, lenOk_3, lenOk_4, lenOk_5, lenOk_6, Nat.reduceAdd, Nat.reduceLT, Nat.reduceLeDiff, Nat.reduceSub, Nat.reduceEqDiff, ne_eq, not_false_eq_true, not_true_eq_false, decide_eq_true_eq, List.mem_cons, List.not_mem_nil, or_false, false_or, true_or, or_true, if_false, Option.map_some, decide_not, decide_true, decide_false, Nat.lt_irrefl, cmp_eq, cmp_ne, cmp_eqb, cmp_neb, List.any_cons, List.any_nil, reduceCtorEq, beq_self_eq_true, Bool.or_self, plainOwn, List.all_cons, List.all_nil, PV.lst.injEq, mu_append, mu_reverse, mu_pop, List.getElem?_cons_succ, List.getElem?_cons_zero, List.getElem?_nil, Option.bind_some, Option.bind_none, id, Q, pures_TV]
  refine for_list TV (fun b ρ => (∀ u, b = some u → Fits rows u) ∧ ∃ y, ρ = [some (BV rows), some (.int S), some (OV b), y]) (better rows) _ none _ ⟨fun u z => (nomatch z), _, rfl⟩ ?_ ?_
  · rintro b t ρ ht ⟨hb, y, rfl⟩
    have ft := shs_fits h ht
    have W := lawsum_t (d := d) hn ft
    cases b with
    | none =>
      simp only [OV, ↓reduceIte, ↓w_lit, ↓w_rd, ↓w_vw, ↓w_fz, ↓w_mv, ↓w_bin, ↓w_un, ↓w_cmp, ↓w_sub, ↓w_slc, ↓w_bi, ↓w_isi, ↓w_bm, ↓w_bk, ↓w_frz, ↓w_not, ↓w_ite, ↓w_tup, ↓w_lst, ↓w_mu, ↓w_call, ↓w_lc, ↓w_lc2, ↓w_bop, ↓w_b1, ↓w_b2, ↓w_es0, ↓w_es, ↓w_as0, ↓w_as1, ↓w_as2, ↓w_c0, ↓w_c1, ↓w_seq, ↓w_range1, ↓w_range2, ↓w_enum, ↓w_zip, ↓s_nil, ↓s_one, ↓s_consN, ↓s_set, ↓s_setAt, ↓s_par, ↓s_aug, ↓s_expr, ↓s_ite, ↓s_for, ↓s_ret, ↓s_retN, ↓s_brk, ↓s_cont, ↓s_pass, ↓wpo_some, ↓wp_ok, ↓wpc_ok, ↓wps_nx, ↓wps_rt, ↓wps_bk, ↓wps_ct, ↓wpb_bl, ↓wpi_int, ↓wpo_need, ↓wpo_bind, ↓wpo_map, need_t, getE_0, getE_s, getE_1, getE_2, getE_3, getE_4, getE_5, getE_6, getE_7, getE_8, getE_9, getE_10, getE_11, getE_12, getE_13, getE_14, getE_15, List.set_cons_zero, List.set_cons_succ, asgT, asgTs, unpk, opUn, obSem, opIsi, bmSem, bkSem, Ev.numsOf, isLst, itemsOf, itemsZ, fillAs, backAs, augOp, E.v, E.q, Es.q, Es.vs, As.q, ownOk, PV.pure, pures, PV.frz, frzs, PV.isN, Bool.and_true, Bool.true_and, Bool.or_true, Bool.true_or, Bool.not_true, Bool.not_false, Bool.false_and, Bool.and_false, Bool.or_false, Bool.false_or, List.length_cons, List.length_nil, List.map_cons, List.map_nil, List.replicate, List.cons_append, List.nil_append, true_and, and_true, if_true, Option.isSome_some, backIo, Ev.op_add, Ev.op_sub, Ev.op_mul, Ev.op_div, Ev.op_mod, Ev.op_pow, Ev.op_and, Ev.op_or, Ev.op_lcat, Ev.op_tcat, cmp_lt, cmp_le, cmp_gt, cmp_ge, cmp_is, cmp_isn, sub_t0, sub_t1, sub_t2, sub_l0, sub_l1, sub_l2, sub_tn, sub_ln, eq_self, decide_true, decide_false, exists_eq_left', wipeE, backE, lenOk_0, lenOk_1, lenOk_2, lenOk_3, lenOk_4, lenOk_5, lenOk_6, Nat.reduceAdd, Nat.reduceLT, Nat.reduceLeDiff, Nat.reduceSub, Nat.reduceEqDiff, ne_eq, not_false_eq_true, not_true_eq_false, decide_eq_true_eq, List.mem_cons, List.not_mem_nil, or_false, false_or, true_or, or_true, if_false, Option.map_some, decide_not, decide_true, decide_false, Nat.lt_irrefl, cmp_eq, cmp_ne, cmp_eqb, cmp_neb, List.any_cons, List.any_nil, reduceCtorEq, beq_self_eq_true, Bool.or_self, plainOwn, List.all_cons, List.all_nil, PV.lst.injEq, mu_append, mu_reverse, mu_pop, List.getElem?_cons_succ, List.getElem?_cons_zero, List.getElem?_nil, Option.bind_some, Option.bind_none, id, pure_TV]
      exact ⟨fun u hu => by cases hu; exact ft, _, rfl⟩
    | some u =>
      have W2 := lawsum_t (d := d) hn (hb u rfl)
      have nn : (TV u).isN = false := rfl
      simp only [OV, ↓reduceIte, ↓w_lit, ↓w_rd, ↓w_vw, ↓w_fz, ↓w_mv, ↓w_bin, ↓w_un, ↓w_cmp, ↓w_sub, ↓w_slc, ↓w_bi, ↓w_isi, ↓w_bm, ↓w_bk, ↓w_frz, ↓w_not, ↓w_ite, ↓w_tup, ↓w_lst, ↓w_mu, ↓w_call, ↓w_lc, ↓w_lc2, ↓w_bop, ↓w_b1, ↓w_b2, ↓w_es0, ↓w_es, ↓w_as0, ↓w_as1, ↓w_as2, ↓w_c0, ↓w_c1, ↓w_seq, ↓w_range1, ↓w_range2, ↓w_enum, ↓w_zip, ↓s_nil, ↓s_one, ↓s_consN, ↓s_set, ↓s_setAt, ↓s_par, ↓s_aug, ↓s_expr, ↓s_ite, ↓s_for, ↓s_ret, ↓s_retN, ↓s_brk, ↓s_cont, ↓s_pass, ↓wpo_some, ↓wp_ok, ↓wpc_ok, ↓wps_nx, ↓wps_rt, ↓wps_bk, ↓wps_ct, ↓wpb_bl, ↓wpi_int, ↓wpo_need, ↓wpo_bind, ↓wpo_map, need_t, getE_0, getE_s, getE_1, getE_2, getE_3, getE_4, getE_5, getE_6, getE_7, getE_8, getE_9, getE_10, getE_11, getE_12, getE_13, getE_14, getE_15, List.set_cons_zero, List.set_cons_succ, asgT, asgTs, unpk, opUn, obSem, opIsi, bmSem, bkSem, Ev.numsOf, isLst, itemsOf, itemsZ, fillAs, backAs, augOp, E.v, E.q, Es.q, Es.vs, As.q, ownOk, PV.pure, pures, PV.frz, frzs, PV.isN, Bool.and_true, Bool.true_and, Bool.or_true, Bool.true_or, Bool.not_true, Bool.not_false, Bool.false_and, Bool.and_false, Bool.or_false, Bool.false_or, List.length_cons, List.length_nil, List.map_cons, List.map_nil, List.replicate, List.cons_append, List.nil_append, true_and, and_true, if_true, Option.isSome_some, backIo, Ev.op_add, Ev.op_sub, Ev.op_mul, Ev.op_div, Ev.op_mod, Ev.op_pow, Ev.op_and, Ev.op_or, Ev.op_lcat, Ev.op_tcat, cmp_lt, cmp_le, cmp_gt, cmp_ge, cmp_is, cmp_isn, sub_t0, sub_t1, sub_t2, sub_l0, sub_l1, sub_l2, sub_tn, sub_ln, eq_self, decide_true, decide_false, exists_eq_left', wipeE, backE, lenOk_0, lenOk_1, lenOk_2, lenOk_3, lenOk_4, lenOk_5, lenOk_6, Nat.reduceAdd, Nat.reduceLT, Nat.reduceLeDiff, Nat.reduceSub, Nat.reduceEqDiff, ne_eq, not_false_eq_true, not_true_eq_false, decide_eq_true_eq, List.mem_cons, List.not_mem_nil, or_false, false_or, true_or, or_true, if_false, Option.map_some, decide_not, decide_true, decide_false, Nat.lt_irrefl, cmp_eq, cmp_ne, cmp_eqb, cmp_neb, List.any_cons, List.any_nil, reduceCtorEq, beq_self_eq_true, Bool.or_self, plainOwn, List.all_cons, List.all_nil, PV.lst.injEq, mu_append, mu_reverse, mu_pop, List.getElem?_cons_succ, List.getElem?_cons_zero, List.getElem?_nil, Option.bind_some, Option.bind_none, id, pure_TV, pure_BV, frz_BV, frz_TV, W, W2, nn, if_neg Bool.false_ne_true]
      unfold better
      by_cases c : wo rows u < wo rows t
      · simp only [c, ↓reduceIte, ↓w_lit, ↓w_rd, ↓w_vw, ↓w_fz, ↓w_mv, ↓w_bin, ↓w_un, ↓w_cmp, ↓w_sub, ↓w_slc, ↓w_bi, ↓w_isi, ↓w_bm, ↓w_bk, ↓w_frz, ↓w_not, ↓w_ite, ↓w_tup, ↓w_lst, ↓w_mu, ↓w_call, ↓w_lc, ↓w_lc2, ↓w_bop, ↓w_b1, ↓w_b2, ↓w_es0, ↓w_es, ↓w_as0, ↓w_as1, ↓w_as2, ↓w_c0, ↓w_c1, ↓w_seq, ↓w_range1, ↓w_range2, ↓w_enum, ↓w_zip, ↓s_nil, ↓s_one, ↓s_consN, ↓s_set, ↓s_setAt, ↓s_par, ↓s_aug, ↓s_expr, ↓s_ite, ↓s_for, ↓s_ret, ↓s_retN, ↓s_brk, ↓s_cont, ↓s_pass, ↓wpo_some, ↓wp_ok, ↓wpc_ok, ↓wps_nx, ↓wps_rt, ↓wps_bk, ↓wps_ct, ↓wpb_bl, ↓wpi_int, ↓wpo_need, ↓wpo_bind, ↓wpo_map, need_t, getE_0, getE_s, getE_1, getE_2, getE_3, getE_4, getE_5, getE_6, getE_7, getE_8, getE_9, getE_10, getE_11, getE_12, getE_13, getE_14, getE_15, List.set_cons_zero, List.set_cons_succ, asgT, asgTs, unpk, opUn, obSem, opIsi, bmSem, bkSem, Ev.numsOf, isLst, itemsOf, itemsZ, fillAs, backAs, augOp, E.v, E.q, Es.q, Es.vs, As.q, ownOk, PV.pure, pures, PV.frz, frzs, PV.isN, Bool.and_true, Bool.true_and, Bool.or_true, Bool.true_or, Bool.not_true, Bool.not_false, Bool.false_and, Bool.and_false, Bool.or_false, Bool.false_or, List.length_cons, List.length_nil, List.map_cons, List.map_nil, List.replicate, List.cons_append, List.nil_append, true_and, and_true, if_true, Option.isSome_some, backIo, Ev.op_add, Ev.op_sub, Ev.op_mul, Ev.op_div, Ev.op_mod, Ev.op_pow, Ev.op_and, Ev.op_or, Ev.op_lcat, Ev.op_tcat, cmp_lt, cmp_le, cmp_gt, cmp_ge, cmp_is, cmp_isn, sub_t0, sub_t1, sub_t2, sub_l0, sub_l1, sub_l2, sub_tn, sub_ln, eq_self, decide_true, decide_false, exists_eq_left', wipeE, backE, lenOk_0, lenOk_1, lenOk_2, lenOk_3, lenOk_4, lenOk_5, lenOk_6, Nat.reduceAdd, Nat.reduceLT, Nat.reduceLeDiff, Nat.reduceSub, Nat.reduceEqDiff, ne_eq, not_false_eq_true, not_true_eq_false, decide_eq_true_eq, List.mem_cons, List.not_mem_nil, or_false, false_or, true_or, or_true, if_false, Option.map_some, decide_not, decide_true, decide_false, Nat.lt_irrefl, cmp_eq, cmp_ne, cmp_eqb, cmp_neb, List.any_cons, List.any_nil, reduceCtorEq, beq_self_eq_true, Bool.or_self, plainOwn, List.all_cons, List.all_nil, PV.lst.injEq, mu_append, mu_reverse, mu_pop, List.getElem?_cons_succ, List.getElem?_cons_zero, List.getElem?_nil, Option.bind_some, Option.bind_none, id, pure_TV]
        exact ⟨fun v hv => by cases hv; exact ft, _, rfl⟩
      · simp only [c, ↓reduceIte, ↓w_lit, ↓w_rd, ↓w_vw, ↓w_fz, ↓w_mv, ↓w_bin, ↓w_un, ↓w_cmp, ↓w_sub, ↓w_slc, ↓w_bi, ↓w_isi, ↓w_bm, ↓w_bk, ↓w_frz, ↓w_not, ↓w_ite, ↓w_tup, ↓w_lst, ↓w_mu, ↓w_call, ↓w_lc, ↓w_lc2, ↓w_bop, ↓w_b1, ↓w_b2, ↓w_es0, ↓w_es, ↓w_as0, ↓w_as1, ↓w_as2, ↓w_c0, ↓w_c1, ↓w_seq, ↓w_range1, ↓w_range2, ↓w_enum, ↓w_zip, ↓s_nil, ↓s_one, ↓s_consN, ↓s_set, ↓s_setAt, ↓s_par, ↓s_aug, ↓s_expr, ↓s_ite, ↓s_for, ↓s_ret, ↓s_retN, ↓s_brk, ↓s_cont, ↓s_pass, ↓wpo_some, ↓wp_ok, ↓wpc_ok, ↓wps_nx, ↓wps_rt, ↓wps_bk, ↓wps_ct, ↓wpb_bl, ↓wpi_int, ↓wpo_need, ↓wpo_bind, ↓wpo_map, need_t, getE_0, getE_s, getE_1, getE_2, getE_3, getE_4, getE_5, getE_6, getE_7, getE_8, getE_9, getE_10, getE_11, getE_12, getE_13, getE_14, getE_15, List.set_cons_zero, List.set_cons_succ, asgT, asgTs, unpk, opUn, obSem, opIsi, bmSem, bkSem, Ev.numsOf, isLst, itemsOf, itemsZ, fillAs, backAs, augOp, E.v, E.q, Es.q, Es.vs, As.q, ownOk, PV.pure, pures, PV.frz, frzs, PV.isN, Bool.and_true, Bool.true_and, Bool.or_true, Bool.true_or, Bool.not_true, Bool.not_false, Bool.false_and, Bool.and_false, Bool.or_false, Bool.false_or, List.length_cons, List.length_nil, List.map_cons, List.map_nil, List.replicate, List.cons_append, List.nil_append, true_and, and_true, if_true, Option.isSome_some, backIo, Ev.op_add, Ev.op_sub, Ev.op_mul, Ev.op_div, Ev.op_mod, Ev.op_pow, Ev.op_and, Ev.op_or, Ev.op_lcat, Ev.op_tcat, cmp_lt, cmp_le, cmp_gt, cmp_ge, cmp_is, cmp_isn, sub_t0, sub_t1, sub_t2, sub_l0, sub_l1, sub_l2, sub_tn, sub_ln, eq_self, decide_true, decide_false, exists_eq_left', wipeE, backE, lenOk_0, lenOk_1, lenOk_2, lenOk_3, lenOk_4, lenOk_5, lenOk_6, Nat.reduceAdd, Nat.reduceLT, Nat.reduceLeDiff, Nat.reduceSub, Nat.reduceEqDiff, ne_eq, not_false_eq_true, not_true_eq_false, decide_eq_true_eq, List.mem_cons, List.not_mem_nil, or_false, false_or, true_or, or_true, if_false, Option.map_some, decide_not, decide_true, decide_false, Nat.lt_irrefl, cmp_eq, cmp_ne, cmp_eqb, cmp_neb, List.any_cons, List.any_nil, reduceCtorEq, beq_self_eq_true, Bool.or_self, plainOwn, List.all_cons, List.all_nil, PV.lst.injEq, mu_append, mu_reverse, mu_pop, List.getElem?_cons_succ, List.getElem?_cons_zero, List.getElem?_nil, Option.bind_some, Option.bind_none, id]
        exact ⟨fun v hv => by cases hv; exact hb u rfl, _, rfl⟩
  · rintro ρ ⟨hb, y, rfl⟩
    simp only [↓reduceIte, ↓w_lit, ↓w_rd, ↓w_vw, ↓w_fz, ↓w_mv, ↓w_bin, ↓w_un, ↓w_cmp, ↓w_sub, ↓w_slc, ↓w_bi, ↓w_isi, ↓w_bm, ↓w_bk, ↓w_frz, ↓w_not, ↓w_ite, ↓w_tup, ↓w_lst, ↓w_mu, ↓w_call, ↓w_lc, ↓w_lc2, ↓w_bop, ↓w_b1, ↓w_b2, ↓w_es0, ↓w_es, ↓w_as0, ↓w_as1, ↓w_as2, ↓w_c0, ↓w_c1, ↓w_seq, ↓w_range1, ↓w_range2, ↓w_enum, ↓w_zip, ↓s_nil, ↓s_one, ↓s_consN, ↓seqN_app, ↓s_set, ↓s_setAt, ↓s_par, ↓s_aug, ↓s_expr, ↓s_ite, ↓s_for, ↓s_ret, ↓s_retN, ↓s_brk, ↓s_cont, ↓s_pass, ↓wpo_some, ↓wp_ok, ↓wpc_ok, ↓wps_nx, ↓wps_rt, ↓wps_bk, ↓wps_ct, ↓wpb_bl, ↓wpi_int, ↓wpo_need, ↓wpo_bind, ↓wpo_map, need_t, getE_0, getE_s, getE_1, getE_2, getE_3, getE_4, getE_5, getE_6, getE_7, getE_8, getE_9, getE_10, getE_11, getE_12, getE_13, getE_14, getE_15, List.set_cons_zero, List.set_cons_succ, asgT, asgTs, unpk, opUn, obSem, opIsi, bmSem, bkSem, Ev.numsOf, isLst, itemsOf, itemsZ, fillAs, backAs, augOp, E.v, E.q, Es.q, Es.vs, As.q, ownOk, PV.pure, pures, PV.frz, frzs, PV.isN, Bool.and_true, Bool.true_and, Bool.or_true, Bool.true_or, Bool.not_true, Bool.not_false, Bool.false_and, Bool.and_false, Bool.or_false, Bool.false_or, List.length_cons, List.length_nil, List.map_cons, List.map_nil, List.replicate, List.cons_append, List.nil_append, true_and, and_true, if_true, Option.isSome_some, backIo, Ev.op_add, Ev.op_sub, Ev.op_mul, Ev.op_div, Ev.op_mod, Ev.op_pow, Ev.op_and, Ev.op_or, Ev.op_lcat, Ev.op_tcat, cmp_lt, cmp_le, cmp_gt, cmp_ge, cmp_is, cmp_isn, sub_t0, sub_t1, sub_t2, sub_l0, sub_l1, sub_l2, sub_tn, sub_ln, eq_self, decide_true, decide_false, exists_eq_left', wipeE, backE, lenOk_0, lenOk_1, lenOk_2, lenOk_3, lenOk_4, lenOk_5, lenOk_6, Nat.reduceAdd, Nat.reduceLT, Nat.reduceLeDiff, Nat.reduceSub, Nat.reduceEqDiff, ne_eq, not_false_eq_true, not_true_eq_false, decide_eq_true_eq, List.mem_cons, List.not_mem_nil, or_false, false_or, true_or, or_true, if_false, Option.map_some, decide_not, decide_true, decide_false, Nat.lt_irrefl, cmp_eq, cmp_ne, cmp_eqb, cmp_neb, List.any_cons, List.any_nil, reduceCtorEq, beq_self_eq_true, Bool.or_self, plainOwn, List.all_cons, List.all_nil, PV.lst.injEq, mu_append, mu_reverse, mu_pop, List.getElem?_cons_succ, List.getElem?_cons_zero, List.getElem?_nil, Option.bind_some, Option.bind_none, id, OV_pure]
    rfl
end K78

set_option Elab.async false
set_option linter.all false
set_option maxRecDepth 100000
set_option maxHeartbeats 4000000
set_option autoImplicit false
namespace K78
open PySem PySem.Spec PyProof.Rows L2 Ev
/-! ### payments -/
theorem slc_hi {xs : List PV} {p : PV} {k : Nat} (h : k ≤ xs.length) : opSlc false true [.tup xs, p, .int (k : Int)] = some (.tup (xs.take k)) := by
  show some (PV.tup (cutP xs none (some (k : Int)))) = _
  unfold cutP
  rw [HT.sIx_none, HT.sIx_nat, List.drop_zero, Nat.sub_zero, Nat.min_eq_left h]
theorem slc_lo {xs : List PV} {p : PV} {k : Nat} (h : k ≤ xs.length) : opSlc true false [.tup xs, .int (k : Int), p] = some (.tup (xs.drop k)) := by
  show some (PV.tup (cutP xs (some (k : Int)) none)) = _
  unfold cutP
  rw [HT.sIx_none, HT.sIx_nat, Nat.min_eq_left h, List.take_of_length_le (by simp)]
def del {α : Type} (k : Nat) (l : List α) : List α := l.take k ++ l.drop (k + 1)
theorem enumP_map (rows : List (List Int)) (k : Nat) : enumP k (rows.map RV) = (rows.zipIdx k).map fun q => .wtp [.int (q.2 : Int), RV q.1] := by
  induction rows generalizing k with
  | nil => rfl
  | cons r rows ih => simp only [List.map_cons, enumP, List.zipIdx_cons, ih]
theorem del_rows {s k : Nat} {rows : List (List Int)} (h : Rows s rows) : Rows s (del k rows) := by
  refine ⟨h.1, ?_, fun r hr => h.2.2 r ?_⟩
  · have := h.2.1
    unfold del
    rw [List.length_append, List.length_take, List.length_drop]
    omega
  · rcases List.mem_append.mp hr with z | z
    · exact List.mem_of_mem_take z
    · exact List.mem_of_mem_drop z
theorem shs_free0 (t : List Nat) : free' t 0 = true := by
  unfold free'
  rw [List.all_eq_true]
  intro o _
  simp
theorem shs_ne {s : Nat} (hs : 0 < s) : ∀ k, shs s k ≠ []
  | 0 => by simp [shs]
  | k + 1 => by
    intro h
    obtain ⟨t, ht⟩ := List.exists_mem_of_ne_nil _ (shs_ne hs k)
    have : t ++ [0] ∈ shs s (k + 1) := by
      simp only [shs, step, List.mem_flatMap, List.mem_map, List.mem_filter]
      exact ⟨t, ht, 0, ⟨List.mem_range.mpr hs, shs_free0 t⟩, rfl⟩
    rw [h] at this
    cases this
theorem bst_some {rows : List (List Int)} : ∀ {l : List (List Nat)} {b : Option (List Nat)}, (l ≠ [] ∨ b ≠ none) → ∃ t, l.foldl (better rows) b = some t ∧ (b = some t ∨ t ∈ l) ∧ (∀ u ∈ l, wo rows u ≤ wo rows t) ∧ ∀ u, b = some u → wo rows u ≤ wo rows t
  | [], b, h => by
    cases b with
    | none => simp at h
    | some u => exact ⟨u, rfl, .inl rfl, fun _ z => (nomatch z), fun v hv => by cases hv; exact Int.le_refl _⟩
  | c :: l, b, h => by
    have hb : better rows b c ≠ none := by unfold better; split <;> (try split) <;> simp
    obtain ⟨t, e, m, g, gb⟩ := bst_some (rows := rows) (l := l) (b := better rows b c) (.inr hb)
    have key : wo rows c ≤ wo rows t ∧ (∀ u, b = some u → wo rows u ≤ wo rows t) ∧ (better rows b c = some t → b = some t ∨ t = c) := by
      cases b with
      | none => exact ⟨gb c rfl, fun u hu => (nomatch hu), fun z => .inr (by cases z; rfl)⟩
      | some v =>
        by_cases q : wo rows v < wo rows c
        · have eb : better rows (some v) c = some c := by unfold better; simp [q]
          rw [eb] at gb ⊢
          have := gb c rfl
          exact ⟨this, fun u hu => by cases hu; omega, fun z => .inr (by cases z; rfl)⟩
        · have eb : better rows (some v) c = some v := by unfold better; simp [q]
          rw [eb] at gb ⊢
          have := gb v rfl
          exact ⟨by omega, fun u hu => by cases hu; exact this, fun z => .inl z⟩
    refine ⟨t, e, ?_, fun u hu => ?_, key.2.1⟩
    · rcases m with m | m
      · rcases key.2.2 m with z | z
        · exact .inl z
        · exact .inr (by rw [z]; exact List.mem_cons_self ..)
      · exact .inr (List.mem_cons_of_mem _ m)
    · rcases List.mem_cons.mp hu with z | z
      · rw [z]; exact key.1
      · exact g u z
end K78

set_option Elab.async false
set_option linter.all false
set_option maxRecDepth 100000
set_option maxHeartbeats 4000000
set_option autoImplicit false
namespace K78
open PySem PySem.Spec PyProof.Rows L2 Ev
def bs (s : Nat) (rows : List (List Int)) : List Nat := (bst rows (shs s rows.length)).getD []
def Vb (s : Nat) (rows : List (List Int)) : Int := wo rows (bs s rows)
def pay (s : Nat) (rows : List (List Int)) (k : Nat) : Int := Vb s (del k rows) - (Vb s rows - (rows.getD k []).getD ((bs s rows).getD k 0) 0)
theorem bs_is {s : Nat} (hs : 0 < s) (rows : List (List Int)) : bst rows (shs s rows.length) = some (bs s rows) ∧ bs s rows ∈ shs s rows.length ∧ ∀ u ∈ shs s rows.length, wo rows u ≤ Vb s rows := by
  obtain ⟨t, e, m, g, _⟩ := bst_some (rows := rows) (l := shs s rows.length) (b := none) (.inl (shs_ne hs _))
  have e' : bst rows (shs s rows.length) = some t := e
  have eb : bs s rows = t := by unfold bs; rw [e']; rfl
  unfold Vb
  rw [eb]
  exact ⟨e', m.resolve_left (fun z => nomatch z), g⟩
theorem payments_t {d s : Nat} {rows : List (List Int)} (hs : 0 < s) (h : Rows s rows) : run (d + 4) 5 [BV rows] = .ok (.tup (((List.range rows.length).map fun k => pay s rows k).map .int)) [BV rows] := by
  have hn : rows.length ≤ 1000 := by have := h.2.1; omega
  refine eq_of (w_fn at_payments rfl ?_)
  obtain ⟨b1, b2, b3⟩ := bs_is hs rows
  have B := best_t (d := d) h
  rw [b1] at B
  have ft := shs_fits h b2
  have W := worth_t (d := d + 2) hn ft
  simp only [f_payments, ↓reduceIte, ↓w_lit, ↓w_rd, ↓w_vw, ↓w_fz, ↓w_mv, ↓w_bin, ↓w_un, ↓w_cmp, ↓w_sub, ↓w_slc, ↓w_bi, ↓w_isi, ↓w_bm, ↓w_bk, ↓w_frz, ↓w_not, ↓w_ite, ↓w_tup, ↓w_lst, ↓w_mu, ↓w_call, ↓w_lc, ↓w_lc2, ↓w_bop, ↓w_b1, ↓w_b2, ↓w_es0, ↓w_es, ↓w_as0, ↓w_as1, ↓w_as2, ↓w_c0, ↓w_c1, ↓w_seq, ↓w_range1, ↓w_range2, ↓w_enum, ↓w_zip, ↓s_nil, ↓s_one, ↓s_consN, ↓s_set, ↓s_setAt, ↓s_par, ↓s_aug, ↓s_expr, ↓s_ite, ↓s_for, ↓s_ret, ↓s_retN, ↓s_brk, ↓s_cont, ↓s_pass, ↓wpo_some, ↓wp_ok, ↓wpc_ok, ↓wps_nx, ↓wps_rt, ↓wps_bk, ↓wps_ct, ↓wpb_bl, ↓wpi_int, ↓wpo_need, ↓wpo_bind, ↓wpo_map, need_t, getE_0, getE_s, getE_1, getE_2, getE_3, getE_4, getE_5, getE_6, getE_7, getE_8, getE_9, getE_10, getE_11, getE_12, getE_13, getE_14, getE_15, List.set_cons_zero, List.set_cons_succ, asgT, asgTs, unpk, opUn, obSem, opIsi, bmSem, bkSem, Ev.numsOf, isLst, itemsOf, itemsZ, fillAs, backAs, augOp, E.v, E.q, Es.q, Es.vs, As.q, ownOk, PV.pure, pures, PV.frz, frzs, PV.isN, Bool.and_true, Bool.true_and, Bool.or_true, Bool.true_or, Bool.not_true, Bool.not_false, Bool.false_and, Bool.and_false, Bool.or_false, Bool.false_or, List.length_cons, List.length_nil, List.map_cons, List.map_nil, List.replicate, List.cons_append, List.nil_append, true_and, and_true, if_true, Option.isSome_some, backIo, Ev.op_add, Ev.op_sub, Ev.op_mul, Ev.op_div, Ev.op_mod, Ev.op_pow, Ev.op_and, Ev.op_or, Ev.op_lcat, Ev.op_tcat, cmp_lt, cmp_le, cmp_gt, cmp_ge, cmp_is, cmp_isn, sub_t0, sub_t1, sub_t2, sub_l0, sub_l1, sub_l2, sub_tn, sub_ln, eq_self, decide_true, decide_false, exists_eq_left', wipeE, backE, lenOk_0, lenOk_1, lenOk_2, lenOk_3, lenOk_4, lenOk_5, lenOk_6, Nat.reduceAdd, Nat.reduceLT, Nat.reduceLeDiff, Nat.reduceSub, Nat.reduceEqDiff, ne_eq, not_false_eq_true, not_true_eq_false, decide_eq_true_eq, List.mem_cons, List.not_mem_nil, or_false, false_or, true_or, or_true, if_false, Option.map_some, decide_not, decide_true, decide_false, Nat.lt_irrefl, cmp_eq, cmp_ne, cmp_eqb, cmp_neb, List.any_cons, List.any_nil, reduceCtorEq, beq_self_eq_true, Bool.or_self, plainOwn, List.all_cons, List.all_nil, PV.lst.injEq, mu_append, mu_reverse, mu_pop, List.getElem?_cons_succ, List.getElem?_cons_zero, List.getElem?_nil, Option.bind_some, Option.bind_none, id, pure_BV, frz_BV, B]
  rw [seqN_app]
  simp only [↓reduceIte, ↓w_lit, ↓w_rd, ↓w_vw, ↓w_fz, ↓w_mv, ↓w_bin, ↓w_un, ↓w_cmp, ↓w_sub, ↓w_slc, ↓w_bi, ↓w_isi, ↓w_bm, ↓w_bk, ↓w_frz, ↓w_not, ↓w_ite, ↓w_tup, ↓w_lst, ↓w_mu, ↓w_call, ↓w_lc, ↓w_lc2, ↓w_bop, ↓w_b1, ↓w_b2, ↓w_es0, ↓w_es, ↓w_as0, ↓w_as1, ↓w_as2, ↓w_c0, ↓w_c1, ↓w_seq, ↓w_range1, ↓w_range2, ↓w_enum, ↓w_zip, ↓s_nil, ↓s_one, ↓s_consN, ↓s_set, ↓s_setAt, ↓s_par, ↓s_aug, ↓s_expr, ↓s_ite, ↓s_for, ↓s_ret, ↓s_retN, ↓s_brk, ↓s_cont, ↓s_pass, ↓wpo_some, ↓wp_ok, ↓wpc_ok, ↓wps_nx, ↓wps_rt, ↓wps_bk, ↓wps_ct, ↓wpb_bl, ↓wpi_int, ↓wpo_need, ↓wpo_bind, ↓wpo_map, need_t, getE_0, getE_s, getE_1, getE_2, getE_3, getE_4, getE_5, getE_6, getE_7, getE_8, getE_9, getE_10, getE_11, getE_12, getE_13, getE_14, getE_15, List.set_cons_zero, List.set_cons_succ, asgT, asgTs, unpk, opUn, obSem, opIsi, bmSem, bkSem, Ev.numsOf, isLst, itemsOf, itemsZ, fillAs, backAs, augOp, E.v, E.q, Es.q, Es.vs, As.q, ownOk, PV.pure, pures, PV.frz, frzs, PV.isN, Bool.and_true, Bool.true_and, Bool.or_true, Bool.true_or, Bool.not_true, Bool.not_false, Bool.false_and, Bool.and_false, Bool.or_false, Bool.false_or, List.length_cons, List.length_nil, List.map_cons, List.map_nil, List.replicate, List.cons_append, List.nil_append, true_and, and_true, if_true, Option.isSome_some, backIo, Ev.op_add, Ev.op_sub, Ev.op_mul, Ev.op_div, Ev.op_mod, Ev.op_pow, Ev.op_and, Ev.op_or, Ev.op_lcat, Ev.op_tcat, cmp_lt, cmp_le, cmp_gt, cmp_ge, cmp_is, cmp_isn, sub_t0, sub_t1, sub_t2, sub_l0, sub_l1, sub_l2, sub_tn, sub_ln, eq_self, decide_true, decide_false, exists_eq_left', wipeE, backE, lenOk_0, lenOk_1, lenOk_2, lenOk_3, lenOk_4, lenOk_5, lenOk_6, Nat.reduceAdd, Nat.reduceLT, Nat.reduceLeDiff, Nat.reduceSub, Nat.reduceEqDiff, ne_eq, not_false_eq_true, not_true_eq_false, decide_eq_true_eq, List.mem_cons, List.not_mem_nil, or_false, false_or, true_or, or_true, if_false, Option.map_some, decide_not, decide_true, decide_false, Nat.lt_irrefl, cmp_eq, cmp_ne, cmp_eqb, cmp_neb, List.any_cons, List.any_nil, reduceCtorEq, beq_self_eq_true, Bool.or_self, plainOwn, List.all_cons, List.all_nil, PV.lst.injEq, mu_append, mu_reverse, mu_pop, List.getElem?_cons_succ, List.getElem?_cons_zero, List.getElem?_nil, Option.bind_some, Option.bind_none, id, pure_BV, frz_BV, OV, pure_TV, frz_TV, W]
  rw [seqN_app]
  simp only [↓reduceIte, ↓w_lit, ↓w_rd, ↓w_vw, ↓w_fz, ↓w_mv, ↓w_bin, ↓w_un, ↓w_cmp, ↓w_sub, ↓w_slc, ↓w_bi, ↓w_isi, ↓w_bm, ↓w_bk, ↓w_frz, ↓w_not, ↓w_ite, ↓w_tup, ↓w_lst, ↓w_mu, ↓w_call, ↓w_lc, ↓w_lc2, ↓w_bop, ↓w_b1, ↓w_b2, ↓w_es0, ↓w_es, ↓w_as0, ↓w_as1, ↓w_as2, ↓w_c0, ↓w_c1, ↓w_seq, ↓w_range1, ↓w_range2, ↓w_enum, ↓w_zip, ↓s_nil, ↓s_one, ↓s_consN, ↓s_set, ↓s_setAt, ↓s_par, ↓s_aug, ↓s_expr, ↓s_ite, ↓s_for, ↓s_ret, ↓s_retN, ↓s_brk, ↓s_cont, ↓s_pass, ↓wpo_some, ↓wp_ok, ↓wpc_ok, ↓wps_nx, ↓wps_rt, ↓wps_bk, ↓wps_ct, ↓wpb_bl, ↓wpi_int, ↓wpo_need, ↓wpo_bind, ↓wpo_map, need_t, getE_0, getE_s, getE_1, getE_2, getE_3, getE_4, getE_5, getE_6, getE_7, getE_8, getE_9, getE_10, getE_11, getE_12, getE_13, getE_14, getE_15, List.set_cons_zero, List.set_cons_succ, asgT, asgTs, unpk, opUn, obSem, opIsi, bmSem, bkSem, Ev.numsOf, isLst, itemsOf, itemsZ, fillAs, backAs, augOp, E.v, E.q, Es.q, Es.vs, As.q, ownOk, PV.pure, pures, PV.frz, frzs, PV.isN, Bool.and_true, Bool.true_and, Bool.or_true, Bool.true_or, Bool.not_true, Bool.not_false, Bool.false_and, Bool.and_false, Bool.or_false, Bool.false_or, List.length_cons, List.length_nil, List.map_cons, List.map_nil, List.replicate, List.cons_append, List.nil_append, true_and, and_true, if_true, Option.isSome_some, backIo, Ev.op_add, Ev.op_sub, Ev.op_mul, Ev.op_div, Ev.op_mod, Ev.op_pow, Ev.op_and, Ev.op_or, Ev.op_lcat, Ev.op_tcat, cmp_lt, cmp_le, cmp_gt, cmp_ge, cmp_is, cmp_isn, sub_t0, sub_t1, sub_t2, sub_l0, sub_l1, sub_l2, sub_tn, sub_ln, eq_self, decide_true, decide_false, exists_eq_left', wipeE, backE, lenOk_0, lenOk_1, lenOk_2, lenOk_3, lenOk_4, lenOk_5, lenOk_6, Nat.reduceAdd, Nat.reduceLT, Nat.reduceLeDiff, Nat.reduceSub, Nat.reduceEqDiff, ne_eq, not_false_eq_true, not_true_eq_false, decide_eq_true_eq, List.mem_cons, List.not_mem_nil, or_false, false_or, true_or, or_true, if_false, Option.map_some, decide_not, decide_true, decide_false, Nat.lt_irrefl, cmp_eq, cmp_ne, cmp_eqb, cmp_neb, List.any_cons, List.any_nil, reduceCtorEq, beq_self_eq_true, Bool.or_self, plainOwn, List.all_cons, List.all_nil, PV.lst.injEq, mu_append, mu_reverse, mu_pop, List.getElem?_cons_succ, List.getElem?_cons_zero, List.getElem?_nil, Option.bind_some, Option.bind_none, id]
  rw [seqN_app]
  simp only [↓reduceIte, ↓w_lit, ↓w_rd, ↓w_vw, ↓w_fz, ↓w_mv, ↓w_bin, ↓w_un, ↓w_cmp, ↓w_sub, ↓w_slc, ↓w_bi, ↓w_isi, ↓w_bm, ↓w_bk, ↓w_frz, ↓w_not, ↓w_ite, ↓w_tup, ↓w_lst, ↓w_mu, ↓w_call, ↓w_lc, ↓w_lc2, ↓w_bop, ↓w_b1, ↓w_b2, ↓w_es0, ↓w_es, ↓w_as0, ↓w_as1, ↓w_as2, ↓w_c0, ↓w_c1, ↓w_seq, ↓w_range1, ↓w_range2, ↓w_enum, ↓w_zip, ↓s_nil, ↓s_one, ↓s_consN, ↓s_set, ↓s_setAt, ↓s_par, ↓s_aug, ↓s_expr, ↓s_ite, ↓s_for, ↓s_ret, ↓s_retN, ↓s_brk, ↓s_cont, ↓s_pass, ↓wpo_some, ↓wp_ok, ↓wpc_ok, ↓wps_nx, ↓wps_rt, ↓wps_bk, ↓wps_ct, ↓wpb_bl, ↓wpi_int, ↓wpo_need, ↓wpo_bind, ↓wpo_map, need_t, getE_0, getE_s, getE_1, getE_2, getE_3, getE_4, getE_5, getE_6, getE_7, getE_8, getE_9, getE_10, getE_11, getE_12, getE_13, getE_14, getE_15, List.set_cons_zero, List.set_cons_succ, asgT, asgTs, unpk, opUn, obSem, opIsi, bmSem, bkSem, Ev.numsOf, isLst, itemsOf, itemsZ, fillAs, backAs, augOp, E.v, E.q, Es.q, Es.vs, As.q, ownOk, PV.pure, pures, PV.frz, frzs, PV.isN, Bool.and_true, Bool.true_and, Bool.or_true, Bool.true_or, Bool.not_true, Bool.not_false, Bool.false_and, Bool.and_false, Bool.or_false, Bool.false_or, List.length_cons, List.length_nil, List.map_cons, List.map_nil, List.replicate, List.cons_append, List.nil_append, true_and, and_true, if_true, Option.isSome_some, backIo, Ev.op_add, Ev.op_sub, Ev.op_mul, Ev.op_div, Ev.op_mod, Ev.op_pow, Ev.op_and, Ev.op_or, Ev.op_lcat, Ev.op_tcat, cmp_lt, cmp_le, cmp_gt, cmp_ge, cmp_is, cmp_isn, sub_t0, sub_t1, sub_t2, sub_l0, sub_l1, sub_l2, sub_tn, sub_ln, eq_self, decide_true, decide_false, exists_eq_left', wipeE, backE, lenOk_0, lenOk_1, lenOk_2, lenOk_3, lenOk_4, lenOk_5, lenOk_6, Nat.reduceAdd, Nat.reduceLT, Nat.reduceLeDiff, Nat.reduceSub, Nat.reduceEqDiff, ne_eq, not_false_eq_true, not_true_eq_false, decide_eq_true_eq, List.mem_cons, List.not_mem_nil, or_false, false_or, true_or, or_true, if_false, Option.map_some, decide_not, decide_true, decide_false, Nat.lt_irrefl, cmp_eq, cmp_ne, cmp_eqb, cmp_neb, List.any_cons, List.any_nil, reduceCtorEq, beq_self_eq_true, Bool.or_self, plainOwn, List.all_cons, List.all_nil, PV.lst.injEq, mu_append, mu_reverse, mu_pop, List.getElem?_cons_succ, List.getElem?_cons_zero, List.getElem?_nil, Option.bind_some, Option.bind_none, id, pure_BV]
  show wpo (itemsOf (.tup (rows.map RV))) _
  simp only [↓reduceIte, ↓w_lit, ↓w_rd, ↓w_vw, ↓w_fz, ↓w_mv, ↓w_bin, ↓w_un, ↓w_cmp, ↓w_sub, ↓w_slc, ↓w_bi, ↓w_isi, ↓w_bm, ↓w_bk, ↓w_frz, ↓w_not, ↓w_ite, ↓w_tup, ↓w_lst, ↓w_mu, ↓w_call, ↓w_lc, ↓w_lc2, ↓w_bop, ↓w_b1, ↓w_b2, ↓w_es0, ↓w_es, ↓w_as0, ↓w_as1, ↓w_as2, ↓w_c0, ↓w_c1, ↓w_seq, ↓w_range1, ↓w_range2, ↓w_enum, ↓w_zip, ↓s_nil, ↓s_one, ↓s_consN, ↓s_set, ↓s_setAt, ↓s_par, ↓s_aug, ↓s_expr, ↓s_ite, ↓s_for, ↓s_ret, ↓s_retN, ↓s_brk, ↓s_cont, ↓s_pass, ↓wpo_some, ↓wp_ok, ↓wpc_ok, ↓wps_nx, ↓wps_rt, ↓wps_bk, ↓wps_ct, ↓wpb_bl, ↓wpi_int, ↓wpo_need, ↓wpo_bind, ↓wpo_map, need_t, getE_0, getE_s, getE_1, getE_2, getE_3, getE_4, getE_5, getE_6, getE_7, getE_8, getE_9, getE_10, getE_11, getE_12, getE_13, getE_14, getE_15, List.set_cons_zero, List.set_cons_succ, asgT, asgTs, unpk, opUn, obSem, opIsi, bmSem, bkSem, Ev.numsOf, isLst, itemsOf, itemsZ, fillAs, backAs, augOp, E.v, E.q, Es.q, Es.vs, As.q, ownOk, PV.pure, pures, PV.frz, frzs, PV.isN, Bool.and_true, Bool.true_and, Bool.or_true, Bool.true_or, Bool.not_true, Bool.not_false, Bool.false_and, Bool.and_false, Bool.or_false, Bool.false_or, List.length_cons, List.length_nil, List.map_cons, List.map_nil, List.replicate, List.cons_append, List.nil_append, true_and, and_true, if_true, Option.isSome_some, backIo, Ev.op_add, Ev.op_sub, Ev.op_mul, Ev.op_div, Ev.op_mod, Ev.op_pow, Ev.op_and, Ev.op_or, Ev.op_lcat, Ev.op_tcat, cmp_lt, cmp_le, cmp_gt, cmp_ge, cmp_is, cmp_isn, sub_t0, sub_t1, sub_t2, sub_l0, sub_l1, sub_l2, sub_tn, sub_ln, eq_self, decide_true, decide_false, exists_eq_left', wipeE, backE, lenOk_0, lenOk_1, lenOk_2, lenOk_3, lenOk_4, lenOk_5, lenOk_6, Nat.reduceAdd, Nat.reduceLT, Nat.reduceLeDiff, Nat.reduceSub, Nat.reduceEqDiff, ne_eq, not_false_eq_true, not_true_eq_false, decide_eq_true_eq, List.mem_cons, List.not_mem_nil, or_false, false_or, true_or, or_true, if_false, Option.map_some, decide_not, decide_true, decide_false, Nat.lt_irrefl, cmp_eq, cmp_ne, cmp_eqb, cmp_neb, List.any_cons, List.any_nil, reduceCtorEq, beq_self_eq_true, Bool.or_self, plainOwn, List.all_cons, List.all_nil, PV.lst.injEq, mu_append, mu_reverse, mu_pop, List.getElem?_cons_succ, List.getElem?_cons_zero, List.getElem?_nil, Option.bind_some, Option.bind_none, id, enumP_map]
  refine for_inv (fun xs ρ => ∃ a b x4 x5 x6 x7, a ++ b = rows.zipIdx ∧ xs = b.map (fun q : List Int × Nat => PV.wtp [.int (q.2 : Int), RV q.1]) ∧ ρ = [some (BV rows), some (TV (bs s rows)), some (.int (wo rows (bs s rows))), some (.lst true ((a.map fun q => pay s rows q.2).map .int)), x4, x5, x6, x7]) ?_ ?_ _ _ ⟨[], _, none, none, none, none, rfl, rfl, rfl⟩
  · rintro x xs ρ ⟨a, b, x4, x5, x6, x7, hab, hb, rfl⟩
    cases b with
    | nil => cases hb
    | cons q b =>
      rw [List.map_cons] at hb
      injection hb with h1 h2
      subst h1; subst h2
      have hq : q ∈ rows.zipIdx := by rw [← hab]; simp
      have hq2 := List.mem_zipIdx' hq
      obtain ⟨k1, k2⟩ := hq2
      have al : a.length ≤ 4 := by
        have := congrArg List.length hab
        have h4 := h.2.1
        simp at this; omega
      have hd := del_rows (k := q.2) h
      have hdn : (del q.2 rows).length ≤ 1000 := by have := hd.2.1; omega
      have Bd := best_t (d := d) hd
      obtain ⟨c1, c2, c3⟩ := bs_is hs (del q.2 rows)
      rw [c1] at Bd
      have Wd := worth_t (d := d + 2) hdn (shs_fits hd c2)
      have s1 : opSlc false true [BV rows, .non, .int (q.2 : Int)] = some (BV (rows.take q.2)) := by
        unfold BV
        rw [slc_hi (by simp; omega), List.map_take]
      have s2 : opSlc true false [BV rows, .int ((q.2 : Int) + 1), .non] = some (BV (rows.drop (q.2 + 1))) := by
        unfold BV
        have := slc_lo (xs := rows.map RV) (p := .non) (k := q.2 + 1) (by simp; omega)
        rw [List.map_drop]
        simpa using this
      have s3 : ∀ Q : PV → Prop, Q (BV (del q.2 rows)) → wpo (opBin .Add [BV (rows.take q.2), BV (rows.drop (q.2 + 1))]) Q := fun Q hQ => by
        unfold BV
        rw [Ev.op_tcat]
        refine ⟨lenOk_of (by simp; omega), ?_⟩
        rw [← List.map_append]; exact hQ
      have bl : (bs s rows).length = rows.length := shs_len b2
      have t1 := sub_TV (t := bs s rows) (n := q.2) (by omega)
      have rl : (bs s rows).getD q.2 0 < q.1.length := by
        have := at_len ft k1
        rw [k2]
        simpa [List.getD, k1] using this
      have t2 := sub_RV rl
      simp only [↓reduceIte, ↓w_lit, ↓w_rd, ↓w_vw, ↓w_fz, ↓w_mv, ↓w_bin, ↓w_un, ↓w_cmp, ↓w_sub, ↓w_slc, ↓w_bi, ↓w_isi, ↓w_bm, ↓w_bk, ↓w_frz, ↓w_not, ↓w_ite, ↓w_tup, ↓w_lst, ↓w_mu, ↓w_call, ↓w_lc, ↓w_lc2, ↓w_bop, ↓w_b1, ↓w_b2, ↓w_es0, ↓w_es, ↓w_as0, ↓w_as1, ↓w_as2, ↓w_c0, ↓w_c1, ↓w_seq, ↓w_range1, ↓w_range2, ↓w_enum, ↓w_zip, ↓s_nil, ↓s_one, ↓s_consN, ↓s_set, ↓s_setAt, ↓s_par, ↓s_aug, ↓s_expr, ↓s_ite, ↓s_for, ↓s_ret, ↓s_retN, ↓s_brk, ↓s_cont, ↓s_pass, ↓wpo_some, ↓wp_ok, ↓wpc_ok, ↓wps_nx, ↓wps_rt, ↓wps_bk, ↓wps_ct, ↓wpb_bl, ↓wpi_int, ↓wpo_need, ↓wpo_bind, ↓wpo_map, need_t, getE_0, getE_s, getE_1, getE_2, getE_3, getE_4, getE_5, getE_6, getE_7, getE_8, getE_9, getE_10, getE_11, getE_12, getE_13, getE_14, getE_15, List.set_cons_zero, List.set_cons_succ, asgT, asgTs, unpk, opUn, obSem, opIsi, bmSem, bkSem, Ev.numsOf, isLst, itemsOf, itemsZ, fillAs, backAs, augOp, E.v, E.q, Es.q, Es.vs, As.q, ownOk, PV.pure, pures, PV.frz, frzs, PV.isN, Bool.and_true, Bool.true_and, Bool.or_true, Bool.true_or, Bool.not_true, Bool.not_false, Bool.false_and, Bool.and_false, Bool.or_false, Bool.false_or, List.length_cons, List.length_nil, List.map_cons, List.map_nil, List.replicate, List.cons_append, List.nil_append, true_and, and_true, if_true, Option.isSome_some, backIo, Ev.op_add, Ev.op_sub, Ev.op_mul, Ev.op_div, Ev.op_mod, Ev.op_pow, Ev.op_and, Ev.op_or, Ev.op_lcat, Ev.op_tcat, cmp_lt, cmp_le, cmp_gt, cmp_ge, cmp_is, cmp_isn, sub_t0, sub_t1, sub_t2, sub_l0, sub_l1, sub_l2, sub_tn, sub_ln, eq_self, decide_true, decide_false, exists_eq_left', wipeE, backE, lenOk_0, lenOk_1, lenOk_2, lenOk_3, lenOk_4, lenOk_5, lenOk_6, Nat.reduceAdd, Nat.reduceLT, Nat.reduceLeDiff, Nat.reduceSub, Nat.reduceEqDiff, ne_eq, not_false_eq_true, not_true_eq_false, decide_eq_true_eq, List.mem_cons, List.not_mem_nil, or_false, false_or, true_or, or_true, if_false, Option.map_some, decide_not, decide_true, decide_false, Nat.lt_irrefl, cmp_eq, cmp_ne, cmp_eqb, cmp_neb, List.any_cons, List.any_nil, reduceCtorEq, beq_self_eq_true, Bool.or_self, plainOwn, List.all_cons, List.all_nil, PV.lst.injEq, mu_append, mu_reverse, mu_pop, List.getElem?_cons_succ, List.getElem?_cons_zero, List.getElem?_nil, Option.bind_some, Option.bind_none, id, pure_BV, pure_TV, pure_RV, s1, s2]
      refine s3 _ ?_
      simp only [↓reduceIte, ↓w_lit, ↓w_rd, ↓w_vw, ↓w_fz, ↓w_mv, ↓w_bin, ↓w_un, ↓w_cmp, ↓w_sub, ↓w_slc, ↓w_bi, ↓w_isi, ↓w_bm, ↓w_bk, ↓w_frz, ↓w_not, ↓w_ite, ↓w_tup, ↓w_lst, ↓w_mu, ↓w_call, ↓w_lc, ↓w_lc2, ↓w_bop, ↓w_b1, ↓w_b2, ↓w_es0, ↓w_es, ↓w_as0, ↓w_as1, ↓w_as2, ↓w_c0, ↓w_c1, ↓w_seq, ↓w_range1, ↓w_range2, ↓w_enum, ↓w_zip, ↓s_nil, ↓s_one, ↓s_consN, ↓s_set, ↓s_setAt, ↓s_par, ↓s_aug, ↓s_expr, ↓s_ite, ↓s_for, ↓s_ret, ↓s_retN, ↓s_brk, ↓s_cont, ↓s_pass, ↓wpo_some, ↓wp_ok, ↓wpc_ok, ↓wps_nx, ↓wps_rt, ↓wps_bk, ↓wps_ct, ↓wpb_bl, ↓wpi_int, ↓wpo_need, ↓wpo_bind, ↓wpo_map, need_t, getE_0, getE_s, getE_1, getE_2, getE_3, getE_4, getE_5, getE_6, getE_7, getE_8, getE_9, getE_10, getE_11, getE_12, getE_13, getE_14, getE_15, List.set_cons_zero, List.set_cons_succ, asgT, asgTs, unpk, opUn, obSem, opIsi, bmSem, bkSem, Ev.numsOf, isLst, itemsOf, itemsZ, fillAs, backAs, augOp, E.v, E.q, Es.q, Es.vs, As.q, ownOk, PV.pure, pures, PV.frz, frzs, PV.isN, Bool.and_true, Bool.true_and, Bool.or_true, Bool.true_or, Bool.not_true, Bool.not_false, Bool.false_and, Bool.and_false, Bool.or_false, Bool.false_or, List.length_cons, List.length_nil, List.map_cons, List.map_nil, List.replicate, List.cons_append, List.nil_append, true_and, and_true, if_true, Option.isSome_some, backIo, Ev.op_add, Ev.op_sub, Ev.op_mul, Ev.op_div, Ev.op_mod, Ev.op_pow, Ev.op_and, Ev.op_or, Ev.op_lcat, Ev.op_tcat, cmp_lt, cmp_le, cmp_gt, cmp_ge, cmp_is, cmp_isn, sub_t0, sub_t1, sub_t2, sub_l0, sub_l1, sub_l2, sub_tn, sub_ln, eq_self, decide_true, decide_false, exists_eq_left', wipeE, backE, lenOk_0, lenOk_1, lenOk_2, lenOk_3, lenOk_4, lenOk_5, lenOk_6, Nat.reduceAdd, Nat.reduceLT, Nat.reduceLeDiff, Nat.reduceSub, Nat.reduceEqDiff, ne_eq, not_false_eq_true, not_true_eq_false, decide_eq_true_eq, List.mem_cons, List.not_mem_nil, or_false, false_or, true_or, or_true, if_false, Option.map_some, decide_not, decide_true, decide_false, Nat.lt_irrefl, cmp_eq, cmp_ne, cmp_eqb, cmp_neb, List.any_cons, List.any_nil, reduceCtorEq, beq_self_eq_true, Bool.or_self, plainOwn, List.all_cons, List.all_nil, PV.lst.injEq, mu_append, mu_reverse, mu_pop, List.getElem?_cons_succ, List.getElem?_cons_zero, List.getElem?_nil, Option.bind_some, Option.bind_none, id, pure_BV, frz_BV]
      rw [seqN_app]
      simp only [↓reduceIte, ↓w_lit, ↓w_rd, ↓w_vw, ↓w_fz, ↓w_mv, ↓w_bin, ↓w_un, ↓w_cmp, ↓w_sub, ↓w_slc, ↓w_bi, ↓w_isi, ↓w_bm, ↓w_bk, ↓w_frz, ↓w_not, ↓w_ite, ↓w_tup, ↓w_lst, ↓w_mu, ↓w_call, ↓w_lc, ↓w_lc2, ↓w_bop, ↓w_b1, ↓w_b2, ↓w_es0, ↓w_es, ↓w_as0, ↓w_as1, ↓w_as2, ↓w_c0, ↓w_c1, ↓w_seq, ↓w_range1, ↓w_range2, ↓w_enum, ↓w_zip, ↓s_nil, ↓s_one, ↓s_consN, ↓s_set, ↓s_setAt, ↓s_par, ↓s_aug, ↓s_expr, ↓s_ite, ↓s_for, ↓s_ret, ↓s_retN, ↓s_brk, ↓s_cont, ↓s_pass, ↓wpo_some, ↓wp_ok, ↓wpc_ok, ↓wps_nx, ↓wps_rt, ↓wps_bk, ↓wps_ct, ↓wpb_bl, ↓wpi_int, ↓wpo_need, ↓wpo_bind, ↓wpo_map, need_t, getE_0, getE_s, getE_1, getE_2, getE_3, getE_4, getE_5, getE_6, getE_7, getE_8, getE_9, getE_10, getE_11, getE_12, getE_13, getE_14, getE_15, List.set_cons_zero, List.set_cons_succ, asgT, asgTs, unpk, opUn, obSem, opIsi, bmSem, bkSem, Ev.numsOf, isLst, itemsOf, itemsZ, fillAs, backAs, augOp, E.v, E.q, Es.q, Es.vs, As.q, ownOk, PV.pure, pures, PV.frz, frzs, PV.isN, Bool.and_true, Bool.true_and, Bool.or_true, Bool.true_or, Bool.not_true, Bool.not_false, Bool.false_and, Bool.and_false, Bool.or_false, Bool.false_or, List.length_cons, List.length_nil, List.map_cons, List.map_nil, List.replicate, List.cons_append, List.nil_append, true_and, and_true, if_true, Option.isSome_some, backIo, Ev.op_add, Ev.op_sub, Ev.op_mul, Ev.op_div, Ev.op_mod, Ev.op_pow, Ev.op_and, Ev.op_or, Ev.op_lcat, Ev.op_tcat, cmp_lt, cmp_le, cmp_gt, cmp_ge, cmp_is, cmp_isn, sub_t0, sub_t1, sub_t2, sub_l0, sub_l1, sub_l2, sub_tn, sub_ln, eq_self, decide_true, decide_false, exists_eq_left', wipeE, backE, lenOk_0, lenOk_1, lenOk_2, lenOk_3, lenOk_4, lenOk_5, lenOk_6, Nat.reduceAdd, Nat.reduceLT, Nat.reduceLeDiff, Nat.reduceSub, Nat.reduceEqDiff, ne_eq, not_false_eq_true, not_true_eq_false, decide_eq_true_eq, List.mem_cons, List.not_mem_nil, or_false, false_or, true_or, or_true, if_false, Option.map_some, decide_not, decide_true, decide_false, Nat.lt_irrefl, cmp_eq, cmp_ne, cmp_eqb, cmp_neb, List.any_cons, List.any_nil, reduceCtorEq, beq_self_eq_true, Bool.or_self, plainOwn, List.all_cons, List.all_nil, PV.lst.injEq, mu_append, mu_reverse, mu_pop, List.getElem?_cons_succ, List.getElem?_cons_zero, List.getElem?_nil, Option.bind_some, Option.bind_none, id, pure_BV, frz_BV, OV, pure_TV, frz_TV, Bd, Wd]
      rw [seqN_app]
      simp only [↓reduceIte, ↓w_lit, ↓w_rd, ↓w_vw, ↓w_fz, ↓w_mv, ↓w_bin, ↓w_un, ↓w_cmp, ↓w_sub, ↓w_slc, ↓w_bi, ↓w_isi, ↓w_bm, ↓w_bk, ↓w_frz, ↓w_not, ↓w_ite, ↓w_tup, ↓w_lst, ↓w_mu, ↓w_call, ↓w_lc, ↓w_lc2, ↓w_bop, ↓w_b1, ↓w_b2, ↓w_es0, ↓w_es, ↓w_as0, ↓w_as1, ↓w_as2, ↓w_c0, ↓w_c1, ↓w_seq, ↓w_range1, ↓w_range2, ↓w_enum, ↓w_zip, ↓s_nil, ↓s_one, ↓s_consN, ↓s_set, ↓s_setAt, ↓s_par, ↓s_aug, ↓s_expr, ↓s_ite, ↓s_for, ↓s_ret, ↓s_retN, ↓s_brk, ↓s_cont, ↓s_pass, ↓wpo_some, ↓wp_ok, ↓wpc_ok, ↓wps_nx, ↓wps_rt, ↓wps_bk, ↓wps_ct, ↓wpb_bl, ↓wpi_int, ↓wpo_need, ↓wpo_bind, ↓wpo_map, need_t, getE_0, getE_s, getE_1, getE_2, getE_3, getE_4, getE_5, getE_6, getE_7, getE_8, getE_9, getE_10, getE_11, getE_12, getE_13, getE_14, getE_15, List.set_cons_zero, List.set_cons_succ, asgT, asgTs, unpk, opUn, obSem, opIsi, bmSem, bkSem, Ev.numsOf, isLst, itemsOf, itemsZ, fillAs, backAs, augOp, E.v, E.q, Es.q, Es.vs, As.q, ownOk, PV.pure, pures, PV.frz, frzs, PV.isN, Bool.and_true, Bool.true_and, Bool.or_true, Bool.true_or, Bool.not_true, Bool.not_false, Bool.false_and, Bool.and_false, Bool.or_false, Bool.false_or, List.length_cons, List.length_nil, List.map_cons, List.map_nil, List.replicate, List.cons_append, List.nil_append, true_and, and_true, if_true, Option.isSome_some, backIo, Ev.op_add, Ev.op_sub, Ev.op_mul, Ev.op_div, Ev.op_mod, Ev.op_pow, Ev.op_and, Ev.op_or, Ev.op_lcat, Ev.op_tcat, cmp_lt, cmp_le, cmp_gt, cmp_ge, cmp_is, cmp_isn, sub_t0, sub_t1, sub_t2, sub_l0, sub_l1, sub_l2, sub_tn, sub_ln, eq_self, decide_true, decide_false, exists_eq_left', wipeE, backE, lenOk_0, lenOk_1, lenOk_2, lenOk_3, lenOk_4, lenOk_5, lenOk_6, Nat.reduceAdd, Nat.reduceLT, Nat.reduceLeDiff, Nat.reduceSub, Nat.reduceEqDiff, ne_eq, not_false_eq_true, not_true_eq_false, decide_eq_true_eq, List.mem_cons, List.not_mem_nil, or_false, false_or, true_or, or_true, if_false, Option.map_some, decide_not, decide_true, decide_false, Nat.lt_irrefl, cmp_eq, cmp_ne, cmp_eqb, cmp_neb, List.any_cons, List.any_nil, reduceCtorEq, beq_self_eq_true, Bool.or_self, plainOwn, List.all_cons, List.all_nil, PV.lst.injEq, mu_append, mu_reverse, mu_pop, List.getElem?_cons_succ, List.getElem?_cons_zero, List.getElem?_nil, Option.bind_some, Option.bind_none, id, pure_BV, pure_TV, pure_RV, t1, t2, List.length_map]
      refine ⟨by rw [sizeLine_eq]; omega, a ++ [q], b, some (.int (q.2 : Int)), some (RV q.1), some (BV (del q.2 rows)), some (.int (wo (del q.2 rows) (bs s (del q.2 rows)))), by simpa using hab, rfl, ?_⟩
      have e : pay s rows q.2 = wo (del q.2 rows) (bs s (del q.2 rows)) - (wo rows (bs s rows) - q.1.getD ((bs s rows).getD q.2 0) 0) := by
        unfold pay Vb
        rw [k2]
        simp [List.getD, k1]
      simp only [List.map_append, List.map_cons, List.map_nil, e]
  · rintro ρ ⟨a, b, x4, x5, x6, x7, hab, hb, rfl⟩
    have : b = [] := by cases b <;> first | rfl | cases hb
    subst this
    rw [List.append_nil] at hab
    subst hab
    simp only [↓reduceIte, ↓w_lit, ↓w_rd, ↓w_vw, ↓w_fz, ↓w_mv, ↓w_bin, ↓w_un, ↓w_cmp, ↓w_sub, ↓w_slc, ↓w_bi, ↓w_isi, ↓w_bm, ↓w_bk, ↓w_frz, ↓w_not, ↓w_ite, ↓w_tup, ↓w_lst, ↓w_mu, ↓w_call, ↓w_lc, ↓w_lc2, ↓w_bop, ↓w_b1, ↓w_b2, ↓w_es0, ↓w_es, ↓w_as0, ↓w_as1, ↓w_as2, ↓w_c0, ↓w_c1, ↓w_seq, ↓w_range1, ↓w_range2, ↓w_enum, ↓w_zip, ↓s_nil, ↓s_one, ↓s_consN, ↓seqN_app, ↓s_set, ↓s_setAt, ↓s_par, ↓s_aug, ↓s_expr, ↓s_ite, ↓s_for, ↓s_ret, ↓s_retN, ↓s_brk, ↓s_cont, ↓s_pass, ↓wpo_some, ↓wp_ok, ↓wpc_ok, ↓wps_nx, ↓wps_rt, ↓wps_bk, ↓wps_ct, ↓wpb_bl, ↓wpi_int, ↓wpo_need, ↓wpo_bind, ↓wpo_map, need_t, getE_0, getE_s, getE_1, getE_2, getE_3, getE_4, getE_5, getE_6, getE_7, getE_8, getE_9, getE_10, getE_11, getE_12, getE_13, getE_14, getE_15, List.set_cons_zero, List.set_cons_succ, asgT, asgTs, unpk, opUn, obSem, opIsi, bmSem, bkSem, Ev.numsOf, isLst, itemsOf, itemsZ, fillAs, backAs, augOp, E.v, E.q, Es.q, Es.vs, As.q, ownOk, PV.pure, pures, PV.frz, frzs, PV.isN, Bool.and_true, Bool.true_and, Bool.or_true, Bool.true_or, Bool.not_true, Bool.not_false, Bool.false_and, Bool.and_false, Bool.or_false, Bool.false_or, List.length_cons, List.length_nil, List.map_cons, List.map_nil, List.replicate, List.cons_append, List.nil_append, true_and, and_true, if_true, Option.isSome_some, backIo, Ev.op_add, Ev.op_sub, Ev.op_mul, Ev.op_div, Ev.op_mod, Ev.op_pow, Ev.op_and, Ev.op_or, Ev.op_lcat, Ev.op_tcat, cmp_lt, cmp_le, cmp_gt, cmp_ge, cmp_is, cmp_isn, sub_t0, sub_t1, sub_t2, sub_l0, sub_l1, sub_l2, sub_tn, sub_ln, eq_self, decide_true, decide_false, exists_eq_left', wipeE, backE, lenOk_0, lenOk_1, lenOk_2, lenOk_3, lenOk_4, lenOk_5, lenOk_6, Nat.reduceAdd, Nat.reduceLT, Nat.reduceLeDiff, Nat.reduceSub, Nat.reduceEqDiff, ne_eq, not_false_eq_true, not_true_eq_false, decide_eq_true_eq, List.mem_cons, List.not_mem_nil, or_false, false_or, true_or, or_true, if_false, Option.map_some, decide_not, decide_true, decide_false, Nat.lt_irrefl, cmp_eq, cmp_ne, cmp_eqb, cmp_neb, List.any_cons, List.any_nil, reduceCtorEq, beq_self_eq_true, Bool.or_self, plainOwn, List.all_cons, List.all_nil, PV.lst.injEq, mu_append, mu_reverse, mu_pop, List.getElem?_cons_succ, List.getElem?_cons_zero, List.getElem?_nil, Option.bind_some, Option.bind_none, id, pures_int]
    congr 2
    refine List.ext_getElem (by simp) fun k h1 h2 => ?_
    simp
end K78

set_option Elab.async false
set_option linter.all false
set_option maxRecDepth 100000
set_option maxHeartbeats 4000000
set_option autoImplicit false
namespace K78
open PySem PySem.Spec PyProof.Rows L2 Ev
/-! ### which are sharings -/
def Apart (t : List Nat) : Prop := t.Pairwise fun a b => a &&& b = 0
theorem mem_shs {s : Nat} : ∀ (k : Nat) (t : List Nat), t ∈ shs s k ↔ t.length = k ∧ (∀ x ∈ t, x < s) ∧ Apart t
  | 0, t => by
    constructor
    · intro h
      have : t = [] := by simpa [shs] using h
      subst this
      exact ⟨rfl, fun _ z => (nomatch z), List.Pairwise.nil⟩
    · rintro ⟨h, _, _⟩
      rw [List.eq_nil_of_length_eq_zero h]
      simp [shs]
  | k + 1, t => by
    simp only [shs, step, List.mem_flatMap, List.mem_map, List.mem_filter, List.mem_range]
    constructor
    · rintro ⟨u, hu, n, ⟨hn, hf⟩, rfl⟩
      obtain ⟨h1, h2, h3⟩ := (mem_shs k u).mp hu
      refine ⟨by simp [h1], fun x hx => ?_, ?_⟩
      · rcases List.mem_append.mp hx with z | z
        · exact h2 x z
        · rw [List.mem_singleton.mp z]; exact hn
      · refine List.pairwise_append.mpr ⟨h3, List.pairwise_singleton .., fun a ha b hb => ?_⟩
        rw [List.mem_singleton.mp hb]
        have := List.all_eq_true.mp hf a ha
        simpa using this
    · rintro ⟨h1, h2, h3⟩
      have hne : t ≠ [] := fun z => by rw [z] at h1; cases h1
      have e := List.dropLast_concat_getLast hne
      rw [← e] at h3
      obtain ⟨p1, _, p3⟩ := List.pairwise_append.mp h3
      refine ⟨t.dropLast, (mem_shs k _).mpr ⟨by rw [List.length_dropLast, h1]; rfl, fun x hx => h2 x (List.dropLast_subset t hx), p1⟩, t.getLast hne, ⟨h2 _ (List.getLast_mem hne), ?_⟩, e⟩
      unfold free'
      rw [List.all_eq_true]
      intro o ho
      simpa using p3 o ho _ (List.mem_singleton_self _)
end K78

set_option Elab.async false
set_option linter.all false
set_option maxRecDepth 100000
set_option maxHeartbeats 4000000
set_option autoImplicit false
namespace K78
open PySem PySem.Spec PyProof.Rows L2 Ev
/-! ### payments lie between 0 and the bid -/
theorem del_length {α : Type} {l : List α} {k : Nat} (h : k < l.length) : (del k l).length = l.length - 1 := by
  unfold del
  rw [List.length_append, List.length_take, List.length_drop]; omega
theorem del_sub {α : Type} (k : Nat) (l : List α) : (del k l).Sublist l := by
  induction l generalizing k with
  | nil => simp [del]
  | cons x l ih =>
    cases k with
    | zero => simp [del]
    | succ k =>
      have : del (k + 1) (x :: l) = x :: del k l := by simp [del]
      rw [this]; exact (ih k).cons_cons x
theorem wo_del : ∀ {rows : List (List Int)} {t : List Nat} {k : Nat}, t.length = rows.length → k < rows.length → wo rows t = wo (del k rows) (del k t) + (rows.getD k []).getD (t.getD k 0) 0
  | [], t, k, h, hk => by simp at hk
  | r :: rows, [], k, h, hk => by simp at h
  | r :: rows, n :: t, 0, h, hk => by
    show ((r.getD n 0 :: (rows.zip t).map fun p => p.1.getD p.2 0)).sum = _
    simp only [del, List.sum_cons, List.take_zero, List.nil_append, List.drop_succ_cons, List.drop_zero, List.getD_cons_zero]
    show _ = wo rows t + _
    unfold wo; omega
  | r :: rows, n :: t, k + 1, h, hk => by
    have ih := wo_del (rows := rows) (t := t) (k := k) (by simpa using h) (by simpa using hk)
    have e1 : del (k + 1) (r :: rows) = r :: del k rows := by simp [del]
    have e2 : del (k + 1) (n :: t) = n :: del k t := by simp [del]
    rw [e1, e2]
    show r.getD n 0 + wo rows t = r.getD n 0 + wo (del k rows) (del k t) + _
    rw [ih]
    simp only [List.getD_cons_succ]
    omega
end K78

set_option Elab.async false
set_option linter.all false
set_option maxRecDepth 100000
set_option maxHeartbeats 4000000
set_option autoImplicit false
namespace K78
open PySem PySem.Spec PyProof.Rows L2 Ev
theorem del_shs {s n k : Nat} {t : List Nat} (ht : t ∈ shs s n) (hk : k < n) : del k t ∈ shs s (n - 1) := by
  obtain ⟨h1, h2, h3⟩ := (mem_shs n t).mp ht
  have hs := del_sub k t
  exact (mem_shs _ _).mpr ⟨by rw [del_length (by omega), h1], fun x hx => h2 x (hs.subset hx), List.Pairwise.sublist hs h3⟩
def ins0 (k : Nat) (u : List Nat) : List Nat := u.take k ++ 0 :: u.drop k
theorem ins_shs {s n k : Nat} {u : List Nat} (hs : 0 < s) (hu : u ∈ shs s n) (hk : k ≤ n) : ins0 k u ∈ shs s (n + 1) := by
  obtain ⟨h1, h2, h3⟩ := (mem_shs n u).mp hu
  refine (mem_shs _ _).mpr ⟨by unfold ins0; simp; omega, fun x hx => ?_, ?_⟩
  · unfold ins0 at hx
    rcases List.mem_append.mp hx with z | z
    · exact h2 x (List.mem_of_mem_take z)
    · rcases List.mem_cons.mp z with z | z
      · omega
      · exact h2 x (List.mem_of_mem_drop z)
  · have h3' : (u.take k ++ u.drop k).Pairwise fun a b => a &&& b = 0 := by rw [List.take_append_drop]; exact h3
    obtain ⟨p1, p2, p3⟩ := List.pairwise_append.mp h3'
    refine List.pairwise_append.mpr ⟨p1, List.pairwise_cons.mpr ⟨fun a _ => by simp, p2⟩, fun a ha b hb => ?_⟩
    rcases List.mem_cons.mp hb with z | z
    · rw [z]; simp
    · exact p3 a ha b z
theorem del_ins {k : Nat} {u : List Nat} (hk : k ≤ u.length) : del k (ins0 k u) = u ∧ (ins0 k u).getD k 0 = 0 := by
  have hl : (u.take k).length = k := by rw [List.length_take]; omega
  refine ⟨?_, ?_⟩
  · unfold del ins0
    rw [List.take_append_of_le_length (by omega), List.take_of_length_le (by omega)]
    have e : (u.take k ++ 0 :: u.drop k).drop (k + 1) = u.drop k := by
      rw [List.drop_append, hl]
      simp
      omega
    rw [e, List.take_append_drop]
  · unfold ins0
    simp [List.getD, List.getElem?_append, hl]
/-- no thing, no worth -/
def Zero (rows : List (List Int)) : Prop := ∀ r ∈ rows, r.getD 0 0 = 0
theorem pay_bounds {s k : Nat} {rows : List (List Int)} (hs : 0 < s) (h : Rows s rows) (hz : Zero rows) (hk : k < rows.length) : 0 ≤ pay s rows k ∧ pay s rows k ≤ (rows.getD k []).getD ((bs s rows).getD k 0) 0 := by
  obtain ⟨b1, b2, b3⟩ := bs_is hs rows
  obtain ⟨c1, c2, c3⟩ := bs_is hs (del k rows)
  have ld := del_length hk
  have bl : (bs s rows).length = rows.length := shs_len b2
  have w1 := wo_del (rows := rows) (t := bs s rows) (k := k) bl hk
  have g1 := c3 (del k (bs s rows)) (by rw [ld]; exact del_shs b2 hk)
  rw [ld] at c2
  have cl : (bs s (del k rows)).length = rows.length - 1 := shs_len c2
  have i1 := ins_shs (k := k) hs c2 (by omega)
  rw [show rows.length - 1 + 1 = rows.length by omega] at i1
  have g2 := b3 _ i1
  obtain ⟨d1, d2⟩ := del_ins (k := k) (u := bs s (del k rows)) (by omega)
  have w2 := wo_del (rows := rows) (t := ins0 k (bs s (del k rows))) (k := k) (shs_len i1) hk
  rw [d1, d2] at w2
  have z : (rows.getD k []).getD 0 0 = 0 := by
    have : rows.getD k [] = rows[k] := by simp [List.getD, hk]
    rw [this]; exact hz _ (List.getElem_mem hk)
  rw [z] at w2
  unfold pay
  unfold Vb at *
  omega
end K78

set_option Elab.async false
set_option linter.all false
set_option maxRecDepth 100000
set_option maxHeartbeats 4000000
set_option autoImplicit false
namespace K78
open PySem PySem.Spec PyProof.Rows L2 Ev
/-! ### drawn bids -/
def rowBody : Ss := match f_law_drawn_bids.body with
  | .cons _ (.cons _ (.cons _ (.cons (.for _ _ (.cons _ (.cons (.for _ _ b) _))) _))) => b
  | _ => .nil
/-- a row under way: one number for each set so far, the first 0, none below 0 -/
def RowOk (r : List Int) : Prop := (∀ x ∈ r, 0 ≤ x) ∧ r.getD 0 0 = 0 ∧ 0 < r.length
theorem foldl_max_ge : ∀ (l : List Int) (a : Int), a ≤ l.foldl max a
  | [], a => Int.le_refl _
  | b :: l, a => Int.le_trans (Int.le_max_left a b) (foldl_max_ge l (max a b))
theorem row_step {d i : Nat} {D : PV} {many sets : Nat} {scale rising : Int} {R : PV} {r : List Int} {k : Option PV} {x8 x9 : Option PV} {T : PV → Ev.Env → Prop} {B : Ev.Env → Prop} (hD : Dr D) (hs : 0 ≤ scale) (hsb : scale.natAbs < 2 ^ 80) (hr : RowOk r) (hi : i = r.length) (hl : r.length ≤ 8) :
    wpo (asgT (.nm 8) (.int (i : Int)) [some D, some (.int (many : Int)), some (.int (sets : Int)), some (.int scale), some R, some (.int rising), k, some (.lst true (r.map .int)), x8, x9, none]) fun ρ1 => wps (evSs gl (run (d + 1)) 100000 rowBody ρ1)
      ⟨fun ρ => ∃ D' r' x8 x9, ρ = [some D', some (.int (many : Int)), some (.int (sets : Int)), some (.int scale), some R, some (.int rising), k, some (.lst true (r'.map .int)), x8, x9, none] ∧ Dr D' ∧ RowOk r' ∧ r'.length = r.length + 1, T, B, fun _ => False⟩ := by
  simp only [rowBody, f_law_drawn_bids, ↓reduceIte, ↓w_lit, ↓w_rd, ↓w_vw, ↓w_fz, ↓w_mv, ↓w_bin, ↓w_un, ↓w_cmp, ↓w_sub, ↓w_slc, ↓w_bi, ↓w_isi, ↓w_bm, ↓w_bk, ↓w_frz, ↓w_not, ↓w_ite, ↓w_tup, ↓w_lst, ↓w_mu, ↓w_call, ↓w_lc, ↓w_lc2, ↓w_bop, ↓w_b1, ↓w_b2, ↓w_es0, ↓w_es, ↓w_as0, ↓w_as1, ↓w_as2, ↓w_c0, ↓w_c1, ↓w_seq, ↓w_range1, ↓w_range2, ↓w_enum, ↓w_zip, ↓s_nil, ↓s_one, ↓s_consN, ↓s_set, ↓s_setAt, ↓s_par, ↓s_aug, ↓s_expr, ↓s_ite, ↓s_for, ↓s_ret, ↓s_retN, ↓s_brk, ↓s_cont, ↓s_pass, ↓wpo_some, ↓wp_ok, ↓wpc_ok, ↓wps_nx, ↓wps_rt, ↓wps_bk, ↓wps_ct, ↓wpb_bl, ↓wpi_int, ↓wpo_need, ↓wpo_bind, ↓wpo_map, need_t, getE_0, getE_s, getE_1, getE_2, getE_3, getE_4, getE_5, getE_6, getE_7, getE_8, getE_9, getE_10, getE_11, getE_12, getE_13, getE_14, getE_15, List.set_cons_zero, List.set_cons_succ, asgT, asgTs, unpk, opUn, obSem, opIsi, bmSem, bkSem, Ev.numsOf, isLst, itemsOf, itemsZ, fillAs, backAs, augOp, E.v, E.q, Es.q, Es.vs, As.q, ownOk, PV.pure, pures, PV.frz, frzs, PV.isN, Bool.and_true, Bool.true_and, Bool.or_true, Bool.true_or, Bool.not_true, Bool.not_false, Bool.false_and, Bool.and_false, Bool.or_false, Bool.false_or, List.length_cons, List.length_nil, List.map_cons, List.map_nil, List.replicate, List.cons_append, List.nil_append, true_and, and_true, if_true, Option.isSome_some, backIo, Ev.op_add, Ev.op_sub, Ev.op_mul, Ev.op_div, Ev.op_mod, Ev.op_pow, Ev.op_and, Ev.op_or, Ev.op_lcat, Ev.op_tcat, cmp_lt, cmp_le, cmp_gt, cmp_ge, cmp_is, cmp_isn, sub_t0, sub_t1, sub_t2, sub_l0, sub_l1, sub_l2, sub_tn, sub_ln, eq_self, decide_true, decide_false, exists_eq_left', wipeE, backE, lenOk_0, lenOk_1, lenOk_2, lenOk_3, lenOk_4, lenOk_5, lenOk_6, Nat.reduceAdd, Nat.reduceLT, Nat.reduceLeDiff, Nat.reduceSub, Nat.reduceEqDiff, ne_eq, not_false_eq_true, not_true_eq_false, decide_eq_true_eq, List.mem_cons, List.not_mem_nil, or_false, false_or, true_or, or_true, if_false, Option.map_some, decide_not, decide_true, decide_false, Nat.lt_irrefl, cmp_eq, cmp_ne, cmp_eqb, cmp_neb, List.any_cons, List.any_nil, reduceCtorEq, beq_self_eq_true, Bool.or_self, plainOwn, List.all_cons, List.all_nil, PV.lst.injEq, mu_append, mu_reverse, mu_pop, List.getElem?_cons_succ, List.getElem?_cons_zero, List.getElem?_nil, Option.bind_some, Option.bind_none, id]
  refine wpc_mono (take_t (m := 9) hD (by omega)) ?_
  rintro p l ⟨v, D1, rfl, rfl, hD1, h0, h1⟩
  simp only [↓reduceIte, ↓w_lit, ↓w_rd, ↓w_vw, ↓w_fz, ↓w_mv, ↓w_bin, ↓w_un, ↓w_cmp, ↓w_sub, ↓w_slc, ↓w_bi, ↓w_isi, ↓w_bm, ↓w_bk, ↓w_frz, ↓w_not, ↓w_ite, ↓w_tup, ↓w_lst, ↓w_mu, ↓w_call, ↓w_lc, ↓w_lc2, ↓w_bop, ↓w_b1, ↓w_b2, ↓w_es0, ↓w_es, ↓w_as0, ↓w_as1, ↓w_as2, ↓w_c0, ↓w_c1, ↓w_seq, ↓w_range1, ↓w_range2, ↓w_enum, ↓w_zip, ↓s_nil, ↓s_one, ↓s_consN, ↓s_set, ↓s_setAt, ↓s_par, ↓s_aug, ↓s_expr, ↓s_ite, ↓s_for, ↓s_ret, ↓s_retN, ↓s_brk, ↓s_cont, ↓s_pass, ↓wpo_some, ↓wp_ok, ↓wpc_ok, ↓wps_nx, ↓wps_rt, ↓wps_bk, ↓wps_ct, ↓wpb_bl, ↓wpi_int, ↓wpo_need, ↓wpo_bind, ↓wpo_map, need_t, getE_0, getE_s, getE_1, getE_2, getE_3, getE_4, getE_5, getE_6, getE_7, getE_8, getE_9, getE_10, getE_11, getE_12, getE_13, getE_14, getE_15, List.set_cons_zero, List.set_cons_succ, asgT, asgTs, unpk, opUn, obSem, opIsi, bmSem, bkSem, Ev.numsOf, isLst, itemsOf, itemsZ, fillAs, backAs, augOp, E.v, E.q, Es.q, Es.vs, As.q, ownOk, PV.pure, pures, PV.frz, frzs, PV.isN, Bool.and_true, Bool.true_and, Bool.or_true, Bool.true_or, Bool.not_true, Bool.not_false, Bool.false_and, Bool.and_false, Bool.or_false, Bool.false_or, List.length_cons, List.length_nil, List.map_cons, List.map_nil, List.replicate, List.cons_append, List.nil_append, true_and, and_true, if_true, Option.isSome_some, backIo, Ev.op_add, Ev.op_sub, Ev.op_mul, Ev.op_div, Ev.op_mod, Ev.op_pow, Ev.op_and, Ev.op_or, Ev.op_lcat, Ev.op_tcat, cmp_lt, cmp_le, cmp_gt, cmp_ge, cmp_is, cmp_isn, sub_t0, sub_t1, sub_t2, sub_l0, sub_l1, sub_l2, sub_tn, sub_ln, eq_self, decide_true, decide_false, exists_eq_left', wipeE, backE, lenOk_0, lenOk_1, lenOk_2, lenOk_3, lenOk_4, lenOk_5, lenOk_6, Nat.reduceAdd, Nat.reduceLT, Nat.reduceLeDiff, Nat.reduceSub, Nat.reduceEqDiff, ne_eq, not_false_eq_true, not_true_eq_false, decide_eq_true_eq, List.mem_cons, List.not_mem_nil, or_false, false_or, true_or, or_true, if_false, Option.map_some, decide_not, decide_true, decide_false, Nat.lt_irrefl, cmp_eq, cmp_ne, cmp_eqb, cmp_neb, List.any_cons, List.any_nil, reduceCtorEq, beq_self_eq_true, Bool.or_self, plainOwn, List.all_cons, List.all_nil, PV.lst.injEq, mu_append, mu_reverse, mu_pop, List.getElem?_cons_succ, List.getElem?_cons_zero, List.getElem?_nil, Option.bind_some, Option.bind_none, id]
  have hv : v.natAbs < 2 ^ (9 + 1) := by omega
  have hsb' : scale.natAbs < 2 ^ (79 + 1) := hsb
  have hvs : 0 ≤ v * scale := Int.mul_nonneg h0 hs
  refine ⟨mulOk_of hv hsb' (by omega), ?_⟩
  have fin : ∀ b : Int, 0 ≤ b → ∃ D' r' x8 x9, [some D1, some (.int (many : Int)), some (.int (sets : Int)), some (.int scale), some R, some (.int rising), k, some (.lst true (r.map .int ++ [.int b])), some (.int (i : Int)), some (.int b), none] = [some D', some (.int (many : Int)), some (.int (sets : Int)), some (.int scale), some R, some (.int rising), k, some (.lst true (r'.map .int)), x8, x9, none] ∧ Dr D' ∧ RowOk r' ∧ r'.length = r.length + 1 := fun b hb => by
    obtain ⟨q1, q2, q3⟩ := hr
    refine ⟨D1, r ++ [b], some (.int (i : Int)), some (.int b), by simp, hD1, ⟨fun x hx => ?_, ?_, by simp⟩, by simp⟩
    · rcases List.mem_append.mp hx with z | z
      · exact q1 x z
      · rw [List.mem_singleton.mp z]; exact hb
    · cases r with
      | nil => simp at q3
      | cons x r => simpa using q2
  rw [seqN_app]
  simp only [↓reduceIte, ↓w_lit, ↓w_rd, ↓w_vw, ↓w_fz, ↓w_mv, ↓w_bin, ↓w_un, ↓w_cmp, ↓w_sub, ↓w_slc, ↓w_bi, ↓w_isi, ↓w_bm, ↓w_bk, ↓w_frz, ↓w_not, ↓w_ite, ↓w_tup, ↓w_lst, ↓w_mu, ↓w_call, ↓w_lc, ↓w_lc2, ↓w_bop, ↓w_b1, ↓w_b2, ↓w_es0, ↓w_es, ↓w_as0, ↓w_as1, ↓w_as2, ↓w_c0, ↓w_c1, ↓w_seq, ↓w_range1, ↓w_range2, ↓w_enum, ↓w_zip, ↓s_nil, ↓s_one, ↓s_consN, ↓s_set, ↓s_setAt, ↓s_par, ↓s_aug, ↓s_expr, ↓s_ite, ↓s_for, ↓s_ret, ↓s_retN, ↓s_brk, ↓s_cont, ↓s_pass, ↓wpo_some, ↓wp_ok, ↓wpc_ok, ↓wps_nx, ↓wps_rt, ↓wps_bk, ↓wps_ct, ↓wpb_bl, ↓wpi_int, ↓wpo_need, ↓wpo_bind, ↓wpo_map, need_t, getE_0, getE_s, getE_1, getE_2, getE_3, getE_4, getE_5, getE_6, getE_7, getE_8, getE_9, getE_10, getE_11, getE_12, getE_13, getE_14, getE_15, List.set_cons_zero, List.set_cons_succ, asgT, asgTs, unpk, opUn, obSem, opIsi, bmSem, bkSem, Ev.numsOf, isLst, itemsOf, itemsZ, fillAs, backAs, augOp, E.v, E.q, Es.q, Es.vs, As.q, ownOk, PV.pure, pures, PV.frz, frzs, PV.isN, Bool.and_true, Bool.true_and, Bool.or_true, Bool.true_or, Bool.not_true, Bool.not_false, Bool.false_and, Bool.and_false, Bool.or_false, Bool.false_or, List.length_cons, List.length_nil, List.map_cons, List.map_nil, List.replicate, List.cons_append, List.nil_append, true_and, and_true, if_true, Option.isSome_some, backIo, Ev.op_add, Ev.op_sub, Ev.op_mul, Ev.op_div, Ev.op_mod, Ev.op_pow, Ev.op_and, Ev.op_or, Ev.op_lcat, Ev.op_tcat, cmp_lt, cmp_le, cmp_gt, cmp_ge, cmp_is, cmp_isn, sub_t0, sub_t1, sub_t2, sub_l0, sub_l1, sub_l2, sub_tn, sub_ln, eq_self, decide_true, decide_false, exists_eq_left', wipeE, backE, lenOk_0, lenOk_1, lenOk_2, lenOk_3, lenOk_4, lenOk_5, lenOk_6, Nat.reduceAdd, Nat.reduceLT, Nat.reduceLeDiff, Nat.reduceSub, Nat.reduceEqDiff, ne_eq, not_false_eq_true, not_true_eq_false, decide_eq_true_eq, List.mem_cons, List.not_mem_nil, or_false, false_or, true_or, or_true, if_false, Option.map_some, decide_not, decide_true, decide_false, Nat.lt_irrefl, cmp_eq, cmp_ne, cmp_eqb, cmp_neb, List.any_cons, List.any_nil, reduceCtorEq, beq_self_eq_true, Bool.or_self, plainOwn, List.all_cons, List.all_nil, PV.lst.injEq, mu_append, mu_reverse, mu_pop, List.getElem?_cons_succ, List.getElem?_cons_zero, List.getElem?_nil, Option.bind_some, Option.bind_none, id]
  have app : ∀ b : Int, 0 ≤ b → seqN gl (run (d + 1)) 100000 (.cons (.expr (.mu .append 7 (.cons (.rd 9) .nil))) .nil) ⟨fun ρ => ∃ D' r' x8 x9, ρ = [some D', some (.int (many : Int)), some (.int (sets : Int)), some (.int scale), some R, some (.int rising), k, some (.lst true (r'.map .int)), x8, x9, none] ∧ Dr D' ∧ RowOk r' ∧ r'.length = r.length + 1, T, B, fun _ => False⟩
      [some D1, some (.int (many : Int)), some (.int (sets : Int)), some (.int scale), some R, some (.int rising), k, some (.lst true (r.map .int)), some (.int (i : Int)), some (.int b), none] := fun b hb => by
    rw [seqN_app]
    simp only [↓reduceIte, ↓w_lit, ↓w_rd, ↓w_vw, ↓w_fz, ↓w_mv, ↓w_bin, ↓w_un, ↓w_cmp, ↓w_sub, ↓w_slc, ↓w_bi, ↓w_isi, ↓w_bm, ↓w_bk, ↓w_frz, ↓w_not, ↓w_ite, ↓w_tup, ↓w_lst, ↓w_mu, ↓w_call, ↓w_lc, ↓w_lc2, ↓w_bop, ↓w_b1, ↓w_b2, ↓w_es0, ↓w_es, ↓w_as0, ↓w_as1, ↓w_as2, ↓w_c0, ↓w_c1, ↓w_seq, ↓w_range1, ↓w_range2, ↓w_enum, ↓w_zip, ↓s_nil, ↓s_one, ↓s_consN, ↓s_set, ↓s_setAt, ↓s_par, ↓s_aug, ↓s_expr, ↓s_ite, ↓s_for, ↓s_ret, ↓s_retN, ↓s_brk, ↓s_cont, ↓s_pass, ↓wpo_some, ↓wp_ok, ↓wpc_ok, ↓wps_nx, ↓wps_rt, ↓wps_bk, ↓wps_ct, ↓wpb_bl, ↓wpi_int, ↓wpo_need, ↓wpo_bind, ↓wpo_map, need_t, getE_0, getE_s, getE_1, getE_2, getE_3, getE_4, getE_5, getE_6, getE_7, getE_8, getE_9, getE_10, getE_11, getE_12, getE_13, getE_14, getE_15, List.set_cons_zero, List.set_cons_succ, asgT, asgTs, unpk, opUn, obSem, opIsi, bmSem, bkSem, Ev.numsOf, isLst, itemsOf, itemsZ, fillAs, backAs, augOp, E.v, E.q, Es.q, Es.vs, As.q, ownOk, PV.pure, pures, PV.frz, frzs, PV.isN, Bool.and_true, Bool.true_and, Bool.or_true, Bool.true_or, Bool.not_true, Bool.not_false, Bool.false_and, Bool.and_false, Bool.or_false, Bool.false_or, List.length_cons, List.length_nil, List.map_cons, List.map_nil, List.replicate, List.cons_append, List.nil_append, true_and, and_true, if_true, Option.isSome_some, backIo, Ev.op_add, Ev.op_sub, Ev.op_mul, Ev.op_div, Ev.op_mod, Ev.op_pow, Ev.op_and, Ev.op_or, Ev.op_lcat, Ev.op_tcat, cmp_lt, cmp_le, cmp_gt, cmp_ge, cmp_is, cmp_isn, sub_t0, sub_t1, sub_t2, sub_l0, sub_l1, sub_l2, sub_tn, sub_ln, eq_self, decide_true, decide_false, exists_eq_left', wipeE, backE, lenOk_0, lenOk_1, lenOk_2, lenOk_3, lenOk_4, lenOk_5, lenOk_6, Nat.reduceAdd, Nat.reduceLT, Nat.reduceLeDiff, Nat.reduceSub, Nat.reduceEqDiff, ne_eq, not_false_eq_true, not_true_eq_false, decide_eq_true_eq, List.mem_cons, List.not_mem_nil, or_false, false_or, true_or, or_true, if_false, Option.map_some, decide_not, decide_true, decide_false, Nat.lt_irrefl, cmp_eq, cmp_ne, cmp_eqb, cmp_neb, List.any_cons, List.any_nil, reduceCtorEq, beq_self_eq_true, Bool.or_self, plainOwn, List.all_cons, List.all_nil, PV.lst.injEq, mu_append, mu_reverse, mu_pop, List.getElem?_cons_succ, List.getElem?_cons_zero, List.getElem?_nil, Option.bind_some, Option.bind_none, id, List.length_map]
    exact ⟨by rw [sizeLine_eq]; omega, fin b hb⟩
  refine if_c _ (fun _ => ?_) fun _ => app _ hvs
  rw [rangeP_map]
  refine ⟨bnd_of (by omega), lenOk_of (by simp; omega), ?_⟩
  refine lc_map (fun j : Nat => PV.int (j : Int)) (fun j => if decide (j &&& i = j) = true then [PV.int (r.getD j 0)] else []) (fun ρ => ∃ y, ρ = [some D1, some (.int (many : Int)), some (.int (sets : Int)), some (.int scale), some R, some (.int rising), k, some (.lst true (r.map .int)), some (.int (i : Int)), some (.int (v * scale)), y]) _ ⟨_, rfl⟩ ?_ ?_
  · rintro j hj ρ ⟨y, rfl⟩
    have hj := List.mem_range.mp hj
    have hj2 : j < r.length := by omega
    have fe : decide (((j &&& i : Nat) : Int) = (j : Int)) = decide (j &&& i = j) := decide_eq_decide.mpr ⟨fun h => by omega, fun h => by rw [h]⟩
    simp only [↓reduceIte, ↓w_lit, ↓w_rd, ↓w_vw, ↓w_fz, ↓w_mv, ↓w_bin, ↓w_un, ↓w_cmp, ↓w_sub, ↓w_slc, ↓w_bi, ↓w_isi, ↓w_bm, ↓w_bk, ↓w_frz, ↓w_not, ↓w_ite, ↓w_tup, ↓w_lst, ↓w_mu, ↓w_call, ↓w_lc, ↓w_lc2, ↓w_bop, ↓w_b1, ↓w_b2, ↓w_es0, ↓w_es, ↓w_as0, ↓w_as1, ↓w_as2, ↓w_c0, ↓w_c1, ↓w_seq, ↓w_range1, ↓w_range2, ↓w_enum, ↓w_zip, ↓s_nil, ↓s_one, ↓s_consN, ↓s_set, ↓s_setAt, ↓s_par, ↓s_aug, ↓s_expr, ↓s_ite, ↓s_for, ↓s_ret, ↓s_retN, ↓s_brk, ↓s_cont, ↓s_pass, ↓wpo_some, ↓wp_ok, ↓wpc_ok, ↓wps_nx, ↓wps_rt, ↓wps_bk, ↓wps_ct, ↓wpb_bl, ↓wpi_int, ↓wpo_need, ↓wpo_bind, ↓wpo_map, need_t, getE_0, getE_s, getE_1, getE_2, getE_3, getE_4, getE_5, getE_6, getE_7, getE_8, getE_9, getE_10, getE_11, getE_12, getE_13, getE_14, getE_15, List.set_cons_zero, List.set_cons_succ, asgT, asgTs, unpk, opUn, obSem, opIsi, bmSem, bkSem, Ev.numsOf, isLst, itemsOf, itemsZ, fillAs, backAs, augOp, E.v, E.q, Es.q, Es.vs, As.q, ownOk, PV.pure, pures, PV.frz, frzs, PV.isN, Bool.and_true, Bool.true_and, Bool.or_true, Bool.true_or, Bool.not_true, Bool.not_false, Bool.false_and, Bool.and_false, Bool.or_false, Bool.false_or, List.length_cons, List.length_nil, List.map_cons, List.map_nil, List.replicate, List.cons_append, List.nil_append, true_and, and_true, if_true, Option.isSome_some, backIo, Ev.op_add, Ev.op_sub, Ev.op_mul, Ev.op_div, Ev.op_mod, Ev.op_pow, Ev.op_and, Ev.op_or, Ev.op_lcat, Ev.op_tcat, cmp_lt, cmp_le, cmp_gt, cmp_ge, cmp_is, cmp_isn, sub_t0, sub_t1, sub_t2, sub_l0, sub_l1, sub_l2, sub_tn, sub_ln, eq_self, decide_true, decide_false, exists_eq_left', wipeE, backE, lenOk_0, lenOk_1, lenOk_2, lenOk_3, lenOk_4, lenOk_5, lenOk_6, Nat.reduceAdd, Nat.reduceLT, Nat.reduceLeDiff, Nat.reduceSub, Nat.reduceEqDiff, ne_eq, not_false_eq_true, not_true_eq_false, decide_eq_true_eq, List.mem_cons, List.not_mem_nil, or_false, false_or, true_or, or_true, if_false, Option.map_some, decide_not, decide_true, decide_false, Nat.lt_irrefl, cmp_eq, cmp_ne, cmp_eqb, cmp_neb, List.any_cons, List.any_nil, reduceCtorEq, beq_self_eq_true, Bool.or_self, plainOwn, List.all_cons, List.all_nil, PV.lst.injEq, mu_append, mu_reverse, mu_pop, List.getElem?_cons_succ, List.getElem?_cons_zero, List.getElem?_nil, Option.bind_some, Option.bind_none, id, ↓w_elt, band, fe, sub_LI hj2]
    refine if_c _ (fun z => ?_) fun z => ?_
    · rw [if_pos z]
      exact ⟨by simp [List.getD, hj2], _, rfl⟩
    · rw [if_neg z]
      exact ⟨rfl, _, rfl⟩
  · rintro ρ ⟨y, rfl⟩
    have e : (List.range i).flatMap (fun j => if j &&& i = j then [PV.int (r.getD j 0)] else []) = (((List.range i).filter fun j => decide (j &&& i = j)).map fun j => r.getD j 0).map .int := by
      have := flat_filter (fun j : Nat => decide (j &&& i = j)) (fun j => PV.int (r.getD j 0)) (List.range i)
      simp only [decide_eq_true_eq] at this
      rw [this, List.map_map]; rfl
    have hlen := List.length_filter_le (fun j => decide (j &&& i = j)) (List.range i)
    rw [List.length_range] at hlen
    simp only [e, ↓reduceIte, ↓w_lit, ↓w_rd, ↓w_vw, ↓w_fz, ↓w_mv, ↓w_bin, ↓w_un, ↓w_cmp, ↓w_sub, ↓w_slc, ↓w_bi, ↓w_isi, ↓w_bm, ↓w_bk, ↓w_frz, ↓w_not, ↓w_ite, ↓w_tup, ↓w_lst, ↓w_mu, ↓w_call, ↓w_lc, ↓w_lc2, ↓w_bop, ↓w_b1, ↓w_b2, ↓w_es0, ↓w_es, ↓w_as0, ↓w_as1, ↓w_as2, ↓w_c0, ↓w_c1, ↓w_seq, ↓w_range1, ↓w_range2, ↓w_enum, ↓w_zip, ↓s_nil, ↓s_one, ↓s_consN, ↓s_set, ↓s_setAt, ↓s_par, ↓s_aug, ↓s_expr, ↓s_ite, ↓s_for, ↓s_ret, ↓s_retN, ↓s_brk, ↓s_cont, ↓s_pass, ↓wpo_some, ↓wp_ok, ↓wpc_ok, ↓wps_nx, ↓wps_rt, ↓wps_bk, ↓wps_ct, ↓wpb_bl, ↓wpi_int, ↓wpo_need, ↓wpo_bind, ↓wpo_map, need_t, getE_0, getE_s, getE_1, getE_2, getE_3, getE_4, getE_5, getE_6, getE_7, getE_8, getE_9, getE_10, getE_11, getE_12, getE_13, getE_14, getE_15, List.set_cons_zero, List.set_cons_succ, asgT, asgTs, unpk, opUn, obSem, opIsi, bmSem, bkSem, Ev.numsOf, isLst, itemsOf, itemsZ, fillAs, backAs, augOp, E.v, E.q, Es.q, Es.vs, As.q, ownOk, PV.pure, pures, PV.frz, frzs, PV.isN, Bool.and_true, Bool.true_and, Bool.or_true, Bool.true_or, Bool.not_true, Bool.not_false, Bool.false_and, Bool.and_false, Bool.or_false, Bool.false_or, List.length_cons, List.length_nil, List.map_cons, List.map_nil, List.replicate, List.cons_append, List.nil_append, true_and, and_true, if_true, Option.isSome_some, backIo, Ev.op_add, Ev.op_sub, Ev.op_mul, Ev.op_div, Ev.op_mod, Ev.op_pow, Ev.op_and, Ev.op_or, Ev.op_lcat, Ev.op_tcat, cmp_lt, cmp_le, cmp_gt, cmp_ge, cmp_is, cmp_isn, sub_t0, sub_t1, sub_t2, sub_l0, sub_l1, sub_l2, sub_tn, sub_ln, eq_self, decide_true, decide_false, exists_eq_left', wipeE, backE, lenOk_0, lenOk_1, lenOk_2, lenOk_3, lenOk_4, lenOk_5, lenOk_6, Nat.reduceAdd, Nat.reduceLT, Nat.reduceLeDiff, Nat.reduceSub, Nat.reduceEqDiff, ne_eq, not_false_eq_true, not_true_eq_false, decide_eq_true_eq, List.mem_cons, List.not_mem_nil, or_false, false_or, true_or, or_true, if_false, Option.map_some, decide_not, decide_true, decide_false, Nat.lt_irrefl, cmp_eq, cmp_ne, cmp_eqb, cmp_neb, List.any_cons, List.any_nil, reduceCtorEq, beq_self_eq_true, Bool.or_self, plainOwn, List.all_cons, List.all_nil, PV.lst.injEq, mu_append, mu_reverse, mu_pop, List.getElem?_cons_succ, List.getElem?_cons_zero, List.getElem?_nil, Option.bind_some, Option.bind_none, id, pures_int, List.length_map, asInts, asInts_int, List.set_cons_succ, List.set_cons_zero]
    refine ⟨lenOk_of (by omega), app _ ?_⟩
    unfold big
    rw [if_pos rfl]
    exact Int.le_trans hvs (foldl_max_ge _ _)
end K78

set_option Elab.async false
set_option linter.all false
set_option maxRecDepth 100000
set_option maxHeartbeats 4000000
set_option autoImplicit false
namespace K78
open PySem PySem.Spec PyProof.Rows L2 Ev
theorem rangeP_at (lo n : Nat) : rangeP (lo : Int) n = (List.range' lo n).map fun i : Nat => .int (i : Int) := by
  unfold rangeP
  rw [List.range'_eq_map_range, List.map_map]
  refine List.map_congr_left fun i _ => ?_
  show PV.int _ = PV.int _
  congr 1
theorem RowOk_0 : RowOk [0] := ⟨by simp, rfl, by simp⟩
theorem drawn_t {d many sets : Nat} {M S : Int} {D : PV} (hM : M = (many : Int)) (hS : S = (sets : Int)) (hD : Dr D) (hm : many ≤ 4) (hs : 1 ≤ sets ∧ sets ≤ 8) : wpc (run (d + 3) 19 [D, .int M, .int S]) fun p l => ∃ (rows : List (List Int)) (rising : Int) (D' : PV), p = .lst true [BV rows, .int rising] ∧ l = [D', .int M, .int S] ∧ Dr D' ∧ Rows sets rows ∧ rows.length = many ∧ ∀ r ∈ rows, RowOk r := by
  subst hM; subst hS
  refine w_fn at_law_drawn_bids rfl ?_
  simp only [f_law_drawn_bids, ↓reduceIte, ↓w_lit, ↓w_rd, ↓w_vw, ↓w_fz, ↓w_mv, ↓w_bin, ↓w_un, ↓w_cmp, ↓w_sub, ↓w_slc, ↓w_bi, ↓w_isi, ↓w_bm, ↓w_bk, ↓w_frz, ↓w_not, ↓w_ite, ↓w_tup, ↓w_lst, ↓w_mu, ↓w_call, ↓w_lc, ↓w_lc2, ↓w_bop, ↓w_b1, ↓w_b2, ↓w_es0, ↓w_es, ↓w_as0, ↓w_as1, ↓w_as2, ↓w_c0, ↓w_c1, ↓w_seq, ↓w_range1, ↓w_range2, ↓w_enum, ↓w_zip, ↓s_nil, ↓s_one, ↓s_consN, ↓s_set, ↓s_setAt, ↓s_par, ↓s_aug, ↓s_expr, ↓s_ite, ↓s_for, ↓s_ret, ↓s_retN, ↓s_brk, ↓s_cont, ↓s_pass, ↓wpo_some, ↓wp_ok, ↓wpc_ok, ↓wps_nx, ↓wps_rt, ↓wps_bk, ↓wps_ct, ↓wpb_bl, ↓wpi_int, ↓wpo_need, ↓wpo_bind, ↓wpo_map, need_t, getE_0, getE_s, getE_1, getE_2, getE_3, getE_4, getE_5, getE_6, getE_7, getE_8, getE_9, getE_10, getE_11, getE_12, getE_13, getE_14, getE_15, List.set_cons_zero, List.set_cons_succ, asgT, asgTs, unpk, opUn, obSem, opIsi, bmSem, bkSem, Ev.numsOf, isLst, itemsOf, itemsZ, fillAs, backAs, augOp, E.v, E.q, Es.q, Es.vs, As.q, ownOk, PV.pure, pures, PV.frz, frzs, PV.isN, Bool.and_true, Bool.true_and, Bool.or_true, Bool.true_or, Bool.not_true, Bool.not_false, Bool.false_and, Bool.and_false, Bool.or_false, Bool.false_or, List.length_cons, List.length_nil, List.map_cons, List.map_nil, List.replicate, List.cons_append, List.nil_append, true_and, and_true, if_true, Option.isSome_some, backIo, Ev.op_add, Ev.op_sub, Ev.op_mul, Ev.op_div, Ev.op_mod, Ev.op_pow, Ev.op_and, Ev.op_or, Ev.op_lcat, Ev.op_tcat, cmp_lt, cmp_le, cmp_gt, cmp_ge, cmp_is, cmp_isn, sub_t0, sub_t1, sub_t2, sub_l0, sub_l1, sub_l2, sub_tn, sub_ln, eq_self, decide_true, decide_false, exists_eq_left', wipeE, backE, lenOk_0, lenOk_1, lenOk_2, lenOk_3, lenOk_4, lenOk_5, lenOk_6, Nat.reduceAdd, Nat.reduceLT, Nat.reduceLeDiff, Nat.reduceSub, Nat.reduceEqDiff, ne_eq, not_false_eq_true, not_true_eq_false, decide_eq_true_eq, List.mem_cons, List.not_mem_nil, or_false, false_or, true_or, or_true, if_false, Option.map_some, decide_not, decide_true, decide_false, Nat.lt_irrefl, cmp_eq, cmp_ne, cmp_eqb, cmp_neb, List.any_cons, List.any_nil, reduceCtorEq, beq_self_eq_true, Bool.or_self, plainOwn, List.all_cons, List.all_nil, PV.lst.injEq, mu_append, mu_reverse, mu_pop, List.getElem?_cons_succ, List.getElem?_cons_zero, List.getElem?_nil, Option.bind_some, Option.bind_none, id]
  refine ⟨by decide, ?_⟩
  refine wpc_mono (pick_t (d := d) hD (by simp) rfl) ?_
  rintro p l ⟨D1, hp, rfl, hD1⟩
  have hc : ∃ c : Int, p = .int c ∧ 0 ≤ c ∧ c.natAbs < 2 ^ 80 := by
    simp at hp
    rcases hp with e | e <;> exact ⟨_, e, by decide, by decide⟩
  obtain ⟨scale, rfl, hsc, hsb⟩ := hc
  simp only [↓reduceIte, ↓w_lit, ↓w_rd, ↓w_vw, ↓w_fz, ↓w_mv, ↓w_bin, ↓w_un, ↓w_cmp, ↓w_sub, ↓w_slc, ↓w_bi, ↓w_isi, ↓w_bm, ↓w_bk, ↓w_frz, ↓w_not, ↓w_ite, ↓w_tup, ↓w_lst, ↓w_mu, ↓w_call, ↓w_lc, ↓w_lc2, ↓w_bop, ↓w_b1, ↓w_b2, ↓w_es0, ↓w_es, ↓w_as0, ↓w_as1, ↓w_as2, ↓w_c0, ↓w_c1, ↓w_seq, ↓w_range1, ↓w_range2, ↓w_enum, ↓w_zip, ↓s_nil, ↓s_one, ↓s_consN, ↓s_set, ↓s_setAt, ↓s_par, ↓s_aug, ↓s_expr, ↓s_ite, ↓s_for, ↓s_ret, ↓s_retN, ↓s_brk, ↓s_cont, ↓s_pass, ↓wpo_some, ↓wp_ok, ↓wpc_ok, ↓wps_nx, ↓wps_rt, ↓wps_bk, ↓wps_ct, ↓wpb_bl, ↓wpi_int, ↓wpo_need, ↓wpo_bind, ↓wpo_map, need_t, getE_0, getE_s, getE_1, getE_2, getE_3, getE_4, getE_5, getE_6, getE_7, getE_8, getE_9, getE_10, getE_11, getE_12, getE_13, getE_14, getE_15, List.set_cons_zero, List.set_cons_succ, asgT, asgTs, unpk, opUn, obSem, opIsi, bmSem, bkSem, Ev.numsOf, isLst, itemsOf, itemsZ, fillAs, backAs, augOp, E.v, E.q, Es.q, Es.vs, As.q, ownOk, PV.pure, pures, PV.frz, frzs, PV.isN, Bool.and_true, Bool.true_and, Bool.or_true, Bool.true_or, Bool.not_true, Bool.not_false, Bool.false_and, Bool.and_false, Bool.or_false, Bool.false_or, List.length_cons, List.length_nil, List.map_cons, List.map_nil, List.replicate, List.cons_append, List.nil_append, true_and, and_true, if_true, Option.isSome_some, backIo, Ev.op_add, Ev.op_sub, Ev.op_mul, Ev.op_div, Ev.op_mod, Ev.op_pow, Ev.op_and, Ev.op_or, Ev.op_lcat, Ev.op_tcat, cmp_lt, cmp_le, cmp_gt, cmp_ge, cmp_is, cmp_isn, sub_t0, sub_t1, sub_t2, sub_l0, sub_l1, sub_l2, sub_tn, sub_ln, eq_self, decide_true, decide_false, exists_eq_left', wipeE, backE, lenOk_0, lenOk_1, lenOk_2, lenOk_3, lenOk_4, lenOk_5, lenOk_6, Nat.reduceAdd, Nat.reduceLT, Nat.reduceLeDiff, Nat.reduceSub, Nat.reduceEqDiff, ne_eq, not_false_eq_true, not_true_eq_false, decide_eq_true_eq, List.mem_cons, List.not_mem_nil, or_false, false_or, true_or, or_true, if_false, Option.map_some, decide_not, decide_true, decide_false, Nat.lt_irrefl, cmp_eq, cmp_ne, cmp_eqb, cmp_neb, List.any_cons, List.any_nil, reduceCtorEq, beq_self_eq_true, Bool.or_self, plainOwn, List.all_cons, List.all_nil, PV.lst.injEq, mu_append, mu_reverse, mu_pop, List.getElem?_cons_succ, List.getElem?_cons_zero, List.getElem?_nil, Option.bind_some, Option.bind_none, id]
  rw [seqN_app]
  simp only [↓reduceIte, ↓w_lit, ↓w_rd, ↓w_vw, ↓w_fz, ↓w_mv, ↓w_bin, ↓w_un, ↓w_cmp, ↓w_sub, ↓w_slc, ↓w_bi, ↓w_isi, ↓w_bm, ↓w_bk, ↓w_frz, ↓w_not, ↓w_ite, ↓w_tup, ↓w_lst, ↓w_mu, ↓w_call, ↓w_lc, ↓w_lc2, ↓w_bop, ↓w_b1, ↓w_b2, ↓w_es0, ↓w_es, ↓w_as0, ↓w_as1, ↓w_as2, ↓w_c0, ↓w_c1, ↓w_seq, ↓w_range1, ↓w_range2, ↓w_enum, ↓w_zip, ↓s_nil, ↓s_one, ↓s_consN, ↓s_set, ↓s_setAt, ↓s_par, ↓s_aug, ↓s_expr, ↓s_ite, ↓s_for, ↓s_ret, ↓s_retN, ↓s_brk, ↓s_cont, ↓s_pass, ↓wpo_some, ↓wp_ok, ↓wpc_ok, ↓wps_nx, ↓wps_rt, ↓wps_bk, ↓wps_ct, ↓wpb_bl, ↓wpi_int, ↓wpo_need, ↓wpo_bind, ↓wpo_map, need_t, getE_0, getE_s, getE_1, getE_2, getE_3, getE_4, getE_5, getE_6, getE_7, getE_8, getE_9, getE_10, getE_11, getE_12, getE_13, getE_14, getE_15, List.set_cons_zero, List.set_cons_succ, asgT, asgTs, unpk, opUn, obSem, opIsi, bmSem, bkSem, Ev.numsOf, isLst, itemsOf, itemsZ, fillAs, backAs, augOp, E.v, E.q, Es.q, Es.vs, As.q, ownOk, PV.pure, pures, PV.frz, frzs, PV.isN, Bool.and_true, Bool.true_and, Bool.or_true, Bool.true_or, Bool.not_true, Bool.not_false, Bool.false_and, Bool.and_false, Bool.or_false, Bool.false_or, List.length_cons, List.length_nil, List.map_cons, List.map_nil, List.replicate, List.cons_append, List.nil_append, true_and, and_true, if_true, Option.isSome_some, backIo, Ev.op_add, Ev.op_sub, Ev.op_mul, Ev.op_div, Ev.op_mod, Ev.op_pow, Ev.op_and, Ev.op_or, Ev.op_lcat, Ev.op_tcat, cmp_lt, cmp_le, cmp_gt, cmp_ge, cmp_is, cmp_isn, sub_t0, sub_t1, sub_t2, sub_l0, sub_l1, sub_l2, sub_tn, sub_ln, eq_self, decide_true, decide_false, exists_eq_left', wipeE, backE, lenOk_0, lenOk_1, lenOk_2, lenOk_3, lenOk_4, lenOk_5, lenOk_6, Nat.reduceAdd, Nat.reduceLT, Nat.reduceLeDiff, Nat.reduceSub, Nat.reduceEqDiff, ne_eq, not_false_eq_true, not_true_eq_false, decide_eq_true_eq, List.mem_cons, List.not_mem_nil, or_false, false_or, true_or, or_true, if_false, Option.map_some, decide_not, decide_true, decide_false, Nat.lt_irrefl, cmp_eq, cmp_ne, cmp_eqb, cmp_neb, List.any_cons, List.any_nil, reduceCtorEq, beq_self_eq_true, Bool.or_self, plainOwn, List.all_cons, List.all_nil, PV.lst.injEq, mu_append, mu_reverse, mu_pop, List.getElem?_cons_succ, List.getElem?_cons_zero, List.getElem?_nil, Option.bind_some, Option.bind_none, id]
  rw [seqN_app]
  simp only [↓reduceIte, ↓w_lit, ↓w_rd, ↓w_vw, ↓w_fz, ↓w_mv, ↓w_bin, ↓w_un, ↓w_cmp, ↓w_sub, ↓w_slc, ↓w_bi, ↓w_isi, ↓w_bm, ↓w_bk, ↓w_frz, ↓w_not, ↓w_ite, ↓w_tup, ↓w_lst, ↓w_mu, ↓w_call, ↓w_lc, ↓w_lc2, ↓w_bop, ↓w_b1, ↓w_b2, ↓w_es0, ↓w_es, ↓w_as0, ↓w_as1, ↓w_as2, ↓w_c0, ↓w_c1, ↓w_seq, ↓w_range1, ↓w_range2, ↓w_enum, ↓w_zip, ↓s_nil, ↓s_one, ↓s_consN, ↓s_set, ↓s_setAt, ↓s_par, ↓s_aug, ↓s_expr, ↓s_ite, ↓s_for, ↓s_ret, ↓s_retN, ↓s_brk, ↓s_cont, ↓s_pass, ↓wpo_some, ↓wp_ok, ↓wpc_ok, ↓wps_nx, ↓wps_rt, ↓wps_bk, ↓wps_ct, ↓wpb_bl, ↓wpi_int, ↓wpo_need, ↓wpo_bind, ↓wpo_map, need_t, getE_0, getE_s, getE_1, getE_2, getE_3, getE_4, getE_5, getE_6, getE_7, getE_8, getE_9, getE_10, getE_11, getE_12, getE_13, getE_14, getE_15, List.set_cons_zero, List.set_cons_succ, asgT, asgTs, unpk, opUn, obSem, opIsi, bmSem, bkSem, Ev.numsOf, isLst, itemsOf, itemsZ, fillAs, backAs, augOp, E.v, E.q, Es.q, Es.vs, As.q, ownOk, PV.pure, pures, PV.frz, frzs, PV.isN, Bool.and_true, Bool.true_and, Bool.or_true, Bool.true_or, Bool.not_true, Bool.not_false, Bool.false_and, Bool.and_false, Bool.or_false, Bool.false_or, List.length_cons, List.length_nil, List.map_cons, List.map_nil, List.replicate, List.cons_append, List.nil_append, true_and, and_true, if_true, Option.isSome_some, backIo, Ev.op_add, Ev.op_sub, Ev.op_mul, Ev.op_div, Ev.op_mod, Ev.op_pow, Ev.op_and, Ev.op_or, Ev.op_lcat, Ev.op_tcat, cmp_lt, cmp_le, cmp_gt, cmp_ge, cmp_is, cmp_isn, sub_t0, sub_t1, sub_t2, sub_l0, sub_l1, sub_l2, sub_tn, sub_ln, eq_self, decide_true, decide_false, exists_eq_left', wipeE, backE, lenOk_0, lenOk_1, lenOk_2, lenOk_3, lenOk_4, lenOk_5, lenOk_6, Nat.reduceAdd, Nat.reduceLT, Nat.reduceLeDiff, Nat.reduceSub, Nat.reduceEqDiff, ne_eq, not_false_eq_true, not_true_eq_false, decide_eq_true_eq, List.mem_cons, List.not_mem_nil, or_false, false_or, true_or, or_true, if_false, Option.map_some, decide_not, decide_true, decide_false, Nat.lt_irrefl, cmp_eq, cmp_ne, cmp_eqb, cmp_neb, List.any_cons, List.any_nil, reduceCtorEq, beq_self_eq_true, Bool.or_self, plainOwn, List.all_cons, List.all_nil, PV.lst.injEq, mu_append, mu_reverse, mu_pop, List.getElem?_cons_succ, List.getElem?_cons_zero, List.getElem?_nil, Option.bind_some, Option.bind_none, id]
  refine wpc_mono (take_t (m := 2) hD1 (by omega)) ?_
  rintro p l ⟨rising, D2, rfl, rfl, hD2, _, _⟩
  simp only [↓reduceIte, ↓w_lit, ↓w_rd, ↓w_vw, ↓w_fz, ↓w_mv, ↓w_bin, ↓w_un, ↓w_cmp, ↓w_sub, ↓w_slc, ↓w_bi, ↓w_isi, ↓w_bm, ↓w_bk, ↓w_frz, ↓w_not, ↓w_ite, ↓w_tup, ↓w_lst, ↓w_mu, ↓w_call, ↓w_lc, ↓w_lc2, ↓w_bop, ↓w_b1, ↓w_b2, ↓w_es0, ↓w_es, ↓w_as0, ↓w_as1, ↓w_as2, ↓w_c0, ↓w_c1, ↓w_seq, ↓w_range1, ↓w_range2, ↓w_enum, ↓w_zip, ↓s_nil, ↓s_one, ↓s_consN, ↓s_set, ↓s_setAt, ↓s_par, ↓s_aug, ↓s_expr, ↓s_ite, ↓s_for, ↓s_ret, ↓s_retN, ↓s_brk, ↓s_cont, ↓s_pass, ↓wpo_some, ↓wp_ok, ↓wpc_ok, ↓wps_nx, ↓wps_rt, ↓wps_bk, ↓wps_ct, ↓wpb_bl, ↓wpi_int, ↓wpo_need, ↓wpo_bind, ↓wpo_map, need_t, getE_0, getE_s, getE_1, getE_2, getE_3, getE_4, getE_5, getE_6, getE_7, getE_8, getE_9, getE_10, getE_11, getE_12, getE_13, getE_14, getE_15, List.set_cons_zero, List.set_cons_succ, asgT, asgTs, unpk, opUn, obSem, opIsi, bmSem, bkSem, Ev.numsOf, isLst, itemsOf, itemsZ, fillAs, backAs, augOp, E.v, E.q, Es.q, Es.vs, As.q, ownOk, PV.pure, pures, PV.frz, frzs, PV.isN, Bool.and_true, Bool.true_and, Bool.or_true, Bool.true_or, Bool.not_true, Bool.not_false, Bool.false_and, Bool.and_false, Bool.or_false, Bool.false_or, List.length_cons, List.length_nil, List.map_cons, List.map_nil, List.replicate, List.cons_append, List.nil_append, true_and, and_true, if_true, Option.isSome_some, backIo, Ev.op_add, Ev.op_sub, Ev.op_mul, Ev.op_div, Ev.op_mod, Ev.op_pow, Ev.op_and, Ev.op_or, Ev.op_lcat, Ev.op_tcat, cmp_lt, cmp_le, cmp_gt, cmp_ge, cmp_is, cmp_isn, sub_t0, sub_t1, sub_t2, sub_l0, sub_l1, sub_l2, sub_tn, sub_ln, eq_self, decide_true, decide_false, exists_eq_left', wipeE, backE, lenOk_0, lenOk_1, lenOk_2, lenOk_3, lenOk_4, lenOk_5, lenOk_6, Nat.reduceAdd, Nat.reduceLT, Nat.reduceLeDiff, Nat.reduceSub, Nat.reduceEqDiff, ne_eq, not_false_eq_true, not_true_eq_false, decide_eq_true_eq, List.mem_cons, List.not_mem_nil, or_false, false_or, true_or, or_true, if_false, Option.map_some, decide_not, decide_true, decide_false, Nat.lt_irrefl, cmp_eq, cmp_ne, cmp_eqb, cmp_neb, List.any_cons, List.any_nil, reduceCtorEq, beq_self_eq_true, Bool.or_self, plainOwn, List.all_cons, List.all_nil, PV.lst.injEq, mu_append, mu_reverse, mu_pop, List.getElem?_cons_succ, List.getElem?_cons_zero, List.getElem?_nil, Option.bind_some, Option.bind_none, id]
  rw [seqN_app]
  simp only [↓reduceIte, ↓w_lit, ↓w_rd, ↓w_vw, ↓w_fz, ↓w_mv, ↓w_bin, ↓w_un, ↓w_cmp, ↓w_sub, ↓w_slc, ↓w_bi, ↓w_isi, ↓w_bm, ↓w_bk, ↓w_frz, ↓w_not, ↓w_ite, ↓w_tup, ↓w_lst, ↓w_mu, ↓w_call, ↓w_lc, ↓w_lc2, ↓w_bop, ↓w_b1, ↓w_b2, ↓w_es0, ↓w_es, ↓w_as0, ↓w_as1, ↓w_as2, ↓w_c0, ↓w_c1, ↓w_seq, ↓w_range1, ↓w_range2, ↓w_enum, ↓w_zip, ↓s_nil, ↓s_one, ↓s_consN, ↓s_set, ↓s_setAt, ↓s_par, ↓s_aug, ↓s_expr, ↓s_ite, ↓s_for, ↓s_ret, ↓s_retN, ↓s_brk, ↓s_cont, ↓s_pass, ↓wpo_some, ↓wp_ok, ↓wpc_ok, ↓wps_nx, ↓wps_rt, ↓wps_bk, ↓wps_ct, ↓wpb_bl, ↓wpi_int, ↓wpo_need, ↓wpo_bind, ↓wpo_map, need_t, getE_0, getE_s, getE_1, getE_2, getE_3, getE_4, getE_5, getE_6, getE_7, getE_8, getE_9, getE_10, getE_11, getE_12, getE_13, getE_14, getE_15, List.set_cons_zero, List.set_cons_succ, asgT, asgTs, unpk, opUn, obSem, opIsi, bmSem, bkSem, Ev.numsOf, isLst, itemsOf, itemsZ, fillAs, backAs, augOp, E.v, E.q, Es.q, Es.vs, As.q, ownOk, PV.pure, pures, PV.frz, frzs, PV.isN, Bool.and_true, Bool.true_and, Bool.or_true, Bool.true_or, Bool.not_true, Bool.not_false, Bool.false_and, Bool.and_false, Bool.or_false, Bool.false_or, List.length_cons, List.length_nil, List.map_cons, List.map_nil, List.replicate, List.cons_append, List.nil_append, true_and, and_true, if_true, Option.isSome_some, backIo, Ev.op_add, Ev.op_sub, Ev.op_mul, Ev.op_div, Ev.op_mod, Ev.op_pow, Ev.op_and, Ev.op_or, Ev.op_lcat, Ev.op_tcat, cmp_lt, cmp_le, cmp_gt, cmp_ge, cmp_is, cmp_isn, sub_t0, sub_t1, sub_t2, sub_l0, sub_l1, sub_l2, sub_tn, sub_ln, eq_self, decide_true, decide_false, exists_eq_left', wipeE, backE, lenOk_0, lenOk_1, lenOk_2, lenOk_3, lenOk_4, lenOk_5, lenOk_6, Nat.reduceAdd, Nat.reduceLT, Nat.reduceLeDiff, Nat.reduceSub, Nat.reduceEqDiff, ne_eq, not_false_eq_true, not_true_eq_false, decide_eq_true_eq, List.mem_cons, List.not_mem_nil, or_false, false_or, true_or, or_true, if_false, Option.map_some, decide_not, decide_true, decide_false, Nat.lt_irrefl, cmp_eq, cmp_ne, cmp_eqb, cmp_neb, List.any_cons, List.any_nil, reduceCtorEq, beq_self_eq_true, Bool.or_self, plainOwn, List.all_cons, List.all_nil, PV.lst.injEq, mu_append, mu_reverse, mu_pop, List.getElem?_cons_succ, List.getElem?_cons_zero, List.getElem?_nil, Option.bind_some, Option.bind_none, id]
  refine ⟨bnd_of (by omega), ?_⟩
  refine for_inv (fun xs ρ => (∀ x ∈ xs, ∃ i : Nat, x = .int (i : Int)) ∧ ∃ D' x6 x7 x8 x9, ∃ rows : List (List Int), ρ = [some D', some (.int (many : Int)), some (.int (sets : Int)), some (.int scale), some (.lst true (rows.map RV)), some (.int rising), x6, x7, x8, x9, none] ∧ Dr D' ∧ Rows sets rows ∧ rows.length + xs.length = many ∧ ∀ r ∈ rows, RowOk r) ?_ ?_ _ _ ⟨fun x hx => by
    obtain ⟨i, _, e⟩ := rangeP_mem hx
    exact ⟨i, e⟩, D2, none, none, none, none, [], rfl, hD2, ⟨hs.2, by simp, fun r hr => (nomatch hr)⟩, by rw [rangeP_len]; simp, fun r hr => (nomatch hr)⟩
  · rintro x xs ρ ⟨hx, D', x6, x7, x8, x9, rows, rfl, hD', hR, hl, hok⟩
    obtain ⟨k, rfl⟩ := hx x (List.mem_cons_self ..)
    simp only [↓reduceIte, ↓w_lit, ↓w_rd, ↓w_vw, ↓w_fz, ↓w_mv, ↓w_bin, ↓w_un, ↓w_cmp, ↓w_sub, ↓w_slc, ↓w_bi, ↓w_isi, ↓w_bm, ↓w_bk, ↓w_frz, ↓w_not, ↓w_ite, ↓w_tup, ↓w_lst, ↓w_mu, ↓w_call, ↓w_lc, ↓w_lc2, ↓w_bop, ↓w_b1, ↓w_b2, ↓w_es0, ↓w_es, ↓w_as0, ↓w_as1, ↓w_as2, ↓w_c0, ↓w_c1, ↓w_seq, ↓w_range1, ↓w_range2, ↓w_enum, ↓w_zip, ↓s_nil, ↓s_one, ↓s_consN, ↓s_set, ↓s_setAt, ↓s_par, ↓s_aug, ↓s_expr, ↓s_ite, ↓s_for, ↓s_ret, ↓s_retN, ↓s_brk, ↓s_cont, ↓s_pass, ↓wpo_some, ↓wp_ok, ↓wpc_ok, ↓wps_nx, ↓wps_rt, ↓wps_bk, ↓wps_ct, ↓wpb_bl, ↓wpi_int, ↓wpo_need, ↓wpo_bind, ↓wpo_map, need_t, getE_0, getE_s, getE_1, getE_2, getE_3, getE_4, getE_5, getE_6, getE_7, getE_8, getE_9, getE_10, getE_11, getE_12, getE_13, getE_14, getE_15, List.set_cons_zero, List.set_cons_succ, asgT, asgTs, unpk, opUn, obSem, opIsi, bmSem, bkSem, Ev.numsOf, isLst, itemsOf, itemsZ, fillAs, backAs, augOp, E.v, E.q, Es.q, Es.vs, As.q, ownOk, PV.pure, pures, PV.frz, frzs, PV.isN, Bool.and_true, Bool.true_and, Bool.or_true, Bool.true_or, Bool.not_true, Bool.not_false, Bool.false_and, Bool.and_false, Bool.or_false, Bool.false_or, List.length_cons, List.length_nil, List.map_cons, List.map_nil, List.replicate, List.cons_append, List.nil_append, true_and, and_true, if_true, Option.isSome_some, backIo, Ev.op_add, Ev.op_sub, Ev.op_mul, Ev.op_div, Ev.op_mod, Ev.op_pow, Ev.op_and, Ev.op_or, Ev.op_lcat, Ev.op_tcat, cmp_lt, cmp_le, cmp_gt, cmp_ge, cmp_is, cmp_isn, sub_t0, sub_t1, sub_t2, sub_l0, sub_l1, sub_l2, sub_tn, sub_ln, eq_self, decide_true, decide_false, exists_eq_left', wipeE, backE, lenOk_0, lenOk_1, lenOk_2, lenOk_3, lenOk_4, lenOk_5, lenOk_6, Nat.reduceAdd, Nat.reduceLT, Nat.reduceLeDiff, Nat.reduceSub, Nat.reduceEqDiff, ne_eq, not_false_eq_true, not_true_eq_false, decide_eq_true_eq, List.mem_cons, List.not_mem_nil, or_false, false_or, true_or, or_true, if_false, Option.map_some, decide_not, decide_true, decide_false, Nat.lt_irrefl, cmp_eq, cmp_ne, cmp_eqb, cmp_neb, List.any_cons, List.any_nil, reduceCtorEq, beq_self_eq_true, Bool.or_self, plainOwn, List.all_cons, List.all_nil, PV.lst.injEq, mu_append, mu_reverse, mu_pop, List.getElem?_cons_succ, List.getElem?_cons_zero, List.getElem?_nil, Option.bind_some, Option.bind_none, id]
    rw [seqN_app]
    simp only [↓reduceIte, ↓w_lit, ↓w_rd, ↓w_vw, ↓w_fz, ↓w_mv, ↓w_bin, ↓w_un, ↓w_cmp, ↓w_sub, ↓w_slc, ↓w_bi, ↓w_isi, ↓w_bm, ↓w_bk, ↓w_frz, ↓w_not, ↓w_ite, ↓w_tup, ↓w_lst, ↓w_mu, ↓w_call, ↓w_lc, ↓w_lc2, ↓w_bop, ↓w_b1, ↓w_b2, ↓w_es0, ↓w_es, ↓w_as0, ↓w_as1, ↓w_as2, ↓w_c0, ↓w_c1, ↓w_seq, ↓w_range1, ↓w_range2, ↓w_enum, ↓w_zip, ↓s_nil, ↓s_one, ↓s_consN, ↓s_set, ↓s_setAt, ↓s_par, ↓s_aug, ↓s_expr, ↓s_ite, ↓s_for, ↓s_ret, ↓s_retN, ↓s_brk, ↓s_cont, ↓s_pass, ↓wpo_some, ↓wp_ok, ↓wpc_ok, ↓wps_nx, ↓wps_rt, ↓wps_bk, ↓wps_ct, ↓wpb_bl, ↓wpi_int, ↓wpo_need, ↓wpo_bind, ↓wpo_map, need_t, getE_0, getE_s, getE_1, getE_2, getE_3, getE_4, getE_5, getE_6, getE_7, getE_8, getE_9, getE_10, getE_11, getE_12, getE_13, getE_14, getE_15, List.set_cons_zero, List.set_cons_succ, asgT, asgTs, unpk, opUn, obSem, opIsi, bmSem, bkSem, Ev.numsOf, isLst, itemsOf, itemsZ, fillAs, backAs, augOp, E.v, E.q, Es.q, Es.vs, As.q, ownOk, PV.pure, pures, PV.frz, frzs, PV.isN, Bool.and_true, Bool.true_and, Bool.or_true, Bool.true_or, Bool.not_true, Bool.not_false, Bool.false_and, Bool.and_false, Bool.or_false, Bool.false_or, List.length_cons, List.length_nil, List.map_cons, List.map_nil, List.replicate, List.cons_append, List.nil_append, true_and, and_true, if_true, Option.isSome_some, backIo, Ev.op_add, Ev.op_sub, Ev.op_mul, Ev.op_div, Ev.op_mod, Ev.op_pow, Ev.op_and, Ev.op_or, Ev.op_lcat, Ev.op_tcat, cmp_lt, cmp_le, cmp_gt, cmp_ge, cmp_is, cmp_isn, sub_t0, sub_t1, sub_t2, sub_l0, sub_l1, sub_l2, sub_tn, sub_ln, eq_self, decide_true, decide_false, exists_eq_left', wipeE, backE, lenOk_0, lenOk_1, lenOk_2, lenOk_3, lenOk_4, lenOk_5, lenOk_6, Nat.reduceAdd, Nat.reduceLT, Nat.reduceLeDiff, Nat.reduceSub, Nat.reduceEqDiff, ne_eq, not_false_eq_true, not_true_eq_false, decide_eq_true_eq, List.mem_cons, List.not_mem_nil, or_false, false_or, true_or, or_true, if_false, Option.map_some, decide_not, decide_true, decide_false, Nat.lt_irrefl, cmp_eq, cmp_ne, cmp_eqb, cmp_neb, List.any_cons, List.any_nil, reduceCtorEq, beq_self_eq_true, Bool.or_self, plainOwn, List.all_cons, List.all_nil, PV.lst.injEq, mu_append, mu_reverse, mu_pop, List.getElem?_cons_succ, List.getElem?_cons_zero, List.getElem?_nil, Option.bind_some, Option.bind_none, id]
    have e1 : ((sets : Int) - 1).toNat = sets - 1 := by omega
    refine ⟨by rw [bnd_of (n := sets) (by omega)]; rfl, ?_⟩
    rw [e1]
    refine for_inv (fun xs ρ => ∃ D' x8 x9, ∃ r : List Int, ρ = [some D', some (.int (many : Int)), some (.int (sets : Int)), some (.int scale), some (.lst true (rows.map RV)), some (.int rising), some (.int (k : Int)), some (.lst true (r.map .int)), x8, x9, none] ∧ Dr D' ∧ RowOk r ∧ r.length + xs.length = sets ∧ xs = (List.range' r.length xs.length).map fun i : Nat => .int (i : Int)) ?_ ?_ _ _ ⟨D', x8, x9, [0], rfl, hD', RowOk_0, by rw [rangeP_len]; simp; omega, by rw [rangeP_len]; exact rangeP_at 1 _⟩
    · rintro y ys ρ ⟨D', x8, x9, r, rfl, hD', hr, hlr, hys⟩
      rw [List.length_cons, List.range'_succ, List.map_cons] at hys
      injection hys with h1 h2
      subst h1
      rw [List.length_cons] at hlr
      refine wpo_mono (row_step (d := d + 1) hD' hsc hsb hr rfl (by omega)) fun ρ1 q => wps_mono q ?_ (fun _ _ q => q) (fun _ q => q) (fun _ q => q.elim)
      rintro ρ ⟨D', r', x8, x9, rfl, hD', hr', hl'⟩
      exact ⟨D', x8, x9, r', rfl, hD', hr', by omega, by rw [hl']; exact h2⟩
    · rintro ρ ⟨D', x8, x9, r, rfl, hD', hr, hlr, hys⟩
      dsimp only
      rw [seqN_app]
      have hR2 := hR.2.1
      simp only [↓reduceIte, ↓w_lit, ↓w_rd, ↓w_vw, ↓w_fz, ↓w_mv, ↓w_bin, ↓w_un, ↓w_cmp, ↓w_sub, ↓w_slc, ↓w_bi, ↓w_isi, ↓w_bm, ↓w_bk, ↓w_frz, ↓w_not, ↓w_ite, ↓w_tup, ↓w_lst, ↓w_mu, ↓w_call, ↓w_lc, ↓w_lc2, ↓w_bop, ↓w_b1, ↓w_b2, ↓w_es0, ↓w_es, ↓w_as0, ↓w_as1, ↓w_as2, ↓w_c0, ↓w_c1, ↓w_seq, ↓w_range1, ↓w_range2, ↓w_enum, ↓w_zip, ↓s_nil, ↓s_one, ↓s_consN, ↓s_set, ↓s_setAt, ↓s_par, ↓s_aug, ↓s_expr, ↓s_ite, ↓s_for, ↓s_ret, ↓s_retN, ↓s_brk, ↓s_cont, ↓s_pass, ↓wpo_some, ↓wp_ok, ↓wpc_ok, ↓wps_nx, ↓wps_rt, ↓wps_bk, ↓wps_ct, ↓wpb_bl, ↓wpi_int, ↓wpo_need, ↓wpo_bind, ↓wpo_map, need_t, getE_0, getE_s, getE_1, getE_2, getE_3, getE_4, getE_5, getE_6, getE_7, getE_8, getE_9, getE_10, getE_11, getE_12, getE_13, getE_14, getE_15, List.set_cons_zero, List.set_cons_succ, asgT, asgTs, unpk, opUn, obSem, opIsi, bmSem, bkSem, Ev.numsOf, isLst, itemsOf, itemsZ, fillAs, backAs, augOp, E.v, E.q, Es.q, Es.vs, As.q, ownOk, PV.pure, pures, PV.frz, frzs, PV.isN, Bool.and_true, Bool.true_and, Bool.or_true, Bool.true_or, Bool.not_true, Bool.not_false, Bool.false_and, Bool.and_false, Bool.or_false, Bool.false_or, List.length_cons, List.length_nil, List.map_cons, List.map_nil, List.replicate, List.cons_append, List.nil_append, true_and, and_true, if_true, Option.isSome_some, backIo, Ev.op_add, Ev.op_sub, Ev.op_mul, Ev.op_div, Ev.op_mod, Ev.op_pow, Ev.op_and, Ev.op_or, Ev.op_lcat, Ev.op_tcat, cmp_lt, cmp_le, cmp_gt, cmp_ge, cmp_is, cmp_isn, sub_t0, sub_t1, sub_t2, sub_l0, sub_l1, sub_l2, sub_tn, sub_ln, eq_self, decide_true, decide_false, exists_eq_left', wipeE, backE, lenOk_0, lenOk_1, lenOk_2, lenOk_3, lenOk_4, lenOk_5, lenOk_6, Nat.reduceAdd, Nat.reduceLT, Nat.reduceLeDiff, Nat.reduceSub, Nat.reduceEqDiff, ne_eq, not_false_eq_true, not_true_eq_false, decide_eq_true_eq, List.mem_cons, List.not_mem_nil, or_false, false_or, true_or, or_true, if_false, Option.map_some, decide_not, decide_true, decide_false, Nat.lt_irrefl, cmp_eq, cmp_ne, cmp_eqb, cmp_neb, List.any_cons, List.any_nil, reduceCtorEq, beq_self_eq_true, Bool.or_self, plainOwn, List.all_cons, List.all_nil, PV.lst.injEq, mu_append, mu_reverse, mu_pop, List.getElem?_cons_succ, List.getElem?_cons_zero, List.getElem?_nil, Option.bind_some, Option.bind_none, id, pures_int, List.length_map]
      rw [List.length_cons] at hl
      rw [List.length_nil] at hlr
      refine ⟨by rw [sizeLine_eq]; omega, fun x h => hx x (List.mem_cons_of_mem _ h), D', _, _, _, _, rows ++ [r], by rw [List.map_append]; rfl, hD', ⟨hs.2, ?_, fun q hq => ?_⟩, ?_, fun q hq => ?_⟩
      · rw [List.length_append, List.length_cons, List.length_nil]; omega
      · rcases List.mem_append.mp hq with z | z
        · exact hR.2.2 q z
        · rw [List.mem_singleton.mp z]; omega
      · rw [List.length_append, List.length_cons, List.length_nil]; omega
      · rcases List.mem_append.mp hq with z | z
        · exact hok q z
        · rw [List.mem_singleton.mp z]; exact hr
  · rintro ρ ⟨hx, D', x6, x7, x8, x9, rows, rfl, hD', hR, hl, hok⟩
    dsimp only
    rw [seqN_app]
    simp only [↓reduceIte, ↓w_lit, ↓w_rd, ↓w_vw, ↓w_fz, ↓w_mv, ↓w_bin, ↓w_un, ↓w_cmp, ↓w_sub, ↓w_slc, ↓w_bi, ↓w_isi, ↓w_bm, ↓w_bk, ↓w_frz, ↓w_not, ↓w_ite, ↓w_tup, ↓w_lst, ↓w_mu, ↓w_call, ↓w_lc, ↓w_lc2, ↓w_bop, ↓w_b1, ↓w_b2, ↓w_es0, ↓w_es, ↓w_as0, ↓w_as1, ↓w_as2, ↓w_c0, ↓w_c1, ↓w_seq, ↓w_range1, ↓w_range2, ↓w_enum, ↓w_zip, ↓s_nil, ↓s_one, ↓s_consN, ↓s_set, ↓s_setAt, ↓s_par, ↓s_aug, ↓s_expr, ↓s_ite, ↓s_for, ↓s_ret, ↓s_retN, ↓s_brk, ↓s_cont, ↓s_pass, ↓wpo_some, ↓wp_ok, ↓wpc_ok, ↓wps_nx, ↓wps_rt, ↓wps_bk, ↓wps_ct, ↓wpb_bl, ↓wpi_int, ↓wpo_need, ↓wpo_bind, ↓wpo_map, need_t, getE_0, getE_s, getE_1, getE_2, getE_3, getE_4, getE_5, getE_6, getE_7, getE_8, getE_9, getE_10, getE_11, getE_12, getE_13, getE_14, getE_15, List.set_cons_zero, List.set_cons_succ, asgT, asgTs, unpk, opUn, obSem, opIsi, bmSem, bkSem, Ev.numsOf, isLst, itemsOf, itemsZ, fillAs, backAs, augOp, E.v, E.q, Es.q, Es.vs, As.q, ownOk, PV.pure, pures, PV.frz, frzs, PV.isN, Bool.and_true, Bool.true_and, Bool.or_true, Bool.true_or, Bool.not_true, Bool.not_false, Bool.false_and, Bool.and_false, Bool.or_false, Bool.false_or, List.length_cons, List.length_nil, List.map_cons, List.map_nil, List.replicate, List.cons_append, List.nil_append, true_and, and_true, if_true, Option.isSome_some, backIo, Ev.op_add, Ev.op_sub, Ev.op_mul, Ev.op_div, Ev.op_mod, Ev.op_pow, Ev.op_and, Ev.op_or, Ev.op_lcat, Ev.op_tcat, cmp_lt, cmp_le, cmp_gt, cmp_ge, cmp_is, cmp_isn, sub_t0, sub_t1, sub_t2, sub_l0, sub_l1, sub_l2, sub_tn, sub_ln, eq_self, decide_true, decide_false, exists_eq_left', wipeE, backE, lenOk_0, lenOk_1, lenOk_2, lenOk_3, lenOk_4, lenOk_5, lenOk_6, Nat.reduceAdd, Nat.reduceLT, Nat.reduceLeDiff, Nat.reduceSub, Nat.reduceEqDiff, ne_eq, not_false_eq_true, not_true_eq_false, decide_eq_true_eq, List.mem_cons, List.not_mem_nil, or_false, false_or, true_or, or_true, if_false, Option.map_some, decide_not, decide_true, decide_false, Nat.lt_irrefl, cmp_eq, cmp_ne, cmp_eqb, cmp_neb, List.any_cons, List.any_nil, reduceCtorEq, beq_self_eq_true, Bool.or_self, plainOwn, List.all_cons, List.all_nil, PV.lst.injEq, mu_append, mu_reverse, mu_pop, List.getElem?_cons_succ, List.getElem?_cons_zero, List.getElem?_nil, Option.bind_some, Option.bind_none, id, pures_RV]
    refine ⟨rows, rising, D', ?_, rfl, hD', hR, by simpa using hl, hok⟩
    rfl
end K78

set_option Elab.async false
set_option linter.all false
set_option maxRecDepth 100000
set_option maxHeartbeats 4000000
set_option autoImplicit false
namespace K78
open PySem PySem.Spec PyProof.Rows L2 Ev
/-! ### the greatest number, at least 0 -/
def IsMax0 (l : List Int) (v : Int) : Prop := (∀ x ∈ l, x ≤ v) ∧ 0 ≤ v ∧ (v = 0 ∨ v ∈ l)
theorem IsMax0.uniq {l : List Int} {v w : Int} (h : IsMax0 l v) (k : IsMax0 l w) : v = w := by
  obtain ⟨h1, h2, h3⟩ := h
  obtain ⟨k1, k2, k3⟩ := k
  have a : v ≤ w := by
    rcases h3 with z | z
    · omega
    · exact k1 _ z
  have b : w ≤ v := by
    rcases k3 with z | z
    · omega
    · exact h1 _ z
  omega
theorem foldl_max : ∀ (l : List Int) (a : Int), (∀ x ∈ l, x ≤ l.foldl max a) ∧ a ≤ l.foldl max a ∧ (l.foldl max a = a ∨ l.foldl max a ∈ l)
  | [], a => ⟨fun _ z => (nomatch z), Int.le_refl _, .inl rfl⟩
  | b :: l, a => by
    obtain ⟨h1, h2, h3⟩ := foldl_max l (max a b)
    rw [List.foldl_cons]
    refine ⟨fun x hx => ?_, by omega, ?_⟩
    · rcases List.mem_cons.mp hx with z | z
      · omega
      · exact h1 x z
    · rcases h3 with z | z
      · rw [z]
        rcases Int.le_total a b with y | y
        · right; rw [Int.max_eq_right y]; exact List.mem_cons_self ..
        · left; rw [Int.max_eq_left y]
      · right; exact List.mem_cons_of_mem _ z
theorem bigD_max {l : List Int} (h : ∀ x ∈ l, 0 ≤ x) : IsMax0 l (bigD true 0 l) := by
  cases l with
  | nil => exact ⟨fun _ z => (nomatch z), Int.le_refl _, .inl rfl⟩
  | cons a l =>
    obtain ⟨h1, h2, h3⟩ := foldl_max l a
    have h0 := h a (List.mem_cons_self ..)
    show IsMax0 _ (l.foldl max a)
    refine ⟨fun x hx => ?_, by omega, .inr ?_⟩
    · rcases List.mem_cons.mp hx with z | z
      · omega
      · exact h1 x z
    · rcases h3 with z | z
      · rw [z]; exact List.mem_cons_self ..
      · exact List.mem_cons_of_mem _ z
/-! ### one thing -/
def pl (rows : List (List Int)) : List Int := rows.map fun r => r.getD 1 0
def con (rows : List (List Int)) (t : List Nat) (k : Nat) : Int := (rows.getD k []).getD (t.getD k 0) 0
theorem wo_cons {r : List Int} {rows : List (List Int)} {x : Nat} {t : List Nat} : wo (r :: rows) (x :: t) = r.getD x 0 + wo rows t := rfl
theorem wo_zeros : ∀ {rows : List (List Int)} {t : List Nat}, (∀ r ∈ rows, r.getD 0 0 = 0) → (∀ x ∈ t, x = 0) → wo rows t = 0 ∧ ∀ k, k < rows.length → con rows t k = 0
  | [], t, _, _ => ⟨by cases t <;> rfl, fun k hk => by simp at hk⟩
  | r :: rows, [], h, _ => ⟨rfl, fun k hk => by
      unfold con
      have : (r :: rows).getD k [] ∈ r :: rows := by
        rw [List.getD_eq_getElem?_getD, List.getElem?_eq_getElem hk]; exact List.getElem_mem hk
      exact h _ this⟩
  | r :: rows, x :: t, h, ht => by
    obtain ⟨a, b⟩ := wo_zeros (rows := rows) (t := t) (fun r hr => h r (List.mem_cons_of_mem _ hr)) (fun x hx => ht x (List.mem_cons_of_mem _ hx))
    have hx := ht x (List.mem_cons_self ..)
    have hr := h r (List.mem_cons_self ..)
    subst hx
    refine ⟨by rw [wo_cons, a, hr]; rfl, fun k hk => ?_⟩
    cases k with
    | zero => exact hr
    | succ k => exact b k (by simpa using hk)
theorem lt2 {n : Nat} (h : n < 2) : n = 0 ∨ n = 1 := by omega
theorem one_is : ∀ {rows : List (List Int)} {t : List Nat}, (∀ r ∈ rows, r.getD 0 0 = 0) → t.length = rows.length → (∀ x ∈ t, x < 2) → Apart t →
    wo rows t = 0 ∨ ∃ j, j < rows.length ∧ wo rows t = (pl rows).getD j 0 ∧ ∀ k, k < rows.length → con rows t k = if k = j then (pl rows).getD j 0 else 0
  | [], t, _, _, _, _ => .inl (by cases t <;> rfl)
  | r :: rows, [], _, h, _, _ => by simp at h
  | r :: rows, x :: t, h, hl, hx, ha => by
    obtain ⟨a1, a2⟩ := List.pairwise_cons.mp ha
    have hr := h r (List.mem_cons_self ..)
    have ht := fun y hy => hx y (List.mem_cons_of_mem x hy)
    have hrs := fun r' hr' => h r' (List.mem_cons_of_mem r hr')
    rcases lt2 (hx x (List.mem_cons_self ..)) with z | z
    · subst z
      rcases one_is (rows := rows) (t := t) hrs (by simpa using hl) ht a2 with y | ⟨j, j1, j2, j3⟩
      · left; rw [wo_cons, hr, y]; rfl
      · right
        refine ⟨j + 1, by simpa using j1, by rw [wo_cons, hr, j2, Int.zero_add]; rfl, fun k hk => ?_⟩
        cases k with
        | zero => exact hr
        | succ k =>
          have := j3 k (by simpa using hk)
          show con rows t k = _
          rw [this]
          simp [pl]
    · subst z
      have z0 : ∀ y ∈ t, y = 0 := fun y hy => by
        have h1 := a1 y hy
        rcases lt2 (ht y hy) with z | z
        · exact z
        · subst z; simp at h1
      obtain ⟨b1, b2⟩ := wo_zeros hrs z0
      right
      refine ⟨0, by simp, by rw [wo_cons, b1, Int.add_zero]; rfl, fun k hk => ?_⟩
      cases k with
      | zero => rfl
      | succ k =>
        show con rows t k = _
        rw [b2 k (by simpa using hk)]
        rfl
theorem one_has : ∀ {rows : List (List Int)} {j : Nat}, (∀ r ∈ rows, r.getD 0 0 = 0) → j < rows.length → ∃ t : List Nat, t.length = rows.length ∧ (∀ x ∈ t, x < 2) ∧ Apart t ∧ wo rows t = (pl rows).getD j 0
  | [], j, _, h => by simp at h
  | r :: rows, 0, h, _ => by
    have hrs := fun r' hr' => h r' (List.mem_cons_of_mem r hr')
    have z : ∀ x ∈ List.replicate rows.length 0, x = 0 := fun x hx => List.eq_of_mem_replicate hx
    refine ⟨1 :: List.replicate rows.length 0, by simp, fun x hx => ?_, ?_, ?_⟩
    · rcases List.mem_cons.mp hx with y | y
      · omega
      · have := z x y; omega
    · refine List.pairwise_cons.mpr ⟨fun y hy => by rw [z y hy]; rfl, ?_⟩
      refine List.pairwise_replicate.mpr (.inr rfl)
    · rw [wo_cons, (wo_zeros hrs z).1, Int.add_zero]; rfl
  | r :: rows, j + 1, h, hj => by
    have hrs := fun r' hr' => h r' (List.mem_cons_of_mem r hr')
    obtain ⟨t, t1, t2, t3, t4⟩ := one_has (rows := rows) (j := j) hrs (by simpa using hj)
    refine ⟨0 :: t, by simp [t1], fun x hx => ?_, List.pairwise_cons.mpr ⟨fun y _ => by simp, t3⟩, ?_⟩
    · rcases List.mem_cons.mp hx with y | y
      · omega
      · exact t2 x y
    · rw [wo_cons, t4, h r (List.mem_cons_self ..), Int.zero_add]; rfl
theorem getD_mem {l : List Int} {j : Nat} (h : j < l.length) : l.getD j 0 ∈ l := by
  rw [List.getD_eq_getElem?_getD, List.getElem?_eq_getElem h]; exact List.getElem_mem h
theorem Vb_max {rows : List (List Int)} (h : ∀ r ∈ rows, r.getD 0 0 = 0) : IsMax0 (pl rows) (Vb 2 rows) := by
  obtain ⟨b1, b2, b3⟩ := bs_is (s := 2) (by omega) rows
  obtain ⟨c1, c2, c3⟩ := (mem_shs _ _).mp b2
  refine ⟨fun x hx => ?_, ?_, ?_⟩
  · obtain ⟨j, hj, e⟩ := List.mem_iff_getElem.mp hx
    have hj' : j < rows.length := by simpa [pl] using hj
    obtain ⟨t, t1, t2, t3, t4⟩ := one_has h hj'
    have := b3 t ((mem_shs _ _).mpr ⟨t1, t2, t3⟩)
    rw [t4, List.getD_eq_getElem?_getD, List.getElem?_eq_getElem hj] at this
    simp only [Option.getD_some] at this
    rw [← e]; exact this
  · have z : ∀ x ∈ List.replicate rows.length 0, x = 0 := fun x hx => List.eq_of_mem_replicate hx
    have := b3 (List.replicate rows.length 0) ((mem_shs _ _).mpr ⟨by simp, fun x hx => by have := z x hx; omega, List.pairwise_replicate.mpr (.inr rfl)⟩)
    rw [(wo_zeros h z).1] at this
    exact this
  · rcases one_is h c1 c2 c3 with z | ⟨j, j1, j2, j3⟩
    · left; exact z
    · right
      unfold Vb
      rw [j2]
      exact getD_mem (by simpa [pl] using j1)
theorem count_one : ∀ {l : List Int} {M : Int} {j : Nat}, l.count M = 1 → j < l.length → l.getD j 0 = M → j = l.idxOf M
  | [], M, j, _, h, _ => by simp at h
  | a :: l, M, j, hc, hj, e => by
    by_cases z : a = M
    · subst z
      rw [List.count_cons_self] at hc
      have h0 : l.count a = 0 := by omega
      cases j with
      | zero => simp
      | succ j =>
        exfalso
        have hj' : j < l.length := by simpa using hj
        have e' : l.getD j 0 = a := e
        have := getD_mem hj'
        rw [e'] at this
        exact List.count_eq_zero.mp h0 this
    · rw [List.count_cons_of_ne z] at hc
      cases j with
      | zero => exact absurd e z
      | succ j =>
        have := count_one (l := l) (M := M) (j := j) hc (by simpa using hj) e
        have zb : (a == M) = false := beq_eq_false_iff_ne.mpr z
        rw [List.idxOf_cons, ← this, zb]; rfl
theorem del_map {α β : Type} (f : α → β) (k : Nat) (l : List α) : (del k l).map f = del k (l.map f) := by
  unfold del
  rw [List.map_append, List.map_take, List.map_drop]
theorem mem_del {l : List Int} {w k : Nat} (hw : w < l.length) (h : w ≠ k) : l.getD w 0 ∈ del k l := by
  unfold del
  rw [List.getD_eq_getElem?_getD, List.getElem?_eq_getElem hw, Option.getD_some]
  rcases Nat.lt_or_gt_of_ne h with z | z
  · refine List.mem_append_left _ ?_
    rw [List.mem_take_iff_getElem]
    exact ⟨w, by omega, rfl⟩
  · refine List.mem_append_right _ ?_
    rw [List.mem_drop_iff_getElem]
    exact ⟨w - (k + 1), by omega, by congr 1; omega⟩
theorem del_of {l : List Int} {k : Nat} {x : Int} (h : x ∈ del k l) : x ∈ l := (del_sub k l).subset h
theorem two_case {rows : List (List Int)} {M : Int} (h0 : ∀ r ∈ rows, r.getD 0 0 = 0) (hp : ∀ x ∈ pl rows, 0 ≤ x) (hM : IsMax0 (pl rows) M) (hpos : 0 < M) (hc : (pl rows).count M = 1) :
    ∀ k, k < rows.length → pay 2 rows k = if k = (pl rows).idxOf M then bigD true 0 (del ((pl rows).idxOf M) (pl rows)) else 0 := fun k hk => by
  have pl_len : (pl rows).length = rows.length := by simp [pl]
  obtain ⟨b1, b2, b3⟩ := bs_is (s := 2) (by omega) rows
  obtain ⟨c1, c2, c3⟩ := (mem_shs _ _).mp b2
  have hV : Vb 2 rows = M := (Vb_max h0).uniq hM
  have hd : ∀ k, ∀ r ∈ del k rows, r.getD 0 0 = 0 := fun k r hr => h0 r ((del_sub k rows).subset hr)
  have hVd : ∀ k, IsMax0 (del k (pl rows)) (Vb 2 (del k rows)) := fun k => by
    have := Vb_max (hd k)
    unfold pl at this ⊢
    rwa [del_map] at this
  rcases one_is h0 c1 c2 c3 with z | ⟨j, j1, j2, j3⟩
  · exfalso
    have : Vb 2 rows = 0 := z
    omega
  · have jM : (pl rows).getD j 0 = M := by rw [← j2]; exact hV
    have jw : j = (pl rows).idxOf M := count_one hc (by omega) jM
    have ck := j3 k hk
    unfold con at ck
    unfold pay
    rw [ck, hV, jM, ← jw]
    by_cases z : k = j
    · subst z
      simp only [if_true]
      have e := (hVd k).uniq (bigD_max fun x hx => hp x (del_of hx))
      rw [e]; omega
    · rw [if_neg z, if_neg z]
      have e : Vb 2 (del k rows) = M := (hVd k).uniq ⟨fun x hx => hM.1 x (del_of hx), by omega, .inr (by rw [← jM]; exact mem_del (by omega) (fun y => z y.symm))⟩
      omega
/-! ### second_price -/
theorem secprice_t {d : Nat} {n : Int} {ns : List Int} (hl : ns.length ≤ 1000) : run (d + 1) 0 [RV (n :: ns)] = .ok (.tup [.int (((n :: ns).idxOf (big true n ns) : Nat) : Int), .int (bigD true 0 (del ((n :: ns).idxOf (big true n ns)) (n :: ns)))]) [RV (n :: ns)] := by
  have hm : big true n ns ∈ n :: ns := by
    unfold big
    rw [if_pos rfl]
    rcases (foldl_max ns n).2.2 with z | z
    · rw [z]; exact List.mem_cons_self ..
    · exact List.mem_cons_of_mem _ z
  have hw : (n :: ns).idxOf (big true n ns) < (n :: ns).length := List.idxOf_lt_length_of_mem hm
  generalize hW : (n :: ns).idxOf (big true n ns) = W at hw ⊢
  refine eq_of (w_fn at_second_price rfl ?_)
  simp only [f_second_price, RV, ↓reduceIte, ↓w_lit, ↓w_rd, ↓w_vw, ↓w_fz, ↓w_mv, ↓w_bin, ↓w_un, ↓w_cmp, ↓w_sub, ↓w_slc, ↓w_bi, ↓w_isi, ↓w_bm, ↓w_bk, ↓w_frz, ↓w_not, ↓w_ite, ↓w_tup, ↓w_lst, ↓w_mu, ↓w_call, ↓w_lc, ↓w_lc2, ↓w_bop, ↓w_b1, ↓w_b2, ↓w_es0, ↓w_es, ↓w_as0, ↓w_as1, ↓w_as2, ↓w_c0, ↓w_c1, ↓w_seq, ↓w_range1, ↓w_range2, ↓w_enum, ↓w_zip, ↓s_nil, ↓s_one, ↓s_consN, ↓s_set, ↓s_setAt, ↓s_par, ↓s_aug, ↓s_expr, ↓s_ite, ↓s_for, ↓s_ret, ↓s_retN, ↓s_brk, ↓s_cont, ↓s_pass, ↓wpo_some, ↓wp_ok, ↓wpc_ok, ↓wps_nx, ↓wps_rt, ↓wps_bk, ↓wps_ct, ↓wpb_bl, ↓wpi_int, ↓wpo_need, ↓wpo_bind, ↓wpo_map, need_t, getE_0, getE_s, getE_1, getE_2, getE_3, getE_4, getE_5, getE_6, getE_7, getE_8, getE_9, getE_10, getE_11, getE_12, getE_13, getE_14, getE_15, List.set_cons_zero, List.set_cons_succ, asgT, asgTs, unpk, opUn, obSem, opIsi, bmSem, bkSem, Ev.numsOf, isLst, itemsOf, itemsZ, fillAs, backAs, augOp, E.v, E.q, Es.q, Es.vs, As.q, ownOk, PV.pure, pures, PV.frz, frzs, PV.isN, Bool.and_true, Bool.true_and, Bool.or_true, Bool.true_or, Bool.not_true, Bool.not_false, Bool.false_and, Bool.and_false, Bool.or_false, Bool.false_or, List.length_cons, List.length_nil, List.map_cons, List.map_nil, List.replicate, List.cons_append, List.nil_append, true_and, and_true, if_true, Option.isSome_some, backIo, Ev.op_add, Ev.op_sub, Ev.op_mul, Ev.op_div, Ev.op_mod, Ev.op_pow, Ev.op_and, Ev.op_or, Ev.op_lcat, Ev.op_tcat, cmp_lt, cmp_le, cmp_gt, cmp_ge, cmp_is, cmp_isn, sub_t0, sub_t1, sub_t2, sub_l0, sub_l1, sub_l2, sub_tn, sub_ln, eq_self, decide_true, decide_false, exists_eq_left', wipeE, backE, lenOk_0, lenOk_1, lenOk_2, lenOk_3, lenOk_4, lenOk_5, lenOk_6, Nat.reduceAdd, Nat.reduceLT, Nat.reduceLeDiff, Nat.reduceSub, Nat.reduceEqDiff, ne_eq, not_false_eq_true, not_true_eq_false, decide_eq_true_eq, List.mem_cons, List.not_mem_nil, or_false, false_or, true_or, or_true, if_false, Option.map_some, decide_not, decide_true, decide_false, Nat.lt_irrefl, cmp_eq, cmp_ne, cmp_eqb, cmp_neb, List.any_cons, List.any_nil, reduceCtorEq, beq_self_eq_true, Bool.or_self, plainOwn, List.all_cons, List.all_nil, PV.lst.injEq, mu_append, mu_reverse, mu_pop, List.getElem?_cons_succ, List.getElem?_cons_zero, List.getElem?_nil, Option.bind_some, Option.bind_none, id, pures_int, asInts, asInts_int]
  refine ⟨by simpa using hm, ?_⟩
  rw [seqN_app, hW]
  have s1 : opSlc false true [.tup (.int n :: ns.map .int), .non, .int (W : Int)] = some (RV ((n :: ns).take W)) := by
    rw [← List.map_cons, slc_hi (by simp; simp at hw; omega), ← List.map_take]; rfl
  have s2 : opSlc true false [.tup (.int n :: ns.map .int), .int ((W : Int) + 1), .non] = some (RV ((n :: ns).drop (W + 1))) := by
    have := slc_lo (xs := (n :: ns).map .int) (p := .non) (k := W + 1) (by simp; simp at hw; omega)
    rw [← List.map_drop] at this
    exact this
  simp only [↓reduceIte, ↓w_lit, ↓w_rd, ↓w_vw, ↓w_fz, ↓w_mv, ↓w_bin, ↓w_un, ↓w_cmp, ↓w_sub, ↓w_slc, ↓w_bi, ↓w_isi, ↓w_bm, ↓w_bk, ↓w_frz, ↓w_not, ↓w_ite, ↓w_tup, ↓w_lst, ↓w_mu, ↓w_call, ↓w_lc, ↓w_lc2, ↓w_bop, ↓w_b1, ↓w_b2, ↓w_es0, ↓w_es, ↓w_as0, ↓w_as1, ↓w_as2, ↓w_c0, ↓w_c1, ↓w_seq, ↓w_range1, ↓w_range2, ↓w_enum, ↓w_zip, ↓s_nil, ↓s_one, ↓s_consN, ↓s_set, ↓s_setAt, ↓s_par, ↓s_aug, ↓s_expr, ↓s_ite, ↓s_for, ↓s_ret, ↓s_retN, ↓s_brk, ↓s_cont, ↓s_pass, ↓wpo_some, ↓wp_ok, ↓wpc_ok, ↓wps_nx, ↓wps_rt, ↓wps_bk, ↓wps_ct, ↓wpb_bl, ↓wpi_int, ↓wpo_need, ↓wpo_bind, ↓wpo_map, need_t, getE_0, getE_s, getE_1, getE_2, getE_3, getE_4, getE_5, getE_6, getE_7, getE_8, getE_9, getE_10, getE_11, getE_12, getE_13, getE_14, getE_15, List.set_cons_zero, List.set_cons_succ, asgT, asgTs, unpk, opUn, obSem, opIsi, bmSem, bkSem, Ev.numsOf, isLst, itemsOf, itemsZ, fillAs, backAs, augOp, E.v, E.q, Es.q, Es.vs, As.q, ownOk, PV.pure, pures, PV.frz, frzs, PV.isN, Bool.and_true, Bool.true_and, Bool.or_true, Bool.true_or, Bool.not_true, Bool.not_false, Bool.false_and, Bool.and_false, Bool.or_false, Bool.false_or, List.length_cons, List.length_nil, List.map_cons, List.map_nil, List.replicate, List.cons_append, List.nil_append, true_and, and_true, if_true, Option.isSome_some, backIo, Ev.op_add, Ev.op_sub, Ev.op_mul, Ev.op_div, Ev.op_mod, Ev.op_pow, Ev.op_and, Ev.op_or, Ev.op_lcat, Ev.op_tcat, cmp_lt, cmp_le, cmp_gt, cmp_ge, cmp_is, cmp_isn, sub_t0, sub_t1, sub_t2, sub_l0, sub_l1, sub_l2, sub_tn, sub_ln, eq_self, decide_true, decide_false, exists_eq_left', wipeE, backE, lenOk_0, lenOk_1, lenOk_2, lenOk_3, lenOk_4, lenOk_5, lenOk_6, Nat.reduceAdd, Nat.reduceLT, Nat.reduceLeDiff, Nat.reduceSub, Nat.reduceEqDiff, ne_eq, not_false_eq_true, not_true_eq_false, decide_eq_true_eq, List.mem_cons, List.not_mem_nil, or_false, false_or, true_or, or_true, if_false, Option.map_some, decide_not, decide_true, decide_false, Nat.lt_irrefl, cmp_eq, cmp_ne, cmp_eqb, cmp_neb, List.any_cons, List.any_nil, reduceCtorEq, beq_self_eq_true, Bool.or_self, plainOwn, List.all_cons, List.all_nil, PV.lst.injEq, mu_append, mu_reverse, mu_pop, List.getElem?_cons_succ, List.getElem?_cons_zero, List.getElem?_nil, Option.bind_some, Option.bind_none, id, pures_int, s1, s2]
  simp only [RV, ↓reduceIte, ↓w_lit, ↓w_rd, ↓w_vw, ↓w_fz, ↓w_mv, ↓w_bin, ↓w_un, ↓w_cmp, ↓w_sub, ↓w_slc, ↓w_bi, ↓w_isi, ↓w_bm, ↓w_bk, ↓w_frz, ↓w_not, ↓w_ite, ↓w_tup, ↓w_lst, ↓w_mu, ↓w_call, ↓w_lc, ↓w_lc2, ↓w_bop, ↓w_b1, ↓w_b2, ↓w_es0, ↓w_es, ↓w_as0, ↓w_as1, ↓w_as2, ↓w_c0, ↓w_c1, ↓w_seq, ↓w_range1, ↓w_range2, ↓w_enum, ↓w_zip, ↓s_nil, ↓s_one, ↓s_consN, ↓s_set, ↓s_setAt, ↓s_par, ↓s_aug, ↓s_expr, ↓s_ite, ↓s_for, ↓s_ret, ↓s_retN, ↓s_brk, ↓s_cont, ↓s_pass, ↓wpo_some, ↓wp_ok, ↓wpc_ok, ↓wps_nx, ↓wps_rt, ↓wps_bk, ↓wps_ct, ↓wpb_bl, ↓wpi_int, ↓wpo_need, ↓wpo_bind, ↓wpo_map, need_t, getE_0, getE_s, getE_1, getE_2, getE_3, getE_4, getE_5, getE_6, getE_7, getE_8, getE_9, getE_10, getE_11, getE_12, getE_13, getE_14, getE_15, List.set_cons_zero, List.set_cons_succ, asgT, asgTs, unpk, opUn, obSem, opIsi, bmSem, bkSem, Ev.numsOf, isLst, itemsOf, itemsZ, fillAs, backAs, augOp, E.v, E.q, Es.q, Es.vs, As.q, ownOk, PV.pure, pures, PV.frz, frzs, PV.isN, Bool.and_true, Bool.true_and, Bool.or_true, Bool.true_or, Bool.not_true, Bool.not_false, Bool.false_and, Bool.and_false, Bool.or_false, Bool.false_or, List.length_cons, List.length_nil, List.map_cons, List.map_nil, List.replicate, List.cons_append, List.nil_append, true_and, and_true, if_true, Option.isSome_some, backIo, Ev.op_add, Ev.op_sub, Ev.op_mul, Ev.op_div, Ev.op_mod, Ev.op_pow, Ev.op_and, Ev.op_or, Ev.op_lcat, Ev.op_tcat, cmp_lt, cmp_le, cmp_gt, cmp_ge, cmp_is, cmp_isn, sub_t0, sub_t1, sub_t2, sub_l0, sub_l1, sub_l2, sub_tn, sub_ln, eq_self, decide_true, decide_false, exists_eq_left', wipeE, backE, lenOk_0, lenOk_1, lenOk_2, lenOk_3, lenOk_4, lenOk_5, lenOk_6, Nat.reduceAdd, Nat.reduceLT, Nat.reduceLeDiff, Nat.reduceSub, Nat.reduceEqDiff, ne_eq, not_false_eq_true, not_true_eq_false, decide_eq_true_eq, List.mem_cons, List.not_mem_nil, or_false, false_or, true_or, or_true, if_false, Option.map_some, decide_not, decide_true, decide_false, Nat.lt_irrefl, cmp_eq, cmp_ne, cmp_eqb, cmp_neb, List.any_cons, List.any_nil, reduceCtorEq, beq_self_eq_true, Bool.or_self, plainOwn, List.all_cons, List.all_nil, PV.lst.injEq, mu_append, mu_reverse, mu_pop, List.getElem?_cons_succ, List.getElem?_cons_zero, List.getElem?_nil, Option.bind_some, Option.bind_none, id, pures_int, List.length_map]
  have e : asInts (((n :: ns).take W).map PV.int ++ ((n :: ns).drop (W + 1)).map PV.int) = some (del W (n :: ns)) := by
    rw [← List.map_append, asInts_int]; rfl
  rw [e]
  refine ⟨lenOk_of ?_, rfl⟩
  rw [List.length_take, List.length_drop]
  simp only [List.length_cons] at hw ⊢
  omega
end K78

set_option Elab.async false
set_option linter.all false
set_option maxRecDepth 100000
set_option maxHeartbeats 4000000
set_option autoImplicit false
namespace K78
open PySem PySem.Spec PyProof.Rows L2 Ev
/-! ### the first half -/
theorem TV_RV (t : List Nat) : TV t = RV (t.map fun n : Nat => (n : Int)) := by unfold TV RV; rw [List.map_map]; rfl
theorem same_RV (l : List Int) (h : l.length ≤ 1000) : SameV 2 (RV l) := same_ints l h
theorem same_TV (t : List Nat) (h : t.length ≤ 1000) : SameV 2 (TV t) := by rw [TV_RV]; exact same_RV _ (by rw [List.length_map]; exact h)
theorem dats_blf : ∀ (ps : List PV), (∀ p ∈ ps, p = .bl false) → dats ps = some (ps.map fun _ => .bool false) ∧ PyData.canLayAll0 (ps.map fun _ => .bool false) = true ∧ PyData.depthAll (ps.map fun _ => .bool false) = 0 ∧ (ps.map fun _ => PyData.bool false).any (fun z => PyData.eqv z (.bool true)) = false
  | [], _ => ⟨rfl, rfl, rfl, rfl⟩
  | p :: ps, h => by
    obtain ⟨a, b, c, e⟩ := dats_blf ps fun q hq => h q (List.mem_cons_of_mem _ hq)
    have hp := h p (List.mem_cons_self ..)
    subst hp
    refine ⟨by simp only [dats, PV.dat, a, List.map_cons], by simp only [List.map_cons, PyData.canLayAll0, b]; rfl, by simp only [List.map_cons, PyData.depthAll, c]; rfl, by simp only [List.map_cons, List.any_cons, e]; rfl⟩
theorem in_f {ps : List PV} {w : Bool} (h : ∀ p ∈ ps, p = .bl false) : opCmp .In [.bl true, .lst w ps] = some (.bl false) := by
  obtain ⟨a, b, c, e⟩ := dats_blf ps h
  have sh : SeqAt.shaped (.list (ps.map fun _ => .bool false)) = true := by
    unfold SeqAt.shaped
    show (PyData.canLayAll0 _ && decide (PyData.depthAll _ + 1 ≤ 64)) = true
    rw [b, c]; rfl
  have dl : (PV.lst true ps).dat = some (.list (ps.map fun _ => .bool false)) := by simp only [PV.dat, a]; rfl
  show (match (PV.bl true).dat, (PV.lst true ps).dat with
    | some d, some (.list ds) => need (SeqAt.shaped d && SeqAt.shaped (.list ds)) (some (PV.bl (ds.any fun z => PyData.eqv z d)))
    | _, _ => none) = _
  rw [dl]
  show need (SeqAt.shaped (.bool true) && SeqAt.shaped (.list (ps.map fun _ => .bool false))) (some (PV.bl ((ps.map fun _ => PyData.bool false).any fun z => PyData.eqv z (.bool true)))) = _
  rw [sh, e]; rfl
theorem slc_del_lo {rows : List (List Int)} {k : Nat} (hk : k < rows.length) : opSlc false true [BV rows, .non, .int (k : Int)] = some (BV (rows.take k)) := by
  unfold BV
  rw [slc_hi (by simp; omega), List.map_take]
theorem slc_del_hi {rows : List (List Int)} {k : Nat} (hk : k < rows.length) : opSlc true false [BV rows, .int ((k : Int) + 1), .non] = some (BV (rows.drop (k + 1))) := by
  unfold BV
  have := slc_lo (xs := rows.map RV) (p := .non) (k := k + 1) (by simp; omega)
  rw [List.map_drop]
  simpa using this
theorem cat_BV {a b : List (List Int)} (h : a.length + b.length ≤ 1000) {Q : PV → Prop} (q : Q (BV (a ++ b))) : wpo (opBin .Add [BV a, BV b]) Q := by
  unfold BV
  rw [Ev.op_tcat]
  refine ⟨lenOk_of (by simp; omega), ?_⟩
  rw [← List.map_append]; exact q
theorem slt_lo {t : List Nat} {k : Nat} (hk : k < t.length) : opSlc false true [TV t, .non, .int (k : Int)] = some (TV (t.take k)) := by
  unfold TV
  rw [slc_hi (by simp; omega), List.map_take]
theorem slt_hi {t : List Nat} {k : Nat} (hk : k < t.length) : opSlc true false [TV t, .int ((k : Int) + 1), .non] = some (TV (t.drop (k + 1))) := by
  unfold TV
  have := slc_lo (xs := t.map fun n : Nat => PV.int (n : Int)) (p := .non) (k := k + 1) (by simp; omega)
  rw [List.map_drop]
  simpa using this
theorem cat_TV {a b : List Nat} (h : a.length + b.length ≤ 1000) {Q : PV → Prop} (q : Q (TV (a ++ b))) : wpo (opBin .Add [TV a, TV b]) Q := by
  unfold TV
  rw [Ev.op_tcat]
  refine ⟨lenOk_of (by simp; omega), ?_⟩
  rw [← List.map_append]; exact q
def shBody : Ss := match f_law_first_half.body with
  | .cons _ (.cons (.for _ _ b) _) => b
  | _ => .nil
theorem len_BV (rows : List (List Int)) : obSem .len [BV rows] = some (.int (rows.length : Nat)) := by
  show some (PV.int ((rows.map RV).length : Nat)) = _
  rw [List.length_map]
def FE (ns : List Int) (D : PV) (x2 x3 x4 x5 x6 x7 x8 x9 x10 x11 x12 : Option PV) : Ev.Env := [some (.scr ns), some D, x2, x3, x4, x5, x6, x7, x8, x9, x10, x11, x12, none]
def dropS : Nat → Ss → Ss
  | 0, ss => ss
  | n + 1, .cons _ ss => dropS n ss
  | _ + 1, .nil => .nil
theorem sh_tail {d n s : Nat} {ns : List Int} {D : PV} {rows : List (List Int)} {rising : Int} {x4 x5 x7 x10 x11 x12 : Option PV} {T : PV → Ev.Env → Prop} {Bq : Ev.Env → Prop} (hR : Rows s rows) (hok : ∀ r ∈ rows, RowOk r) (hD : Dr D) (hn : 1 ≤ rows.length) (hs : 2 ≤ s ∧ s ≤ 8) (h5 : okP x5) :
    seqN gl (run (d + 4)) 100000 (dropS 8 shBody)
      ⟨fun ρ => ∃ D' x2 x3 x4 x5 x6 x7 x8 x9 x10 x11 x12, ρ = FE ns D' x2 x3 x4 x5 x6 x7 x8 x9 x10 x11 x12 ∧ Dr D' ∧ okP x5, T, Bq, fun _ => False⟩
      (FE ns D (some (.lst false [.int (n : Int), .int (s : Int)])) (some (TV (bs s rows))) x4 x5 (some (RV ((List.range rows.length).map fun j => pay s rows j))) x7 (some (BV rows)) (some (.int rising)) x10 x11 x12) := by
  rw [seqN_app]
  have hR2 := hR.2.1
  simp only [shBody, f_law_first_half, dropS, FE, ↓reduceIte, ↓w_lit, ↓w_rd, ↓w_vw, ↓w_fz, ↓w_mv, ↓w_bin, ↓w_un, ↓w_cmp, ↓w_sub, ↓w_slc, ↓w_bi, ↓w_isi, ↓w_bm, ↓w_bk, ↓w_frz, ↓w_not, ↓w_ite, ↓w_tup, ↓w_lst, ↓w_mu, ↓w_call, ↓w_lc, ↓w_lc2, ↓w_bop, ↓w_b1, ↓w_b2, ↓w_es0, ↓w_es, ↓w_as0, ↓w_as1, ↓w_as2, ↓w_c0, ↓w_c1, ↓w_seq, ↓w_range1, ↓w_range2, ↓w_enum, ↓w_zip, ↓s_nil, ↓s_one, ↓s_consN, ↓s_set, ↓s_setAt, ↓s_par, ↓s_aug, ↓s_expr, ↓s_ite, ↓s_for, ↓s_ret, ↓s_retN, ↓s_brk, ↓s_cont, ↓s_pass, ↓wpo_some, ↓wp_ok, ↓wpc_ok, ↓wps_nx, ↓wps_rt, ↓wps_bk, ↓wps_ct, ↓wpb_bl, ↓wpi_int, ↓wpo_need, ↓wpo_bind, ↓wpo_map, need_t, getE_0, getE_s, getE_1, getE_2, getE_3, getE_4, getE_5, getE_6, getE_7, getE_8, getE_9, getE_10, getE_11, getE_12, getE_13, getE_14, getE_15, List.set_cons_zero, List.set_cons_succ, asgT, asgTs, unpk, opUn, obSem, opIsi, bmSem, bkSem, Ev.numsOf, isLst, itemsOf, itemsZ, fillAs, backAs, augOp, E.v, E.q, Es.q, Es.vs, As.q, ownOk, PV.pure, pures, PV.frz, frzs, PV.isN, Bool.and_true, Bool.true_and, Bool.or_true, Bool.true_or, Bool.not_true, Bool.not_false, Bool.false_and, Bool.and_false, Bool.or_false, Bool.false_or, List.length_cons, List.length_nil, List.map_cons, List.map_nil, List.replicate, List.cons_append, List.nil_append, true_and, and_true, if_true, Option.isSome_some, backIo, Ev.op_add, Ev.op_sub, Ev.op_mul, Ev.op_div, Ev.op_mod, Ev.op_pow, Ev.op_and, Ev.op_or, Ev.op_lcat, Ev.op_tcat, cmp_lt, cmp_le, cmp_gt, cmp_ge, cmp_is, cmp_isn, sub_t0, sub_t1, sub_t2, sub_l0, sub_l1, sub_l2, sub_tn, sub_ln, eq_self, decide_true, decide_false, exists_eq_left', wipeE, backE, lenOk_0, lenOk_1, lenOk_2, lenOk_3, lenOk_4, lenOk_5, lenOk_6, Nat.reduceAdd, Nat.reduceLT, Nat.reduceLeDiff, Nat.reduceSub, Nat.reduceEqDiff, ne_eq, not_false_eq_true, not_true_eq_false, decide_eq_true_eq, List.mem_cons, List.not_mem_nil, or_false, false_or, true_or, or_true, if_false, Option.map_some, decide_not, decide_true, decide_false, Nat.lt_irrefl, cmp_eq, cmp_ne, cmp_eqb, cmp_neb, List.any_cons, List.any_nil, reduceCtorEq, beq_self_eq_true, Bool.or_self, plainOwn, List.all_cons, List.all_nil, PV.lst.injEq, mu_append, mu_reverse, mu_pop, List.getElem?_cons_succ, List.getElem?_cons_zero, List.getElem?_nil, Option.bind_some, Option.bind_none, id, pure_BV]
  show wpo (itemsOf (.tup (rows.map RV))) _
  simp only [↓reduceIte, ↓w_lit, ↓w_rd, ↓w_vw, ↓w_fz, ↓w_mv, ↓w_bin, ↓w_un, ↓w_cmp, ↓w_sub, ↓w_slc, ↓w_bi, ↓w_isi, ↓w_bm, ↓w_bk, ↓w_frz, ↓w_not, ↓w_ite, ↓w_tup, ↓w_lst, ↓w_mu, ↓w_call, ↓w_lc, ↓w_lc2, ↓w_bop, ↓w_b1, ↓w_b2, ↓w_es0, ↓w_es, ↓w_as0, ↓w_as1, ↓w_as2, ↓w_c0, ↓w_c1, ↓w_seq, ↓w_range1, ↓w_range2, ↓w_enum, ↓w_zip, ↓s_nil, ↓s_one, ↓s_consN, ↓s_set, ↓s_setAt, ↓s_par, ↓s_aug, ↓s_expr, ↓s_ite, ↓s_for, ↓s_ret, ↓s_retN, ↓s_brk, ↓s_cont, ↓s_pass, ↓wpo_some, ↓wp_ok, ↓wpc_ok, ↓wps_nx, ↓wps_rt, ↓wps_bk, ↓wps_ct, ↓wpb_bl, ↓wpi_int, ↓wpo_need, ↓wpo_bind, ↓wpo_map, need_t, getE_0, getE_s, getE_1, getE_2, getE_3, getE_4, getE_5, getE_6, getE_7, getE_8, getE_9, getE_10, getE_11, getE_12, getE_13, getE_14, getE_15, List.set_cons_zero, List.set_cons_succ, asgT, asgTs, unpk, opUn, obSem, opIsi, bmSem, bkSem, Ev.numsOf, isLst, itemsOf, itemsZ, fillAs, backAs, augOp, E.v, E.q, Es.q, Es.vs, As.q, ownOk, PV.pure, pures, PV.frz, frzs, PV.isN, Bool.and_true, Bool.true_and, Bool.or_true, Bool.true_or, Bool.not_true, Bool.not_false, Bool.false_and, Bool.and_false, Bool.or_false, Bool.false_or, List.length_cons, List.length_nil, List.map_cons, List.map_nil, List.replicate, List.cons_append, List.nil_append, true_and, and_true, if_true, Option.isSome_some, backIo, Ev.op_add, Ev.op_sub, Ev.op_mul, Ev.op_div, Ev.op_mod, Ev.op_pow, Ev.op_and, Ev.op_or, Ev.op_lcat, Ev.op_tcat, cmp_lt, cmp_le, cmp_gt, cmp_ge, cmp_is, cmp_isn, sub_t0, sub_t1, sub_t2, sub_l0, sub_l1, sub_l2, sub_tn, sub_ln, eq_self, decide_true, decide_false, exists_eq_left', wipeE, backE, lenOk_0, lenOk_1, lenOk_2, lenOk_3, lenOk_4, lenOk_5, lenOk_6, Nat.reduceAdd, Nat.reduceLT, Nat.reduceLeDiff, Nat.reduceSub, Nat.reduceEqDiff, ne_eq, not_false_eq_true, not_true_eq_false, decide_eq_true_eq, List.mem_cons, List.not_mem_nil, or_false, false_or, true_or, or_true, if_false, Option.map_some, decide_not, decide_true, decide_false, Nat.lt_irrefl, cmp_eq, cmp_ne, cmp_eqb, cmp_neb, List.any_cons, List.any_nil, reduceCtorEq, beq_self_eq_true, Bool.or_self, plainOwn, List.all_cons, List.all_nil, PV.lst.injEq, mu_append, mu_reverse, mu_pop, List.getElem?_cons_succ, List.getElem?_cons_zero, List.getElem?_nil, Option.bind_some, Option.bind_none, id]
  refine ⟨lenOk_of (by simp; omega), ?_⟩
  refine lc_map RV (fun r => [PV.int (r.getD 1 0)]) (fun ρ => ∃ y, ρ = [some (.scr ns), some D, (some (.lst false [.int (n : Int), .int (s : Int)])), (some (TV (bs s rows))), x4, x5, (some (RV ((List.range rows.length).map fun j => pay s rows j))), x7, (some (BV rows)), (some (.int rising)), x10, x11, x12, y]) _ ⟨_, rfl⟩ ?_ ?_
  · rintro r hr ρ ⟨y, rfl⟩
    have h1 : 1 < r.length := by rw [hR.2.2 r hr]; omega
    have sr : opSub [RV r, .int 1] = some (.int (r.getD 1 0)) := sub_RV h1
    simp only [↓reduceIte, ↓w_lit, ↓w_rd, ↓w_vw, ↓w_fz, ↓w_mv, ↓w_bin, ↓w_un, ↓w_cmp, ↓w_sub, ↓w_slc, ↓w_bi, ↓w_isi, ↓w_bm, ↓w_bk, ↓w_frz, ↓w_not, ↓w_ite, ↓w_tup, ↓w_lst, ↓w_mu, ↓w_call, ↓w_lc, ↓w_lc2, ↓w_bop, ↓w_b1, ↓w_b2, ↓w_es0, ↓w_es, ↓w_as0, ↓w_as1, ↓w_as2, ↓w_c0, ↓w_c1, ↓w_seq, ↓w_range1, ↓w_range2, ↓w_enum, ↓w_zip, ↓s_nil, ↓s_one, ↓s_consN, ↓s_set, ↓s_setAt, ↓s_par, ↓s_aug, ↓s_expr, ↓s_ite, ↓s_for, ↓s_ret, ↓s_retN, ↓s_brk, ↓s_cont, ↓s_pass, ↓wpo_some, ↓wp_ok, ↓wpc_ok, ↓wps_nx, ↓wps_rt, ↓wps_bk, ↓wps_ct, ↓wpb_bl, ↓wpi_int, ↓wpo_need, ↓wpo_bind, ↓wpo_map, need_t, getE_0, getE_s, getE_1, getE_2, getE_3, getE_4, getE_5, getE_6, getE_7, getE_8, getE_9, getE_10, getE_11, getE_12, getE_13, getE_14, getE_15, List.set_cons_zero, List.set_cons_succ, asgT, asgTs, unpk, opUn, obSem, opIsi, bmSem, bkSem, Ev.numsOf, isLst, itemsOf, itemsZ, fillAs, backAs, augOp, E.v, E.q, Es.q, Es.vs, As.q, ownOk, PV.pure, pures, PV.frz, frzs, PV.isN, Bool.and_true, Bool.true_and, Bool.or_true, Bool.true_or, Bool.not_true, Bool.not_false, Bool.false_and, Bool.and_false, Bool.or_false, Bool.false_or, List.length_cons, List.length_nil, List.map_cons, List.map_nil, List.replicate, List.cons_append, List.nil_append, true_and, and_true, if_true, Option.isSome_some, backIo, Ev.op_add, Ev.op_sub, Ev.op_mul, Ev.op_div, Ev.op_mod, Ev.op_pow, Ev.op_and, Ev.op_or, Ev.op_lcat, Ev.op_tcat, cmp_lt, cmp_le, cmp_gt, cmp_ge, cmp_is, cmp_isn, sub_t0, sub_t1, sub_t2, sub_l0, sub_l1, sub_l2, sub_tn, sub_ln, eq_self, decide_true, decide_false, exists_eq_left', wipeE, backE, lenOk_0, lenOk_1, lenOk_2, lenOk_3, lenOk_4, lenOk_5, lenOk_6, Nat.reduceAdd, Nat.reduceLT, Nat.reduceLeDiff, Nat.reduceSub, Nat.reduceEqDiff, ne_eq, not_false_eq_true, not_true_eq_false, decide_eq_true_eq, List.mem_cons, List.not_mem_nil, or_false, false_or, true_or, or_true, if_false, Option.map_some, decide_not, decide_true, decide_false, Nat.lt_irrefl, cmp_eq, cmp_ne, cmp_eqb, cmp_neb, List.any_cons, List.any_nil, reduceCtorEq, beq_self_eq_true, Bool.or_self, plainOwn, List.all_cons, List.all_nil, PV.lst.injEq, mu_append, mu_reverse, mu_pop, List.getElem?_cons_succ, List.getElem?_cons_zero, List.getElem?_nil, Option.bind_some, Option.bind_none, id, ↓w_elt, pure_RV, sr]
    exact ⟨_, rfl⟩
  · rintro ρ ⟨y, rfl⟩
    have e : (rows.flatMap fun r => [PV.int (r.getD 1 0)]) = (pl rows).map .int := by unfold pl; rw [List.map_map, List.map_eq_flatMap]; rfl
    rw [e]
    obtain ⟨p0, ps, hp⟩ : ∃ p0 ps, pl rows = p0 :: ps := by
      cases h : pl rows with
      | nil => have := congrArg List.length h; simp [pl] at this; subst this; simp at hn
      | cons a b => exact ⟨a, b, rfl⟩
    rw [hp]
    simp only [↓reduceIte, ↓w_lit, ↓w_rd, ↓w_vw, ↓w_fz, ↓w_mv, ↓w_bin, ↓w_un, ↓w_cmp, ↓w_sub, ↓w_slc, ↓w_bi, ↓w_isi, ↓w_bm, ↓w_bk, ↓w_frz, ↓w_not, ↓w_ite, ↓w_tup, ↓w_lst, ↓w_mu, ↓w_call, ↓w_lc, ↓w_lc2, ↓w_bop, ↓w_b1, ↓w_b2, ↓w_es0, ↓w_es, ↓w_as0, ↓w_as1, ↓w_as2, ↓w_c0, ↓w_c1, ↓w_seq, ↓w_range1, ↓w_range2, ↓w_enum, ↓w_zip, ↓s_nil, ↓s_one, ↓s_consN, ↓s_set, ↓s_setAt, ↓s_par, ↓s_aug, ↓s_expr, ↓s_ite, ↓s_for, ↓s_ret, ↓s_retN, ↓s_brk, ↓s_cont, ↓s_pass, ↓wpo_some, ↓wp_ok, ↓wpc_ok, ↓wps_nx, ↓wps_rt, ↓wps_bk, ↓wps_ct, ↓wpb_bl, ↓wpi_int, ↓wpo_need, ↓wpo_bind, ↓wpo_map, need_t, getE_0, getE_s, getE_1, getE_2, getE_3, getE_4, getE_5, getE_6, getE_7, getE_8, getE_9, getE_10, getE_11, getE_12, getE_13, getE_14, getE_15, List.set_cons_zero, List.set_cons_succ, asgT, asgTs, unpk, opUn, obSem, opIsi, bmSem, bkSem, Ev.numsOf, isLst, itemsOf, itemsZ, fillAs, backAs, augOp, E.v, E.q, Es.q, Es.vs, As.q, ownOk, PV.pure, pures, PV.frz, frzs, PV.isN, Bool.and_true, Bool.true_and, Bool.or_true, Bool.true_or, Bool.not_true, Bool.not_false, Bool.false_and, Bool.and_false, Bool.or_false, Bool.false_or, List.length_cons, List.length_nil, List.map_cons, List.map_nil, List.replicate, List.cons_append, List.nil_append, true_and, and_true, if_true, Option.isSome_some, backIo, Ev.op_add, Ev.op_sub, Ev.op_mul, Ev.op_div, Ev.op_mod, Ev.op_pow, Ev.op_and, Ev.op_or, Ev.op_lcat, Ev.op_tcat, cmp_lt, cmp_le, cmp_gt, cmp_ge, cmp_is, cmp_isn, sub_t0, sub_t1, sub_t2, sub_l0, sub_l1, sub_l2, sub_tn, sub_ln, eq_self, decide_true, decide_false, exists_eq_left', wipeE, backE, lenOk_0, lenOk_1, lenOk_2, lenOk_3, lenOk_4, lenOk_5, lenOk_6, Nat.reduceAdd, Nat.reduceLT, Nat.reduceLeDiff, Nat.reduceSub, Nat.reduceEqDiff, ne_eq, not_false_eq_true, not_true_eq_false, decide_eq_true_eq, List.mem_cons, List.not_mem_nil, or_false, false_or, true_or, or_true, if_false, Option.map_some, decide_not, decide_true, decide_false, Nat.lt_irrefl, cmp_eq, cmp_ne, cmp_eqb, cmp_neb, List.any_cons, List.any_nil, reduceCtorEq, beq_self_eq_true, Bool.or_self, plainOwn, List.all_cons, List.all_nil, PV.lst.injEq, mu_append, mu_reverse, mu_pop, List.getElem?_cons_succ, List.getElem?_cons_zero, List.getElem?_nil, Option.bind_some, Option.bind_none, id, frzs_int]
    rw [seqN_app]
    have W := secprice_t (d := d + 3) (n := p0) (ns := ps) (by have := congrArg List.length hp; simp [pl] at this; omega)
    have pl_len : (pl rows).length = rows.length := by simp [pl]
    simp only [RV, List.map_cons] at W
    simp only [↓reduceIte, ↓w_lit, ↓w_rd, ↓w_vw, ↓w_fz, ↓w_mv, ↓w_bin, ↓w_un, ↓w_cmp, ↓w_sub, ↓w_slc, ↓w_bi, ↓w_isi, ↓w_bm, ↓w_bk, ↓w_frz, ↓w_not, ↓w_ite, ↓w_tup, ↓w_lst, ↓w_mu, ↓w_call, ↓w_lc, ↓w_lc2, ↓w_bop, ↓w_b1, ↓w_b2, ↓w_es0, ↓w_es, ↓w_as0, ↓w_as1, ↓w_as2, ↓w_c0, ↓w_c1, ↓w_seq, ↓w_range1, ↓w_range2, ↓w_enum, ↓w_zip, ↓s_nil, ↓s_one, ↓s_consN, ↓s_set, ↓s_setAt, ↓s_par, ↓s_aug, ↓s_expr, ↓s_ite, ↓s_for, ↓s_ret, ↓s_retN, ↓s_brk, ↓s_cont, ↓s_pass, ↓wpo_some, ↓wp_ok, ↓wpc_ok, ↓wps_nx, ↓wps_rt, ↓wps_bk, ↓wps_ct, ↓wpb_bl, ↓wpi_int, ↓wpo_need, ↓wpo_bind, ↓wpo_map, need_t, getE_0, getE_s, getE_1, getE_2, getE_3, getE_4, getE_5, getE_6, getE_7, getE_8, getE_9, getE_10, getE_11, getE_12, getE_13, getE_14, getE_15, List.set_cons_zero, List.set_cons_succ, asgT, asgTs, unpk, opUn, obSem, opIsi, bmSem, bkSem, Ev.numsOf, isLst, itemsOf, itemsZ, fillAs, backAs, augOp, E.v, E.q, Es.q, Es.vs, As.q, ownOk, PV.pure, pures, PV.frz, frzs, PV.isN, Bool.and_true, Bool.true_and, Bool.or_true, Bool.true_or, Bool.not_true, Bool.not_false, Bool.false_and, Bool.and_false, Bool.or_false, Bool.false_or, List.length_cons, List.length_nil, List.map_cons, List.map_nil, List.replicate, List.cons_append, List.nil_append, true_and, and_true, if_true, Option.isSome_some, backIo, Ev.op_add, Ev.op_sub, Ev.op_mul, Ev.op_div, Ev.op_mod, Ev.op_pow, Ev.op_and, Ev.op_or, Ev.op_lcat, Ev.op_tcat, cmp_lt, cmp_le, cmp_gt, cmp_ge, cmp_is, cmp_isn, sub_t0, sub_t1, sub_t2, sub_l0, sub_l1, sub_l2, sub_tn, sub_ln, eq_self, decide_true, decide_false, exists_eq_left', wipeE, backE, lenOk_0, lenOk_1, lenOk_2, lenOk_3, lenOk_4, lenOk_5, lenOk_6, Nat.reduceAdd, Nat.reduceLT, Nat.reduceLeDiff, Nat.reduceSub, Nat.reduceEqDiff, ne_eq, not_false_eq_true, not_true_eq_false, decide_eq_true_eq, List.mem_cons, List.not_mem_nil, or_false, false_or, true_or, or_true, if_false, Option.map_some, decide_not, decide_true, decide_false, Nat.lt_irrefl, cmp_eq, cmp_ne, cmp_eqb, cmp_neb, List.any_cons, List.any_nil, reduceCtorEq, beq_self_eq_true, Bool.or_self, plainOwn, List.all_cons, List.all_nil, PV.lst.injEq, mu_append, mu_reverse, mu_pop, List.getElem?_cons_succ, List.getElem?_cons_zero, List.getElem?_nil, Option.bind_some, Option.bind_none, id, pures_int, asInts, asInts_int, frzs_int]
    have fin : ∀ x7 x12, ∃ D' y2 y3 y4 y5 y6 y7 y8 y9 y10 y11 y12, [some (PV.scr ns), some D, some (PV.lst false [PV.int (n : Int), PV.int (s : Int)]), some (TV (bs s rows)), x4, x5, some (RV (List.map (fun j => pay s rows j) (List.range rows.length))), x7, some (BV rows), some (PV.int rising), x10, x11, x12, none] = [some (PV.scr ns), some D', y2, y3, y4, y5, y6, y7, y8, y9, y10, y11, y12, none] ∧ Dr D' ∧ okP y5 := fun x7 x12 => ⟨D, _, _, _, x5, _, _, _, _, _, _, _, rfl, hD, h5⟩
    refine if_c _ (fun hs2 => ?_) fun z => by rw [if_neg z]; exact fin _ _
    refine if_c _ (fun hpos => ?_) fun z => by rw [if_neg z]; exact fin _ _
    refine if_c _ (fun hc => ?_) fun z => by first | exact fin _ _ | (rw [if_neg z]; exact fin _ _)
    rw [W]
    simp only [↓reduceIte, ↓w_lit, ↓w_rd, ↓w_vw, ↓w_fz, ↓w_mv, ↓w_bin, ↓w_un, ↓w_cmp, ↓w_sub, ↓w_slc, ↓w_bi, ↓w_isi, ↓w_bm, ↓w_bk, ↓w_frz, ↓w_not, ↓w_ite, ↓w_tup, ↓w_lst, ↓w_mu, ↓w_call, ↓w_lc, ↓w_lc2, ↓w_bop, ↓w_b1, ↓w_b2, ↓w_es0, ↓w_es, ↓w_as0, ↓w_as1, ↓w_as2, ↓w_c0, ↓w_c1, ↓w_seq, ↓w_range1, ↓w_range2, ↓w_enum, ↓w_zip, ↓s_nil, ↓s_one, ↓s_consN, ↓s_set, ↓s_setAt, ↓s_par, ↓s_aug, ↓s_expr, ↓s_ite, ↓s_for, ↓s_ret, ↓s_retN, ↓s_brk, ↓s_cont, ↓s_pass, ↓wpo_some, ↓wp_ok, ↓wpc_ok, ↓wps_nx, ↓wps_rt, ↓wps_bk, ↓wps_ct, ↓wpb_bl, ↓wpi_int, ↓wpo_need, ↓wpo_bind, ↓wpo_map, need_t, getE_0, getE_s, getE_1, getE_2, getE_3, getE_4, getE_5, getE_6, getE_7, getE_8, getE_9, getE_10, getE_11, getE_12, getE_13, getE_14, getE_15, List.set_cons_zero, List.set_cons_succ, asgT, asgTs, unpk, opUn, obSem, opIsi, bmSem, bkSem, Ev.numsOf, isLst, itemsOf, itemsZ, fillAs, backAs, augOp, E.v, E.q, Es.q, Es.vs, As.q, ownOk, PV.pure, pures, PV.frz, frzs, PV.isN, Bool.and_true, Bool.true_and, Bool.or_true, Bool.true_or, Bool.not_true, Bool.not_false, Bool.false_and, Bool.and_false, Bool.or_false, Bool.false_or, List.length_cons, List.length_nil, List.map_cons, List.map_nil, List.replicate, List.cons_append, List.nil_append, true_and, and_true, if_true, Option.isSome_some, backIo, Ev.op_add, Ev.op_sub, Ev.op_mul, Ev.op_div, Ev.op_mod, Ev.op_pow, Ev.op_and, Ev.op_or, Ev.op_lcat, Ev.op_tcat, cmp_lt, cmp_le, cmp_gt, cmp_ge, cmp_is, cmp_isn, sub_t0, sub_t1, sub_t2, sub_l0, sub_l1, sub_l2, sub_tn, sub_ln, eq_self, decide_true, decide_false, exists_eq_left', wipeE, backE, lenOk_0, lenOk_1, lenOk_2, lenOk_3, lenOk_4, lenOk_5, lenOk_6, Nat.reduceAdd, Nat.reduceLT, Nat.reduceLeDiff, Nat.reduceSub, Nat.reduceEqDiff, ne_eq, not_false_eq_true, not_true_eq_false, decide_eq_true_eq, List.mem_cons, List.not_mem_nil, or_false, false_or, true_or, or_true, if_false, Option.map_some, decide_not, decide_true, decide_false, Nat.lt_irrefl, cmp_eq, cmp_ne, cmp_eqb, cmp_neb, List.any_cons, List.any_nil, reduceCtorEq, beq_self_eq_true, Bool.or_self, plainOwn, List.all_cons, List.all_nil, PV.lst.injEq, mu_append, mu_reverse, mu_pop, List.getElem?_cons_succ, List.getElem?_cons_zero, List.getElem?_nil, Option.bind_some, Option.bind_none, id, pures_int, asInts, asInts_int, frzs_int]
    rw [seqN_app]
    simp only [↓reduceIte, ↓w_lit, ↓w_rd, ↓w_vw, ↓w_fz, ↓w_mv, ↓w_bin, ↓w_un, ↓w_cmp, ↓w_sub, ↓w_slc, ↓w_bi, ↓w_isi, ↓w_bm, ↓w_bk, ↓w_frz, ↓w_not, ↓w_ite, ↓w_tup, ↓w_lst, ↓w_mu, ↓w_call, ↓w_lc, ↓w_lc2, ↓w_bop, ↓w_b1, ↓w_b2, ↓w_es0, ↓w_es, ↓w_as0, ↓w_as1, ↓w_as2, ↓w_c0, ↓w_c1, ↓w_seq, ↓w_range1, ↓w_range2, ↓w_enum, ↓w_zip, ↓s_nil, ↓s_one, ↓s_consN, ↓s_set, ↓s_setAt, ↓s_par, ↓s_aug, ↓s_expr, ↓s_ite, ↓s_for, ↓s_ret, ↓s_retN, ↓s_brk, ↓s_cont, ↓s_pass, ↓wpo_some, ↓wp_ok, ↓wpc_ok, ↓wps_nx, ↓wps_rt, ↓wps_bk, ↓wps_ct, ↓wpb_bl, ↓wpi_int, ↓wpo_need, ↓wpo_bind, ↓wpo_map, need_t, getE_0, getE_s, getE_1, getE_2, getE_3, getE_4, getE_5, getE_6, getE_7, getE_8, getE_9, getE_10, getE_11, getE_12, getE_13, getE_14, getE_15, List.set_cons_zero, List.set_cons_succ, asgT, asgTs, unpk, opUn, obSem, opIsi, bmSem, bkSem, Ev.numsOf, isLst, itemsOf, itemsZ, fillAs, backAs, augOp, E.v, E.q, Es.q, Es.vs, As.q, ownOk, PV.pure, pures, PV.frz, frzs, PV.isN, Bool.and_true, Bool.true_and, Bool.or_true, Bool.true_or, Bool.not_true, Bool.not_false, Bool.false_and, Bool.and_false, Bool.or_false, Bool.false_or, List.length_cons, List.length_nil, List.map_cons, List.map_nil, List.replicate, List.cons_append, List.nil_append, true_and, and_true, if_true, Option.isSome_some, backIo, Ev.op_add, Ev.op_sub, Ev.op_mul, Ev.op_div, Ev.op_mod, Ev.op_pow, Ev.op_and, Ev.op_or, Ev.op_lcat, Ev.op_tcat, cmp_lt, cmp_le, cmp_gt, cmp_ge, cmp_is, cmp_isn, sub_t0, sub_t1, sub_t2, sub_l0, sub_l1, sub_l2, sub_tn, sub_ln, eq_self, decide_true, decide_false, exists_eq_left', wipeE, backE, lenOk_0, lenOk_1, lenOk_2, lenOk_3, lenOk_4, lenOk_5, lenOk_6, Nat.reduceAdd, Nat.reduceLT, Nat.reduceLeDiff, Nat.reduceSub, Nat.reduceEqDiff, ne_eq, not_false_eq_true, not_true_eq_false, decide_eq_true_eq, List.mem_cons, List.not_mem_nil, or_false, false_or, true_or, or_true, if_false, Option.map_some, decide_not, decide_true, decide_false, Nat.lt_irrefl, cmp_eq, cmp_ne, cmp_eqb, cmp_neb, List.any_cons, List.any_nil, reduceCtorEq, beq_self_eq_true, Bool.or_self, plainOwn, List.all_cons, List.all_nil, PV.lst.injEq, mu_append, mu_reverse, mu_pop, List.getElem?_cons_succ, List.getElem?_cons_zero, List.getElem?_nil, Option.bind_some, Option.bind_none, id, pures_int, asInts, asInts_int, frzs_int, pure_BV, pure_RV, frz_RV]
    show wpo (obSem .len [BV rows]) _
    rw [len_BV]
    simp only [↓reduceIte, ↓w_lit, ↓w_rd, ↓w_vw, ↓w_fz, ↓w_mv, ↓w_bin, ↓w_un, ↓w_cmp, ↓w_sub, ↓w_slc, ↓w_bi, ↓w_isi, ↓w_bm, ↓w_bk, ↓w_frz, ↓w_not, ↓w_ite, ↓w_tup, ↓w_lst, ↓w_mu, ↓w_call, ↓w_lc, ↓w_lc2, ↓w_bop, ↓w_b1, ↓w_b2, ↓w_es0, ↓w_es, ↓w_as0, ↓w_as1, ↓w_as2, ↓w_c0, ↓w_c1, ↓w_seq, ↓w_range1, ↓w_range2, ↓w_enum, ↓w_zip, ↓s_nil, ↓s_one, ↓s_consN, ↓s_set, ↓s_setAt, ↓s_par, ↓s_aug, ↓s_expr, ↓s_ite, ↓s_for, ↓s_ret, ↓s_retN, ↓s_brk, ↓s_cont, ↓s_pass, ↓wpo_some, ↓wp_ok, ↓wpc_ok, ↓wps_nx, ↓wps_rt, ↓wps_bk, ↓wps_ct, ↓wpb_bl, ↓wpi_int, ↓wpo_need, ↓wpo_bind, ↓wpo_map, need_t, getE_0, getE_s, getE_1, getE_2, getE_3, getE_4, getE_5, getE_6, getE_7, getE_8, getE_9, getE_10, getE_11, getE_12, getE_13, getE_14, getE_15, List.set_cons_zero, List.set_cons_succ, asgT, asgTs, unpk, opUn, obSem, opIsi, bmSem, bkSem, Ev.numsOf, isLst, itemsOf, itemsZ, fillAs, backAs, augOp, E.v, E.q, Es.q, Es.vs, As.q, ownOk, PV.pure, pures, PV.frz, frzs, PV.isN, Bool.and_true, Bool.true_and, Bool.or_true, Bool.true_or, Bool.not_true, Bool.not_false, Bool.false_and, Bool.and_false, Bool.or_false, Bool.false_or, List.length_cons, List.length_nil, List.map_cons, List.map_nil, List.replicate, List.cons_append, List.nil_append, true_and, and_true, if_true, Option.isSome_some, backIo, Ev.op_add, Ev.op_sub, Ev.op_mul, Ev.op_div, Ev.op_mod, Ev.op_pow, Ev.op_and, Ev.op_or, Ev.op_lcat, Ev.op_tcat, cmp_lt, cmp_le, cmp_gt, cmp_ge, cmp_is, cmp_isn, sub_t0, sub_t1, sub_t2, sub_l0, sub_l1, sub_l2, sub_tn, sub_ln, eq_self, decide_true, decide_false, exists_eq_left', wipeE, backE, lenOk_0, lenOk_1, lenOk_2, lenOk_3, lenOk_4, lenOk_5, lenOk_6, Nat.reduceAdd, Nat.reduceLT, Nat.reduceLeDiff, Nat.reduceSub, Nat.reduceEqDiff, ne_eq, not_false_eq_true, not_true_eq_false, decide_eq_true_eq, List.mem_cons, List.not_mem_nil, or_false, false_or, true_or, or_true, if_false, Option.map_some, decide_not, decide_true, decide_false, Nat.lt_irrefl, cmp_eq, cmp_ne, cmp_eqb, cmp_neb, List.any_cons, List.any_nil, reduceCtorEq, beq_self_eq_true, Bool.or_self, plainOwn, List.all_cons, List.all_nil, PV.lst.injEq, mu_append, mu_reverse, mu_pop, List.getElem?_cons_succ, List.getElem?_cons_zero, List.getElem?_nil, Option.bind_some, Option.bind_none, id]
    rw [rangeP_map]
    refine ⟨bnd_of (by omega), ?_, ?_⟩
    · rw [lenOk_of (by simp; omega)]
      cases x5 with
      | none => rfl
      | some p => show (p.pure && true) = true; rw [h5 p rfl]; rfl
    generalize hW : (p0 :: ps).idxOf (big true p0 ps) = w
    generalize hG : bigD true 0 (del w (p0 :: ps)) = g
    refine lc_map (fun i : Nat => PV.int (i : Int)) (fun i => [PV.int (g * (if (i : Int) = (w : Int) then 1 else 0))]) (fun ρ => ∃ y, ρ = [some (PV.scr ns), some D, some (PV.lst false [PV.int (n : Int), PV.int (s : Int)]), some (TV (bs s rows)), x4, y, some (RV (List.map (fun j => pay s rows j) (List.range rows.length))), some (PV.lst false (PV.int p0 :: List.map PV.int ps)), some (BV rows), some (PV.int rising), x10, x11, some (PV.tup [PV.int (w : Int), PV.int g]), none]) _ ⟨_, rfl⟩ ?_ ?_
    · rintro k hk ρ ⟨y, rfl⟩
      simp only [↓reduceIte, ↓w_lit, ↓w_rd, ↓w_vw, ↓w_fz, ↓w_mv, ↓w_bin, ↓w_un, ↓w_cmp, ↓w_sub, ↓w_slc, ↓w_bi, ↓w_isi, ↓w_bm, ↓w_bk, ↓w_frz, ↓w_not, ↓w_ite, ↓w_tup, ↓w_lst, ↓w_mu, ↓w_call, ↓w_lc, ↓w_lc2, ↓w_bop, ↓w_b1, ↓w_b2, ↓w_es0, ↓w_es, ↓w_as0, ↓w_as1, ↓w_as2, ↓w_c0, ↓w_c1, ↓w_seq, ↓w_range1, ↓w_range2, ↓w_enum, ↓w_zip, ↓s_nil, ↓s_one, ↓s_consN, ↓s_set, ↓s_setAt, ↓s_par, ↓s_aug, ↓s_expr, ↓s_ite, ↓s_for, ↓s_ret, ↓s_retN, ↓s_brk, ↓s_cont, ↓s_pass, ↓wpo_some, ↓wp_ok, ↓wpc_ok, ↓wps_nx, ↓wps_rt, ↓wps_bk, ↓wps_ct, ↓wpb_bl, ↓wpi_int, ↓wpo_need, ↓wpo_bind, ↓wpo_map, need_t, getE_0, getE_s, getE_1, getE_2, getE_3, getE_4, getE_5, getE_6, getE_7, getE_8, getE_9, getE_10, getE_11, getE_12, getE_13, getE_14, getE_15, List.set_cons_zero, List.set_cons_succ, asgT, asgTs, unpk, opUn, obSem, opIsi, bmSem, bkSem, Ev.numsOf, isLst, itemsOf, itemsZ, fillAs, backAs, augOp, E.v, E.q, Es.q, Es.vs, As.q, ownOk, PV.pure, pures, PV.frz, frzs, PV.isN, Bool.and_true, Bool.true_and, Bool.or_true, Bool.true_or, Bool.not_true, Bool.not_false, Bool.false_and, Bool.and_false, Bool.or_false, Bool.false_or, List.length_cons, List.length_nil, List.map_cons, List.map_nil, List.replicate, List.cons_append, List.nil_append, true_and, and_true, if_true, Option.isSome_some, backIo, Ev.op_add, Ev.op_sub, Ev.op_mul, Ev.op_div, Ev.op_mod, Ev.op_pow, Ev.op_and, Ev.op_or, Ev.op_lcat, Ev.op_tcat, cmp_lt, cmp_le, cmp_gt, cmp_ge, cmp_is, cmp_isn, sub_t0, sub_t1, sub_t2, sub_l0, sub_l1, sub_l2, sub_tn, sub_ln, eq_self, decide_true, decide_false, exists_eq_left', wipeE, backE, lenOk_0, lenOk_1, lenOk_2, lenOk_3, lenOk_4, lenOk_5, lenOk_6, Nat.reduceAdd, Nat.reduceLT, Nat.reduceLeDiff, Nat.reduceSub, Nat.reduceEqDiff, ne_eq, not_false_eq_true, not_true_eq_false, decide_eq_true_eq, List.mem_cons, List.not_mem_nil, or_false, false_or, true_or, or_true, if_false, Option.map_some, decide_not, decide_true, decide_false, Nat.lt_irrefl, cmp_eq, cmp_ne, cmp_eqb, cmp_neb, List.any_cons, List.any_nil, reduceCtorEq, beq_self_eq_true, Bool.or_self, plainOwn, List.all_cons, List.all_nil, PV.lst.injEq, mu_append, mu_reverse, mu_pop, List.getElem?_cons_succ, List.getElem?_cons_zero, List.getElem?_nil, Option.bind_some, Option.bind_none, id, ↓w_elt]
      exact ⟨mulOk_r ⟨by split <;> omega, by split <;> omega⟩, _, rfl⟩
    · rintro ρ ⟨y, rfl⟩
      have e : (List.range rows.length).flatMap (fun i : Nat => [PV.int (g * (if (i : Int) = (w : Int) then 1 else 0))]) = ((List.range rows.length).map fun j => pay s rows j).map .int := by
        rw [← List.map_eq_flatMap, List.map_map]
        refine List.map_congr_left fun k hk => ?_
        have hk := List.mem_range.mp hk
        have es : s = 2 := by omega
        have hp0 : ∀ x ∈ pl rows, 0 ≤ x := fun x hx => by
          obtain ⟨r, hr, e⟩ := List.mem_map.mp hx
          rw [← e]
          exact (hok r hr).1 _ (getD_mem (by rw [hR.2.2 r hr]; omega))
        have hM : IsMax0 (pl rows) (big true p0 ps) := by
          have := bigD_max hp0
          rw [hp] at this ⊢
          exact this
        have tc := two_case (fun r hr => (hok r hr).2.1) hp0 hM hpos (by rw [hp]; omega) k hk
        rw [hp, hW, hG] at tc
        show PV.int _ = PV.int (pay s rows k)
        rw [es, tc]
        congr 1
        by_cases z : k = w
        · rw [if_pos z, if_pos (by omega), Int.mul_one]
        · rw [if_neg z, if_neg (by omega), Int.mul_zero]
      rw [e]
      have S2 := same_RV ((List.range rows.length).map fun j => pay s rows j) (by simp; omega) (d + 2)
      unfold RV at S2
      simp only [↓reduceIte, ↓w_lit, ↓w_rd, ↓w_vw, ↓w_fz, ↓w_mv, ↓w_bin, ↓w_un, ↓w_cmp, ↓w_sub, ↓w_slc, ↓w_bi, ↓w_isi, ↓w_bm, ↓w_bk, ↓w_frz, ↓w_not, ↓w_ite, ↓w_tup, ↓w_lst, ↓w_mu, ↓w_call, ↓w_lc, ↓w_lc2, ↓w_bop, ↓w_b1, ↓w_b2, ↓w_es0, ↓w_es, ↓w_as0, ↓w_as1, ↓w_as2, ↓w_c0, ↓w_c1, ↓w_seq, ↓w_range1, ↓w_range2, ↓w_enum, ↓w_zip, ↓s_nil, ↓s_one, ↓s_consN, ↓s_set, ↓s_setAt, ↓s_par, ↓s_aug, ↓s_expr, ↓s_ite, ↓s_for, ↓s_ret, ↓s_retN, ↓s_brk, ↓s_cont, ↓s_pass, ↓wpo_some, ↓wp_ok, ↓wpc_ok, ↓wps_nx, ↓wps_rt, ↓wps_bk, ↓wps_ct, ↓wpb_bl, ↓wpi_int, ↓wpo_need, ↓wpo_bind, ↓wpo_map, need_t, getE_0, getE_s, getE_1, getE_2, getE_3, getE_4, getE_5, getE_6, getE_7, getE_8, getE_9, getE_10, getE_11, getE_12, getE_13, getE_14, getE_15, List.set_cons_zero, List.set_cons_succ, asgT, asgTs, unpk, opUn, obSem, opIsi, bmSem, bkSem, Ev.numsOf, isLst, itemsOf, itemsZ, fillAs, backAs, augOp, E.v, E.q, Es.q, Es.vs, As.q, ownOk, PV.pure, pures, PV.frz, frzs, PV.isN, Bool.and_true, Bool.true_and, Bool.or_true, Bool.true_or, Bool.not_true, Bool.not_false, Bool.false_and, Bool.and_false, Bool.or_false, Bool.false_or, List.length_cons, List.length_nil, List.map_cons, List.map_nil, List.replicate, List.cons_append, List.nil_append, true_and, and_true, if_true, Option.isSome_some, backIo, Ev.op_add, Ev.op_sub, Ev.op_mul, Ev.op_div, Ev.op_mod, Ev.op_pow, Ev.op_and, Ev.op_or, Ev.op_lcat, Ev.op_tcat, cmp_lt, cmp_le, cmp_gt, cmp_ge, cmp_is, cmp_isn, sub_t0, sub_t1, sub_t2, sub_l0, sub_l1, sub_l2, sub_tn, sub_ln, eq_self, decide_true, decide_false, exists_eq_left', wipeE, backE, lenOk_0, lenOk_1, lenOk_2, lenOk_3, lenOk_4, lenOk_5, lenOk_6, Nat.reduceAdd, Nat.reduceLT, Nat.reduceLeDiff, Nat.reduceSub, Nat.reduceEqDiff, ne_eq, not_false_eq_true, not_true_eq_false, decide_eq_true_eq, List.mem_cons, List.not_mem_nil, or_false, false_or, true_or, or_true, if_false, Option.map_some, decide_not, decide_true, decide_false, Nat.lt_irrefl, cmp_eq, cmp_ne, cmp_eqb, cmp_neb, List.any_cons, List.any_nil, reduceCtorEq, beq_self_eq_true, Bool.or_self, plainOwn, List.all_cons, List.all_nil, PV.lst.injEq, mu_append, mu_reverse, mu_pop, List.getElem?_cons_succ, List.getElem?_cons_zero, List.getElem?_nil, Option.bind_some, Option.bind_none, id, pures_int, frzs_int, RV, S2, if_neg Bool.false_ne_true]
      exact fin _ _
theorem sh_step {d n s : Nat} {ns : List Int} {D : PV} {x3 x4 x5 x6 x7 x8 x9 x10 x11 x12 : Option PV} {T : PV → Ev.Env → Prop} {Bq : Ev.Env → Prop} (hD : Dr D) (hn : 1 ≤ n ∧ n ≤ 4) (hs : 2 ≤ s ∧ s ≤ 8) (h5 : okP x5) :
    wps (evSs gl (run (d + 4)) 100000 shBody (FE ns D (some (.lst false [.int (n : Int), .int (s : Int)])) x3 x4 x5 x6 x7 x8 x9 x10 x11 x12))
      ⟨fun ρ => ∃ D' x2 x3 x4 x5 x6 x7 x8 x9 x10 x11 x12, ρ = FE ns D' x2 x3 x4 x5 x6 x7 x8 x9 x10 x11 x12 ∧ Dr D' ∧ okP x5, T, Bq, fun _ => False⟩ := by
  simp only [shBody, f_law_first_half, FE, ↓reduceIte, ↓w_lit, ↓w_rd, ↓w_vw, ↓w_fz, ↓w_mv, ↓w_bin, ↓w_un, ↓w_cmp, ↓w_sub, ↓w_slc, ↓w_bi, ↓w_isi, ↓w_bm, ↓w_bk, ↓w_frz, ↓w_not, ↓w_ite, ↓w_tup, ↓w_lst, ↓w_mu, ↓w_call, ↓w_lc, ↓w_lc2, ↓w_bop, ↓w_b1, ↓w_b2, ↓w_es0, ↓w_es, ↓w_as0, ↓w_as1, ↓w_as2, ↓w_c0, ↓w_c1, ↓w_seq, ↓w_range1, ↓w_range2, ↓w_enum, ↓w_zip, ↓s_nil, ↓s_one, ↓s_consN, ↓s_set, ↓s_setAt, ↓s_par, ↓s_aug, ↓s_expr, ↓s_ite, ↓s_for, ↓s_ret, ↓s_retN, ↓s_brk, ↓s_cont, ↓s_pass, ↓wpo_some, ↓wp_ok, ↓wpc_ok, ↓wps_nx, ↓wps_rt, ↓wps_bk, ↓wps_ct, ↓wpb_bl, ↓wpi_int, ↓wpo_need, ↓wpo_bind, ↓wpo_map, need_t, getE_0, getE_s, getE_1, getE_2, getE_3, getE_4, getE_5, getE_6, getE_7, getE_8, getE_9, getE_10, getE_11, getE_12, getE_13, getE_14, getE_15, List.set_cons_zero, List.set_cons_succ, asgT, asgTs, unpk, opUn, obSem, opIsi, bmSem, bkSem, Ev.numsOf, isLst, itemsOf, itemsZ, fillAs, backAs, augOp, E.v, E.q, Es.q, Es.vs, As.q, ownOk, PV.pure, pures, PV.frz, frzs, PV.isN, Bool.and_true, Bool.true_and, Bool.or_true, Bool.true_or, Bool.not_true, Bool.not_false, Bool.false_and, Bool.and_false, Bool.or_false, Bool.false_or, List.length_cons, List.length_nil, List.map_cons, List.map_nil, List.replicate, List.cons_append, List.nil_append, true_and, and_true, if_true, Option.isSome_some, backIo, Ev.op_add, Ev.op_sub, Ev.op_mul, Ev.op_div, Ev.op_mod, Ev.op_pow, Ev.op_and, Ev.op_or, Ev.op_lcat, Ev.op_tcat, cmp_lt, cmp_le, cmp_gt, cmp_ge, cmp_is, cmp_isn, sub_t0, sub_t1, sub_t2, sub_l0, sub_l1, sub_l2, sub_tn, sub_ln, eq_self, decide_true, decide_false, exists_eq_left', wipeE, backE, lenOk_0, lenOk_1, lenOk_2, lenOk_3, lenOk_4, lenOk_5, lenOk_6, Nat.reduceAdd, Nat.reduceLT, Nat.reduceLeDiff, Nat.reduceSub, Nat.reduceEqDiff, ne_eq, not_false_eq_true, not_true_eq_false, decide_eq_true_eq, List.mem_cons, List.not_mem_nil, or_false, false_or, true_or, or_true, if_false, Option.map_some, decide_not, decide_true, decide_false, Nat.lt_irrefl, cmp_eq, cmp_ne, cmp_eqb, cmp_neb, List.any_cons, List.any_nil, reduceCtorEq, beq_self_eq_true, Bool.or_self, plainOwn, List.all_cons, List.all_nil, PV.lst.injEq, mu_append, mu_reverse, mu_pop, List.getElem?_cons_succ, List.getElem?_cons_zero, List.getElem?_nil, Option.bind_some, Option.bind_none, id]
  refine wpc_mono (drawn_t (d := d + 1) (many := n) (sets := s) rfl rfl hD hn.2 (by omega)) ?_
  rintro p l ⟨rows, rising, D1, rfl, rfl, hD1, hR, hln, hok⟩
  have hR2 := hR.2.1
  have s2 : 0 < s := by omega
  obtain ⟨b1, b2, b3⟩ := bs_is s2 rows
  have ft := shs_fits hR b2
  have bl : (bs s rows).length = rows.length := shs_len b2
  have hn0 : rows.length ≤ 1000 := by omega
  have LB := lawbest_t (d := d + 2) (S := (s : Int)) rfl hR
  have B := best_t (d := d + 1) hR
  rw [b1] at LB B
  simp only [OV] at LB B
  have S1 := same_TV (bs s rows) (by omega) (d + 2)
  simp only [↓reduceIte, ↓w_lit, ↓w_rd, ↓w_vw, ↓w_fz, ↓w_mv, ↓w_bin, ↓w_un, ↓w_cmp, ↓w_sub, ↓w_slc, ↓w_bi, ↓w_isi, ↓w_bm, ↓w_bk, ↓w_frz, ↓w_not, ↓w_ite, ↓w_tup, ↓w_lst, ↓w_mu, ↓w_call, ↓w_lc, ↓w_lc2, ↓w_bop, ↓w_b1, ↓w_b2, ↓w_es0, ↓w_es, ↓w_as0, ↓w_as1, ↓w_as2, ↓w_c0, ↓w_c1, ↓w_seq, ↓w_range1, ↓w_range2, ↓w_enum, ↓w_zip, ↓s_nil, ↓s_one, ↓s_consN, ↓s_set, ↓s_setAt, ↓s_par, ↓s_aug, ↓s_expr, ↓s_ite, ↓s_for, ↓s_ret, ↓s_retN, ↓s_brk, ↓s_cont, ↓s_pass, ↓wpo_some, ↓wp_ok, ↓wpc_ok, ↓wps_nx, ↓wps_rt, ↓wps_bk, ↓wps_ct, ↓wpb_bl, ↓wpi_int, ↓wpo_need, ↓wpo_bind, ↓wpo_map, need_t, getE_0, getE_s, getE_1, getE_2, getE_3, getE_4, getE_5, getE_6, getE_7, getE_8, getE_9, getE_10, getE_11, getE_12, getE_13, getE_14, getE_15, List.set_cons_zero, List.set_cons_succ, asgT, asgTs, unpk, opUn, obSem, opIsi, bmSem, bkSem, Ev.numsOf, isLst, itemsOf, itemsZ, fillAs, backAs, augOp, E.v, E.q, Es.q, Es.vs, As.q, ownOk, PV.pure, pures, PV.frz, frzs, PV.isN, Bool.and_true, Bool.true_and, Bool.or_true, Bool.true_or, Bool.not_true, Bool.not_false, Bool.false_and, Bool.and_false, Bool.or_false, Bool.false_or, List.length_cons, List.length_nil, List.map_cons, List.map_nil, List.replicate, List.cons_append, List.nil_append, true_and, and_true, if_true, Option.isSome_some, backIo, Ev.op_add, Ev.op_sub, Ev.op_mul, Ev.op_div, Ev.op_mod, Ev.op_pow, Ev.op_and, Ev.op_or, Ev.op_lcat, Ev.op_tcat, cmp_lt, cmp_le, cmp_gt, cmp_ge, cmp_is, cmp_isn, sub_t0, sub_t1, sub_t2, sub_l0, sub_l1, sub_l2, sub_tn, sub_ln, eq_self, decide_true, decide_false, exists_eq_left', wipeE, backE, lenOk_0, lenOk_1, lenOk_2, lenOk_3, lenOk_4, lenOk_5, lenOk_6, Nat.reduceAdd, Nat.reduceLT, Nat.reduceLeDiff, Nat.reduceSub, Nat.reduceEqDiff, ne_eq, not_false_eq_true, not_true_eq_false, decide_eq_true_eq, List.mem_cons, List.not_mem_nil, or_false, false_or, true_or, or_true, if_false, Option.map_some, decide_not, decide_true, decide_false, Nat.lt_irrefl, cmp_eq, cmp_ne, cmp_eqb, cmp_neb, List.any_cons, List.any_nil, reduceCtorEq, beq_self_eq_true, Bool.or_self, plainOwn, List.all_cons, List.all_nil, PV.lst.injEq, mu_append, mu_reverse, mu_pop, List.getElem?_cons_succ, List.getElem?_cons_zero, List.getElem?_nil, Option.bind_some, Option.bind_none, id, frz_BV, pure_BV]
  rw [seqN_app]
  simp only [↓reduceIte, ↓w_lit, ↓w_rd, ↓w_vw, ↓w_fz, ↓w_mv, ↓w_bin, ↓w_un, ↓w_cmp, ↓w_sub, ↓w_slc, ↓w_bi, ↓w_isi, ↓w_bm, ↓w_bk, ↓w_frz, ↓w_not, ↓w_ite, ↓w_tup, ↓w_lst, ↓w_mu, ↓w_call, ↓w_lc, ↓w_lc2, ↓w_bop, ↓w_b1, ↓w_b2, ↓w_es0, ↓w_es, ↓w_as0, ↓w_as1, ↓w_as2, ↓w_c0, ↓w_c1, ↓w_seq, ↓w_range1, ↓w_range2, ↓w_enum, ↓w_zip, ↓s_nil, ↓s_one, ↓s_consN, ↓s_set, ↓s_setAt, ↓s_par, ↓s_aug, ↓s_expr, ↓s_ite, ↓s_for, ↓s_ret, ↓s_retN, ↓s_brk, ↓s_cont, ↓s_pass, ↓wpo_some, ↓wp_ok, ↓wpc_ok, ↓wps_nx, ↓wps_rt, ↓wps_bk, ↓wps_ct, ↓wpb_bl, ↓wpi_int, ↓wpo_need, ↓wpo_bind, ↓wpo_map, need_t, getE_0, getE_s, getE_1, getE_2, getE_3, getE_4, getE_5, getE_6, getE_7, getE_8, getE_9, getE_10, getE_11, getE_12, getE_13, getE_14, getE_15, List.set_cons_zero, List.set_cons_succ, asgT, asgTs, unpk, opUn, obSem, opIsi, bmSem, bkSem, Ev.numsOf, isLst, itemsOf, itemsZ, fillAs, backAs, augOp, E.v, E.q, Es.q, Es.vs, As.q, ownOk, PV.pure, pures, PV.frz, frzs, PV.isN, Bool.and_true, Bool.true_and, Bool.or_true, Bool.true_or, Bool.not_true, Bool.not_false, Bool.false_and, Bool.and_false, Bool.or_false, Bool.false_or, List.length_cons, List.length_nil, List.map_cons, List.map_nil, List.replicate, List.cons_append, List.nil_append, true_and, and_true, if_true, Option.isSome_some, backIo, Ev.op_add, Ev.op_sub, Ev.op_mul, Ev.op_div, Ev.op_mod, Ev.op_pow, Ev.op_and, Ev.op_or, Ev.op_lcat, Ev.op_tcat, cmp_lt, cmp_le, cmp_gt, cmp_ge, cmp_is, cmp_isn, sub_t0, sub_t1, sub_t2, sub_l0, sub_l1, sub_l2, sub_tn, sub_ln, eq_self, decide_true, decide_false, exists_eq_left', wipeE, backE, lenOk_0, lenOk_1, lenOk_2, lenOk_3, lenOk_4, lenOk_5, lenOk_6, Nat.reduceAdd, Nat.reduceLT, Nat.reduceLeDiff, Nat.reduceSub, Nat.reduceEqDiff, ne_eq, not_false_eq_true, not_true_eq_false, decide_eq_true_eq, List.mem_cons, List.not_mem_nil, or_false, false_or, true_or, or_true, if_false, Option.map_some, decide_not, decide_true, decide_false, Nat.lt_irrefl, cmp_eq, cmp_ne, cmp_eqb, cmp_neb, List.any_cons, List.any_nil, reduceCtorEq, beq_self_eq_true, Bool.or_self, plainOwn, List.all_cons, List.all_nil, PV.lst.injEq, mu_append, mu_reverse, mu_pop, List.getElem?_cons_succ, List.getElem?_cons_zero, List.getElem?_nil, Option.bind_some, Option.bind_none, id, pure_BV, frz_BV, LB]
  rw [seqN_app]
  simp only [↓reduceIte, ↓w_lit, ↓w_rd, ↓w_vw, ↓w_fz, ↓w_mv, ↓w_bin, ↓w_un, ↓w_cmp, ↓w_sub, ↓w_slc, ↓w_bi, ↓w_isi, ↓w_bm, ↓w_bk, ↓w_frz, ↓w_not, ↓w_ite, ↓w_tup, ↓w_lst, ↓w_mu, ↓w_call, ↓w_lc, ↓w_lc2, ↓w_bop, ↓w_b1, ↓w_b2, ↓w_es0, ↓w_es, ↓w_as0, ↓w_as1, ↓w_as2, ↓w_c0, ↓w_c1, ↓w_seq, ↓w_range1, ↓w_range2, ↓w_enum, ↓w_zip, ↓s_nil, ↓s_one, ↓s_consN, ↓s_set, ↓s_setAt, ↓s_par, ↓s_aug, ↓s_expr, ↓s_ite, ↓s_for, ↓s_ret, ↓s_retN, ↓s_brk, ↓s_cont, ↓s_pass, ↓wpo_some, ↓wp_ok, ↓wpc_ok, ↓wps_nx, ↓wps_rt, ↓wps_bk, ↓wps_ct, ↓wpb_bl, ↓wpi_int, ↓wpo_need, ↓wpo_bind, ↓wpo_map, need_t, getE_0, getE_s, getE_1, getE_2, getE_3, getE_4, getE_5, getE_6, getE_7, getE_8, getE_9, getE_10, getE_11, getE_12, getE_13, getE_14, getE_15, List.set_cons_zero, List.set_cons_succ, asgT, asgTs, unpk, opUn, obSem, opIsi, bmSem, bkSem, Ev.numsOf, isLst, itemsOf, itemsZ, fillAs, backAs, augOp, E.v, E.q, Es.q, Es.vs, As.q, ownOk, PV.pure, pures, PV.frz, frzs, PV.isN, Bool.and_true, Bool.true_and, Bool.or_true, Bool.true_or, Bool.not_true, Bool.not_false, Bool.false_and, Bool.and_false, Bool.or_false, Bool.false_or, List.length_cons, List.length_nil, List.map_cons, List.map_nil, List.replicate, List.cons_append, List.nil_append, true_and, and_true, if_true, Option.isSome_some, backIo, Ev.op_add, Ev.op_sub, Ev.op_mul, Ev.op_div, Ev.op_mod, Ev.op_pow, Ev.op_and, Ev.op_or, Ev.op_lcat, Ev.op_tcat, cmp_lt, cmp_le, cmp_gt, cmp_ge, cmp_is, cmp_isn, sub_t0, sub_t1, sub_t2, sub_l0, sub_l1, sub_l2, sub_tn, sub_ln, eq_self, decide_true, decide_false, exists_eq_left', wipeE, backE, lenOk_0, lenOk_1, lenOk_2, lenOk_3, lenOk_4, lenOk_5, lenOk_6, Nat.reduceAdd, Nat.reduceLT, Nat.reduceLeDiff, Nat.reduceSub, Nat.reduceEqDiff, ne_eq, not_false_eq_true, not_true_eq_false, decide_eq_true_eq, List.mem_cons, List.not_mem_nil, or_false, false_or, true_or, or_true, if_false, Option.map_some, decide_not, decide_true, decide_false, Nat.lt_irrefl, cmp_eq, cmp_ne, cmp_eqb, cmp_neb, List.any_cons, List.any_nil, reduceCtorEq, beq_self_eq_true, Bool.or_self, plainOwn, List.all_cons, List.all_nil, PV.lst.injEq, mu_append, mu_reverse, mu_pop, List.getElem?_cons_succ, List.getElem?_cons_zero, List.getElem?_nil, Option.bind_some, Option.bind_none, id, pure_BV, frz_BV, pure_TV, frz_TV, B, S1, if_neg Bool.false_ne_true]
  rw [seqN_app]
  simp only [↓reduceIte, ↓w_lit, ↓w_rd, ↓w_vw, ↓w_fz, ↓w_mv, ↓w_bin, ↓w_un, ↓w_cmp, ↓w_sub, ↓w_slc, ↓w_bi, ↓w_isi, ↓w_bm, ↓w_bk, ↓w_frz, ↓w_not, ↓w_ite, ↓w_tup, ↓w_lst, ↓w_mu, ↓w_call, ↓w_lc, ↓w_lc2, ↓w_bop, ↓w_b1, ↓w_b2, ↓w_es0, ↓w_es, ↓w_as0, ↓w_as1, ↓w_as2, ↓w_c0, ↓w_c1, ↓w_seq, ↓w_range1, ↓w_range2, ↓w_enum, ↓w_zip, ↓s_nil, ↓s_one, ↓s_consN, ↓s_set, ↓s_setAt, ↓s_par, ↓s_aug, ↓s_expr, ↓s_ite, ↓s_for, ↓s_ret, ↓s_retN, ↓s_brk, ↓s_cont, ↓s_pass, ↓wpo_some, ↓wp_ok, ↓wpc_ok, ↓wps_nx, ↓wps_rt, ↓wps_bk, ↓wps_ct, ↓wpb_bl, ↓wpi_int, ↓wpo_need, ↓wpo_bind, ↓wpo_map, need_t, getE_0, getE_s, getE_1, getE_2, getE_3, getE_4, getE_5, getE_6, getE_7, getE_8, getE_9, getE_10, getE_11, getE_12, getE_13, getE_14, getE_15, List.set_cons_zero, List.set_cons_succ, asgT, asgTs, unpk, opUn, obSem, opIsi, bmSem, bkSem, Ev.numsOf, isLst, itemsOf, itemsZ, fillAs, backAs, augOp, E.v, E.q, Es.q, Es.vs, As.q, ownOk, PV.pure, pures, PV.frz, frzs, PV.isN, Bool.and_true, Bool.true_and, Bool.or_true, Bool.true_or, Bool.not_true, Bool.not_false, Bool.false_and, Bool.and_false, Bool.or_false, Bool.false_or, List.length_cons, List.length_nil, List.map_cons, List.map_nil, List.replicate, List.cons_append, List.nil_append, true_and, and_true, if_true, Option.isSome_some, backIo, Ev.op_add, Ev.op_sub, Ev.op_mul, Ev.op_div, Ev.op_mod, Ev.op_pow, Ev.op_and, Ev.op_or, Ev.op_lcat, Ev.op_tcat, cmp_lt, cmp_le, cmp_gt, cmp_ge, cmp_is, cmp_isn, sub_t0, sub_t1, sub_t2, sub_l0, sub_l1, sub_l2, sub_tn, sub_ln, eq_self, decide_true, decide_false, exists_eq_left', wipeE, backE, lenOk_0, lenOk_1, lenOk_2, lenOk_3, lenOk_4, lenOk_5, lenOk_6, Nat.reduceAdd, Nat.reduceLT, Nat.reduceLeDiff, Nat.reduceSub, Nat.reduceEqDiff, ne_eq, not_false_eq_true, not_true_eq_false, decide_eq_true_eq, List.mem_cons, List.not_mem_nil, or_false, false_or, true_or, or_true, if_false, Option.map_some, decide_not, decide_true, decide_false, Nat.lt_irrefl, cmp_eq, cmp_ne, cmp_eqb, cmp_neb, List.any_cons, List.any_nil, reduceCtorEq, beq_self_eq_true, Bool.or_self, plainOwn, List.all_cons, List.all_nil, PV.lst.injEq, mu_append, mu_reverse, mu_pop, List.getElem?_cons_succ, List.getElem?_cons_zero, List.getElem?_nil, Option.bind_some, Option.bind_none, id]
  rw [seqN_app]
  simp only [↓reduceIte, ↓w_lit, ↓w_rd, ↓w_vw, ↓w_fz, ↓w_mv, ↓w_bin, ↓w_un, ↓w_cmp, ↓w_sub, ↓w_slc, ↓w_bi, ↓w_isi, ↓w_bm, ↓w_bk, ↓w_frz, ↓w_not, ↓w_ite, ↓w_tup, ↓w_lst, ↓w_mu, ↓w_call, ↓w_lc, ↓w_lc2, ↓w_bop, ↓w_b1, ↓w_b2, ↓w_es0, ↓w_es, ↓w_as0, ↓w_as1, ↓w_as2, ↓w_c0, ↓w_c1, ↓w_seq, ↓w_range1, ↓w_range2, ↓w_enum, ↓w_zip, ↓s_nil, ↓s_one, ↓s_consN, ↓s_set, ↓s_setAt, ↓s_par, ↓s_aug, ↓s_expr, ↓s_ite, ↓s_for, ↓s_ret, ↓s_retN, ↓s_brk, ↓s_cont, ↓s_pass, ↓wpo_some, ↓wp_ok, ↓wpc_ok, ↓wps_nx, ↓wps_rt, ↓wps_bk, ↓wps_ct, ↓wpb_bl, ↓wpi_int, ↓wpo_need, ↓wpo_bind, ↓wpo_map, need_t, getE_0, getE_s, getE_1, getE_2, getE_3, getE_4, getE_5, getE_6, getE_7, getE_8, getE_9, getE_10, getE_11, getE_12, getE_13, getE_14, getE_15, List.set_cons_zero, List.set_cons_succ, asgT, asgTs, unpk, opUn, obSem, opIsi, bmSem, bkSem, Ev.numsOf, isLst, itemsOf, itemsZ, fillAs, backAs, augOp, E.v, E.q, Es.q, Es.vs, As.q, ownOk, PV.pure, pures, PV.frz, frzs, PV.isN, Bool.and_true, Bool.true_and, Bool.or_true, Bool.true_or, Bool.not_true, Bool.not_false, Bool.false_and, Bool.and_false, Bool.or_false, Bool.false_or, List.length_cons, List.length_nil, List.map_cons, List.map_nil, List.replicate, List.cons_append, List.nil_append, true_and, and_true, if_true, Option.isSome_some, backIo, Ev.op_add, Ev.op_sub, Ev.op_mul, Ev.op_div, Ev.op_mod, Ev.op_pow, Ev.op_and, Ev.op_or, Ev.op_lcat, Ev.op_tcat, cmp_lt, cmp_le, cmp_gt, cmp_ge, cmp_is, cmp_isn, sub_t0, sub_t1, sub_t2, sub_l0, sub_l1, sub_l2, sub_tn, sub_ln, eq_self, decide_true, decide_false, exists_eq_left', wipeE, backE, lenOk_0, lenOk_1, lenOk_2, lenOk_3, lenOk_4, lenOk_5, lenOk_6, Nat.reduceAdd, Nat.reduceLT, Nat.reduceLeDiff, Nat.reduceSub, Nat.reduceEqDiff, ne_eq, not_false_eq_true, not_true_eq_false, decide_eq_true_eq, List.mem_cons, List.not_mem_nil, or_false, false_or, true_or, or_true, if_false, Option.map_some, decide_not, decide_true, decide_false, Nat.lt_irrefl, cmp_eq, cmp_ne, cmp_eqb, cmp_neb, List.any_cons, List.any_nil, reduceCtorEq, beq_self_eq_true, Bool.or_self, plainOwn, List.all_cons, List.all_nil, PV.lst.injEq, mu_append, mu_reverse, mu_pop, List.getElem?_cons_succ, List.getElem?_cons_zero, List.getElem?_nil, Option.bind_some, Option.bind_none, id, pure_BV]
  show wpo (obSem .len [BV rows]) _
  rw [len_BV]
  simp only [↓reduceIte, ↓w_lit, ↓w_rd, ↓w_vw, ↓w_fz, ↓w_mv, ↓w_bin, ↓w_un, ↓w_cmp, ↓w_sub, ↓w_slc, ↓w_bi, ↓w_isi, ↓w_bm, ↓w_bk, ↓w_frz, ↓w_not, ↓w_ite, ↓w_tup, ↓w_lst, ↓w_mu, ↓w_call, ↓w_lc, ↓w_lc2, ↓w_bop, ↓w_b1, ↓w_b2, ↓w_es0, ↓w_es, ↓w_as0, ↓w_as1, ↓w_as2, ↓w_c0, ↓w_c1, ↓w_seq, ↓w_range1, ↓w_range2, ↓w_enum, ↓w_zip, ↓s_nil, ↓s_one, ↓s_consN, ↓s_set, ↓s_setAt, ↓s_par, ↓s_aug, ↓s_expr, ↓s_ite, ↓s_for, ↓s_ret, ↓s_retN, ↓s_brk, ↓s_cont, ↓s_pass, ↓wpo_some, ↓wp_ok, ↓wpc_ok, ↓wps_nx, ↓wps_rt, ↓wps_bk, ↓wps_ct, ↓wpb_bl, ↓wpi_int, ↓wpo_need, ↓wpo_bind, ↓wpo_map, need_t, getE_0, getE_s, getE_1, getE_2, getE_3, getE_4, getE_5, getE_6, getE_7, getE_8, getE_9, getE_10, getE_11, getE_12, getE_13, getE_14, getE_15, List.set_cons_zero, List.set_cons_succ, asgT, asgTs, unpk, opUn, obSem, opIsi, bmSem, bkSem, Ev.numsOf, isLst, itemsOf, itemsZ, fillAs, backAs, augOp, E.v, E.q, Es.q, Es.vs, As.q, ownOk, PV.pure, pures, PV.frz, frzs, PV.isN, Bool.and_true, Bool.true_and, Bool.or_true, Bool.true_or, Bool.not_true, Bool.not_false, Bool.false_and, Bool.and_false, Bool.or_false, Bool.false_or, List.length_cons, List.length_nil, List.map_cons, List.map_nil, List.replicate, List.cons_append, List.nil_append, true_and, and_true, if_true, Option.isSome_some, backIo, Ev.op_add, Ev.op_sub, Ev.op_mul, Ev.op_div, Ev.op_mod, Ev.op_pow, Ev.op_and, Ev.op_or, Ev.op_lcat, Ev.op_tcat, cmp_lt, cmp_le, cmp_gt, cmp_ge, cmp_is, cmp_isn, sub_t0, sub_t1, sub_t2, sub_l0, sub_l1, sub_l2, sub_tn, sub_ln, eq_self, decide_true, decide_false, exists_eq_left', wipeE, backE, lenOk_0, lenOk_1, lenOk_2, lenOk_3, lenOk_4, lenOk_5, lenOk_6, Nat.reduceAdd, Nat.reduceLT, Nat.reduceLeDiff, Nat.reduceSub, Nat.reduceEqDiff, ne_eq, not_false_eq_true, not_true_eq_false, decide_eq_true_eq, List.mem_cons, List.not_mem_nil, or_false, false_or, true_or, or_true, if_false, Option.map_some, decide_not, decide_true, decide_false, Nat.lt_irrefl, cmp_eq, cmp_ne, cmp_eqb, cmp_neb, List.any_cons, List.any_nil, reduceCtorEq, beq_self_eq_true, Bool.or_self, plainOwn, List.all_cons, List.all_nil, PV.lst.injEq, mu_append, mu_reverse, mu_pop, List.getElem?_cons_succ, List.getElem?_cons_zero, List.getElem?_nil, Option.bind_some, Option.bind_none, id]
  rw [rangeP_map]
  refine ⟨bnd_of (by omega), ?_⟩
  have hz : Zero rows := fun r hr => (hok r hr).2.1
  refine for_range (fun k ρ => ∃ y5 y10 y11, okP y5 ∧ ρ = FE ns D1 (some (.lst false [.int (n : Int), .int (s : Int)])) (some (TV (bs s rows))) (some (.lst true (((List.range k).map fun j => pay s rows j).map .int))) y5 x6 x7 (some (BV rows)) (some (.int rising)) y10 y11 x12) _ ⟨x5, x10, x11, h5, rfl⟩ ?_ ?_
  · rintro k ρ hk ⟨y5, y10, y11, hy5, rfl⟩
    have hdl : (del k rows).length = rows.length - 1 := del_length hk
    have hdR := del_rows (k := k) hR
    obtain ⟨c1, c2, c3⟩ := bs_is s2 (del k rows)
    have LBd := lawbest_t (d := d + 2) (S := (s : Int)) rfl hdR
    rw [c1] at LBd
    simp only [OV] at LBd
    have hdn : (del k rows).length ≤ 1000 := by omega
    have LS := lawsum_t (d := d + 3) hdn (shs_fits hdR c2)
    have hkt : k < (bs s rows).length := by omega
    have dt := del_shs (s := s) b2 hk
    rw [← hdl] at dt
    have LS2 := lawsum_t (d := d + 3) hdn (shs_fits hdR dt)
    simp only [FE, ↓reduceIte, ↓w_lit, ↓w_rd, ↓w_vw, ↓w_fz, ↓w_mv, ↓w_bin, ↓w_un, ↓w_cmp, ↓w_sub, ↓w_slc, ↓w_bi, ↓w_isi, ↓w_bm, ↓w_bk, ↓w_frz, ↓w_not, ↓w_ite, ↓w_tup, ↓w_lst, ↓w_mu, ↓w_call, ↓w_lc, ↓w_lc2, ↓w_bop, ↓w_b1, ↓w_b2, ↓w_es0, ↓w_es, ↓w_as0, ↓w_as1, ↓w_as2, ↓w_c0, ↓w_c1, ↓w_seq, ↓w_range1, ↓w_range2, ↓w_enum, ↓w_zip, ↓s_nil, ↓s_one, ↓s_consN, ↓s_set, ↓s_setAt, ↓s_par, ↓s_aug, ↓s_expr, ↓s_ite, ↓s_for, ↓s_ret, ↓s_retN, ↓s_brk, ↓s_cont, ↓s_pass, ↓wpo_some, ↓wp_ok, ↓wpc_ok, ↓wps_nx, ↓wps_rt, ↓wps_bk, ↓wps_ct, ↓wpb_bl, ↓wpi_int, ↓wpo_need, ↓wpo_bind, ↓wpo_map, need_t, getE_0, getE_s, getE_1, getE_2, getE_3, getE_4, getE_5, getE_6, getE_7, getE_8, getE_9, getE_10, getE_11, getE_12, getE_13, getE_14, getE_15, List.set_cons_zero, List.set_cons_succ, asgT, asgTs, unpk, opUn, obSem, opIsi, bmSem, bkSem, Ev.numsOf, isLst, itemsOf, itemsZ, fillAs, backAs, augOp, E.v, E.q, Es.q, Es.vs, As.q, ownOk, PV.pure, pures, PV.frz, frzs, PV.isN, Bool.and_true, Bool.true_and, Bool.or_true, Bool.true_or, Bool.not_true, Bool.not_false, Bool.false_and, Bool.and_false, Bool.or_false, Bool.false_or, List.length_cons, List.length_nil, List.map_cons, List.map_nil, List.replicate, List.cons_append, List.nil_append, true_and, and_true, if_true, Option.isSome_some, backIo, Ev.op_add, Ev.op_sub, Ev.op_mul, Ev.op_div, Ev.op_mod, Ev.op_pow, Ev.op_and, Ev.op_or, Ev.op_lcat, Ev.op_tcat, cmp_lt, cmp_le, cmp_gt, cmp_ge, cmp_is, cmp_isn, sub_t0, sub_t1, sub_t2, sub_l0, sub_l1, sub_l2, sub_tn, sub_ln, eq_self, decide_true, decide_false, exists_eq_left', wipeE, backE, lenOk_0, lenOk_1, lenOk_2, lenOk_3, lenOk_4, lenOk_5, lenOk_6, Nat.reduceAdd, Nat.reduceLT, Nat.reduceLeDiff, Nat.reduceSub, Nat.reduceEqDiff, ne_eq, not_false_eq_true, not_true_eq_false, decide_eq_true_eq, List.mem_cons, List.not_mem_nil, or_false, false_or, true_or, or_true, if_false, Option.map_some, decide_not, decide_true, decide_false, Nat.lt_irrefl, cmp_eq, cmp_ne, cmp_eqb, cmp_neb, List.any_cons, List.any_nil, reduceCtorEq, beq_self_eq_true, Bool.or_self, plainOwn, List.all_cons, List.all_nil, PV.lst.injEq, mu_append, mu_reverse, mu_pop, List.getElem?_cons_succ, List.getElem?_cons_zero, List.getElem?_nil, Option.bind_some, Option.bind_none, id, pure_BV, slc_del_lo hk, slc_del_hi hk]
    refine cat_BV (by rw [List.length_take, List.length_drop]; omega) ?_
    rw [seqN_app]
    have LBd' : run (d + 4) 18 [BV (rows.take k ++ rows.drop (k + 1)), .int (s : Int)] = .ok (TV (bs s (del k rows))) [BV (rows.take k ++ rows.drop (k + 1)), .int (s : Int)] := LBd
    have LS' : run (d + 4) 17 [BV (rows.take k ++ rows.drop (k + 1)), TV (bs s (del k rows))] = .ok (.int (wo (del k rows) (bs s (del k rows)))) [BV (rows.take k ++ rows.drop (k + 1)), TV (bs s (del k rows))] := LS
    have LS2' : run (d + 4) 17 [BV (rows.take k ++ rows.drop (k + 1)), TV ((bs s rows).take k ++ (bs s rows).drop (k + 1))] = .ok (.int (wo (del k rows) (del k (bs s rows)))) [BV (rows.take k ++ rows.drop (k + 1)), TV ((bs s rows).take k ++ (bs s rows).drop (k + 1))] := LS2
    simp only [↓reduceIte, ↓w_lit, ↓w_rd, ↓w_vw, ↓w_fz, ↓w_mv, ↓w_bin, ↓w_un, ↓w_cmp, ↓w_sub, ↓w_slc, ↓w_bi, ↓w_isi, ↓w_bm, ↓w_bk, ↓w_frz, ↓w_not, ↓w_ite, ↓w_tup, ↓w_lst, ↓w_mu, ↓w_call, ↓w_lc, ↓w_lc2, ↓w_bop, ↓w_b1, ↓w_b2, ↓w_es0, ↓w_es, ↓w_as0, ↓w_as1, ↓w_as2, ↓w_c0, ↓w_c1, ↓w_seq, ↓w_range1, ↓w_range2, ↓w_enum, ↓w_zip, ↓s_nil, ↓s_one, ↓s_consN, ↓s_set, ↓s_setAt, ↓s_par, ↓s_aug, ↓s_expr, ↓s_ite, ↓s_for, ↓s_ret, ↓s_retN, ↓s_brk, ↓s_cont, ↓s_pass, ↓wpo_some, ↓wp_ok, ↓wpc_ok, ↓wps_nx, ↓wps_rt, ↓wps_bk, ↓wps_ct, ↓wpb_bl, ↓wpi_int, ↓wpo_need, ↓wpo_bind, ↓wpo_map, need_t, getE_0, getE_s, getE_1, getE_2, getE_3, getE_4, getE_5, getE_6, getE_7, getE_8, getE_9, getE_10, getE_11, getE_12, getE_13, getE_14, getE_15, List.set_cons_zero, List.set_cons_succ, asgT, asgTs, unpk, opUn, obSem, opIsi, bmSem, bkSem, Ev.numsOf, isLst, itemsOf, itemsZ, fillAs, backAs, augOp, E.v, E.q, Es.q, Es.vs, As.q, ownOk, PV.pure, pures, PV.frz, frzs, PV.isN, Bool.and_true, Bool.true_and, Bool.or_true, Bool.true_or, Bool.not_true, Bool.not_false, Bool.false_and, Bool.and_false, Bool.or_false, Bool.false_or, List.length_cons, List.length_nil, List.map_cons, List.map_nil, List.replicate, List.cons_append, List.nil_append, true_and, and_true, if_true, Option.isSome_some, backIo, Ev.op_add, Ev.op_sub, Ev.op_mul, Ev.op_div, Ev.op_mod, Ev.op_pow, Ev.op_and, Ev.op_or, Ev.op_lcat, Ev.op_tcat, cmp_lt, cmp_le, cmp_gt, cmp_ge, cmp_is, cmp_isn, sub_t0, sub_t1, sub_t2, sub_l0, sub_l1, sub_l2, sub_tn, sub_ln, eq_self, decide_true, decide_false, exists_eq_left', wipeE, backE, lenOk_0, lenOk_1, lenOk_2, lenOk_3, lenOk_4, lenOk_5, lenOk_6, Nat.reduceAdd, Nat.reduceLT, Nat.reduceLeDiff, Nat.reduceSub, Nat.reduceEqDiff, ne_eq, not_false_eq_true, not_true_eq_false, decide_eq_true_eq, List.mem_cons, List.not_mem_nil, or_false, false_or, true_or, or_true, if_false, Option.map_some, decide_not, decide_true, decide_false, Nat.lt_irrefl, cmp_eq, cmp_ne, cmp_eqb, cmp_neb, List.any_cons, List.any_nil, reduceCtorEq, beq_self_eq_true, Bool.or_self, plainOwn, List.all_cons, List.all_nil, PV.lst.injEq, mu_append, mu_reverse, mu_pop, List.getElem?_cons_succ, List.getElem?_cons_zero, List.getElem?_nil, Option.bind_some, Option.bind_none, id, pure_BV, frz_BV, pure_TV, frz_TV, LBd', LS']
    rw [seqN_app]
    simp only [↓reduceIte, ↓w_lit, ↓w_rd, ↓w_vw, ↓w_fz, ↓w_mv, ↓w_bin, ↓w_un, ↓w_cmp, ↓w_sub, ↓w_slc, ↓w_bi, ↓w_isi, ↓w_bm, ↓w_bk, ↓w_frz, ↓w_not, ↓w_ite, ↓w_tup, ↓w_lst, ↓w_mu, ↓w_call, ↓w_lc, ↓w_lc2, ↓w_bop, ↓w_b1, ↓w_b2, ↓w_es0, ↓w_es, ↓w_as0, ↓w_as1, ↓w_as2, ↓w_c0, ↓w_c1, ↓w_seq, ↓w_range1, ↓w_range2, ↓w_enum, ↓w_zip, ↓s_nil, ↓s_one, ↓s_consN, ↓s_set, ↓s_setAt, ↓s_par, ↓s_aug, ↓s_expr, ↓s_ite, ↓s_for, ↓s_ret, ↓s_retN, ↓s_brk, ↓s_cont, ↓s_pass, ↓wpo_some, ↓wp_ok, ↓wpc_ok, ↓wps_nx, ↓wps_rt, ↓wps_bk, ↓wps_ct, ↓wpb_bl, ↓wpi_int, ↓wpo_need, ↓wpo_bind, ↓wpo_map, need_t, getE_0, getE_s, getE_1, getE_2, getE_3, getE_4, getE_5, getE_6, getE_7, getE_8, getE_9, getE_10, getE_11, getE_12, getE_13, getE_14, getE_15, List.set_cons_zero, List.set_cons_succ, asgT, asgTs, unpk, opUn, obSem, opIsi, bmSem, bkSem, Ev.numsOf, isLst, itemsOf, itemsZ, fillAs, backAs, augOp, E.v, E.q, Es.q, Es.vs, As.q, ownOk, PV.pure, pures, PV.frz, frzs, PV.isN, Bool.and_true, Bool.true_and, Bool.or_true, Bool.true_or, Bool.not_true, Bool.not_false, Bool.false_and, Bool.and_false, Bool.or_false, Bool.false_or, List.length_cons, List.length_nil, List.map_cons, List.map_nil, List.replicate, List.cons_append, List.nil_append, true_and, and_true, if_true, Option.isSome_some, backIo, Ev.op_add, Ev.op_sub, Ev.op_mul, Ev.op_div, Ev.op_mod, Ev.op_pow, Ev.op_and, Ev.op_or, Ev.op_lcat, Ev.op_tcat, cmp_lt, cmp_le, cmp_gt, cmp_ge, cmp_is, cmp_isn, sub_t0, sub_t1, sub_t2, sub_l0, sub_l1, sub_l2, sub_tn, sub_ln, eq_self, decide_true, decide_false, exists_eq_left', wipeE, backE, lenOk_0, lenOk_1, lenOk_2, lenOk_3, lenOk_4, lenOk_5, lenOk_6, Nat.reduceAdd, Nat.reduceLT, Nat.reduceLeDiff, Nat.reduceSub, Nat.reduceEqDiff, ne_eq, not_false_eq_true, not_true_eq_false, decide_eq_true_eq, List.mem_cons, List.not_mem_nil, or_false, false_or, true_or, or_true, if_false, Option.map_some, decide_not, decide_true, decide_false, Nat.lt_irrefl, cmp_eq, cmp_ne, cmp_eqb, cmp_neb, List.any_cons, List.any_nil, reduceCtorEq, beq_self_eq_true, Bool.or_self, plainOwn, List.all_cons, List.all_nil, PV.lst.injEq, mu_append, mu_reverse, mu_pop, List.getElem?_cons_succ, List.getElem?_cons_zero, List.getElem?_nil, Option.bind_some, Option.bind_none, id, pure_BV, frz_BV, pure_TV, frz_TV, slt_lo hkt, slt_hi hkt]
    refine cat_TV (by rw [List.length_take, List.length_drop]; omega) ?_
    simp only [↓reduceIte, ↓w_lit, ↓w_rd, ↓w_vw, ↓w_fz, ↓w_mv, ↓w_bin, ↓w_un, ↓w_cmp, ↓w_sub, ↓w_slc, ↓w_bi, ↓w_isi, ↓w_bm, ↓w_bk, ↓w_frz, ↓w_not, ↓w_ite, ↓w_tup, ↓w_lst, ↓w_mu, ↓w_call, ↓w_lc, ↓w_lc2, ↓w_bop, ↓w_b1, ↓w_b2, ↓w_es0, ↓w_es, ↓w_as0, ↓w_as1, ↓w_as2, ↓w_c0, ↓w_c1, ↓w_seq, ↓w_range1, ↓w_range2, ↓w_enum, ↓w_zip, ↓s_nil, ↓s_one, ↓s_consN, ↓s_set, ↓s_setAt, ↓s_par, ↓s_aug, ↓s_expr, ↓s_ite, ↓s_for, ↓s_ret, ↓s_retN, ↓s_brk, ↓s_cont, ↓s_pass, ↓wpo_some, ↓wp_ok, ↓wpc_ok, ↓wps_nx, ↓wps_rt, ↓wps_bk, ↓wps_ct, ↓wpb_bl, ↓wpi_int, ↓wpo_need, ↓wpo_bind, ↓wpo_map, need_t, getE_0, getE_s, getE_1, getE_2, getE_3, getE_4, getE_5, getE_6, getE_7, getE_8, getE_9, getE_10, getE_11, getE_12, getE_13, getE_14, getE_15, List.set_cons_zero, List.set_cons_succ, asgT, asgTs, unpk, opUn, obSem, opIsi, bmSem, bkSem, Ev.numsOf, isLst, itemsOf, itemsZ, fillAs, backAs, augOp, E.v, E.q, Es.q, Es.vs, As.q, ownOk, PV.pure, pures, PV.frz, frzs, PV.isN, Bool.and_true, Bool.true_and, Bool.or_true, Bool.true_or, Bool.not_true, Bool.not_false, Bool.false_and, Bool.and_false, Bool.or_false, Bool.false_or, List.length_cons, List.length_nil, List.map_cons, List.map_nil, List.replicate, List.cons_append, List.nil_append, true_and, and_true, if_true, Option.isSome_some, backIo, Ev.op_add, Ev.op_sub, Ev.op_mul, Ev.op_div, Ev.op_mod, Ev.op_pow, Ev.op_and, Ev.op_or, Ev.op_lcat, Ev.op_tcat, cmp_lt, cmp_le, cmp_gt, cmp_ge, cmp_is, cmp_isn, sub_t0, sub_t1, sub_t2, sub_l0, sub_l1, sub_l2, sub_tn, sub_ln, eq_self, decide_true, decide_false, exists_eq_left', wipeE, backE, lenOk_0, lenOk_1, lenOk_2, lenOk_3, lenOk_4, lenOk_5, lenOk_6, Nat.reduceAdd, Nat.reduceLT, Nat.reduceLeDiff, Nat.reduceSub, Nat.reduceEqDiff, ne_eq, not_false_eq_true, not_true_eq_false, decide_eq_true_eq, List.mem_cons, List.not_mem_nil, or_false, false_or, true_or, or_true, if_false, Option.map_some, decide_not, decide_true, decide_false, Nat.lt_irrefl, cmp_eq, cmp_ne, cmp_eqb, cmp_neb, List.any_cons, List.any_nil, reduceCtorEq, beq_self_eq_true, Bool.or_self, plainOwn, List.all_cons, List.all_nil, PV.lst.injEq, mu_append, mu_reverse, mu_pop, List.getElem?_cons_succ, List.getElem?_cons_zero, List.getElem?_nil, Option.bind_some, Option.bind_none, id, pure_BV, frz_BV, pure_TV, frz_TV, LS2', List.length_map, List.length_range]
    have e : wo (del k rows) (bs s (del k rows)) - wo (del k rows) (del k (bs s rows)) = pay s rows k := by
      have w1 := wo_del (rows := rows) (t := bs s rows) (k := k) bl hk
      unfold pay Vb
      omega
    refine ⟨by rw [sizeLine_eq]; omega, some (.int (k : Int)), some (BV (rows.take k ++ rows.drop (k + 1))), some (.int (wo (del k rows) (bs s (del k rows)))), (fun p hp => by cases hp; rfl), ?_⟩
    rw [e, List.range_succ, List.map_append, List.map_append]
    rfl
  · rintro ρ ⟨y5, y10, y11, hy5, rfl⟩
    dsimp only
    have P := payments_t (d := d) s2 hR
    have S2 := same_RV ((List.range rows.length).map fun j => pay s rows j) (by simp; omega) (d + 2)
    unfold RV at S2
    rw [seqN_app]
    simp only [FE, ↓reduceIte, ↓w_lit, ↓w_rd, ↓w_vw, ↓w_fz, ↓w_mv, ↓w_bin, ↓w_un, ↓w_cmp, ↓w_sub, ↓w_slc, ↓w_bi, ↓w_isi, ↓w_bm, ↓w_bk, ↓w_frz, ↓w_not, ↓w_ite, ↓w_tup, ↓w_lst, ↓w_mu, ↓w_call, ↓w_lc, ↓w_lc2, ↓w_bop, ↓w_b1, ↓w_b2, ↓w_es0, ↓w_es, ↓w_as0, ↓w_as1, ↓w_as2, ↓w_c0, ↓w_c1, ↓w_seq, ↓w_range1, ↓w_range2, ↓w_enum, ↓w_zip, ↓s_nil, ↓s_one, ↓s_consN, ↓s_set, ↓s_setAt, ↓s_par, ↓s_aug, ↓s_expr, ↓s_ite, ↓s_for, ↓s_ret, ↓s_retN, ↓s_brk, ↓s_cont, ↓s_pass, ↓wpo_some, ↓wp_ok, ↓wpc_ok, ↓wps_nx, ↓wps_rt, ↓wps_bk, ↓wps_ct, ↓wpb_bl, ↓wpi_int, ↓wpo_need, ↓wpo_bind, ↓wpo_map, need_t, getE_0, getE_s, getE_1, getE_2, getE_3, getE_4, getE_5, getE_6, getE_7, getE_8, getE_9, getE_10, getE_11, getE_12, getE_13, getE_14, getE_15, List.set_cons_zero, List.set_cons_succ, asgT, asgTs, unpk, opUn, obSem, opIsi, bmSem, bkSem, Ev.numsOf, isLst, itemsOf, itemsZ, fillAs, backAs, augOp, E.v, E.q, Es.q, Es.vs, As.q, ownOk, PV.pure, pures, PV.frz, frzs, PV.isN, Bool.and_true, Bool.true_and, Bool.or_true, Bool.true_or, Bool.not_true, Bool.not_false, Bool.false_and, Bool.and_false, Bool.or_false, Bool.false_or, List.length_cons, List.length_nil, List.map_cons, List.map_nil, List.replicate, List.cons_append, List.nil_append, true_and, and_true, if_true, Option.isSome_some, backIo, Ev.op_add, Ev.op_sub, Ev.op_mul, Ev.op_div, Ev.op_mod, Ev.op_pow, Ev.op_and, Ev.op_or, Ev.op_lcat, Ev.op_tcat, cmp_lt, cmp_le, cmp_gt, cmp_ge, cmp_is, cmp_isn, sub_t0, sub_t1, sub_t2, sub_l0, sub_l1, sub_l2, sub_tn, sub_ln, eq_self, decide_true, decide_false, exists_eq_left', wipeE, backE, lenOk_0, lenOk_1, lenOk_2, lenOk_3, lenOk_4, lenOk_5, lenOk_6, Nat.reduceAdd, Nat.reduceLT, Nat.reduceLeDiff, Nat.reduceSub, Nat.reduceEqDiff, ne_eq, not_false_eq_true, not_true_eq_false, decide_eq_true_eq, List.mem_cons, List.not_mem_nil, or_false, false_or, true_or, or_true, if_false, Option.map_some, decide_not, decide_true, decide_false, Nat.lt_irrefl, cmp_eq, cmp_ne, cmp_eqb, cmp_neb, List.any_cons, List.any_nil, reduceCtorEq, beq_self_eq_true, Bool.or_self, plainOwn, List.all_cons, List.all_nil, PV.lst.injEq, mu_append, mu_reverse, mu_pop, List.getElem?_cons_succ, List.getElem?_cons_zero, List.getElem?_nil, Option.bind_some, Option.bind_none, id, pure_BV, frz_BV, P]
    rw [seqN_app]
    simp only [↓reduceIte, ↓w_lit, ↓w_rd, ↓w_vw, ↓w_fz, ↓w_mv, ↓w_bin, ↓w_un, ↓w_cmp, ↓w_sub, ↓w_slc, ↓w_bi, ↓w_isi, ↓w_bm, ↓w_bk, ↓w_frz, ↓w_not, ↓w_ite, ↓w_tup, ↓w_lst, ↓w_mu, ↓w_call, ↓w_lc, ↓w_lc2, ↓w_bop, ↓w_b1, ↓w_b2, ↓w_es0, ↓w_es, ↓w_as0, ↓w_as1, ↓w_as2, ↓w_c0, ↓w_c1, ↓w_seq, ↓w_range1, ↓w_range2, ↓w_enum, ↓w_zip, ↓s_nil, ↓s_one, ↓s_consN, ↓s_set, ↓s_setAt, ↓s_par, ↓s_aug, ↓s_expr, ↓s_ite, ↓s_for, ↓s_ret, ↓s_retN, ↓s_brk, ↓s_cont, ↓s_pass, ↓wpo_some, ↓wp_ok, ↓wpc_ok, ↓wps_nx, ↓wps_rt, ↓wps_bk, ↓wps_ct, ↓wpb_bl, ↓wpi_int, ↓wpo_need, ↓wpo_bind, ↓wpo_map, need_t, getE_0, getE_s, getE_1, getE_2, getE_3, getE_4, getE_5, getE_6, getE_7, getE_8, getE_9, getE_10, getE_11, getE_12, getE_13, getE_14, getE_15, List.set_cons_zero, List.set_cons_succ, asgT, asgTs, unpk, opUn, obSem, opIsi, bmSem, bkSem, Ev.numsOf, isLst, itemsOf, itemsZ, fillAs, backAs, augOp, E.v, E.q, Es.q, Es.vs, As.q, ownOk, PV.pure, pures, PV.frz, frzs, PV.isN, Bool.and_true, Bool.true_and, Bool.or_true, Bool.true_or, Bool.not_true, Bool.not_false, Bool.false_and, Bool.and_false, Bool.or_false, Bool.false_or, List.length_cons, List.length_nil, List.map_cons, List.map_nil, List.replicate, List.cons_append, List.nil_append, true_and, and_true, if_true, Option.isSome_some, backIo, Ev.op_add, Ev.op_sub, Ev.op_mul, Ev.op_div, Ev.op_mod, Ev.op_pow, Ev.op_and, Ev.op_or, Ev.op_lcat, Ev.op_tcat, cmp_lt, cmp_le, cmp_gt, cmp_ge, cmp_is, cmp_isn, sub_t0, sub_t1, sub_t2, sub_l0, sub_l1, sub_l2, sub_tn, sub_ln, eq_self, decide_true, decide_false, exists_eq_left', wipeE, backE, lenOk_0, lenOk_1, lenOk_2, lenOk_3, lenOk_4, lenOk_5, lenOk_6, Nat.reduceAdd, Nat.reduceLT, Nat.reduceLeDiff, Nat.reduceSub, Nat.reduceEqDiff, ne_eq, not_false_eq_true, not_true_eq_false, decide_eq_true_eq, List.mem_cons, List.not_mem_nil, or_false, false_or, true_or, or_true, if_false, Option.map_some, decide_not, decide_true, decide_false, Nat.lt_irrefl, cmp_eq, cmp_ne, cmp_eqb, cmp_neb, List.any_cons, List.any_nil, reduceCtorEq, beq_self_eq_true, Bool.or_self, plainOwn, List.all_cons, List.all_nil, PV.lst.injEq, mu_append, mu_reverse, mu_pop, List.getElem?_cons_succ, List.getElem?_cons_zero, List.getElem?_nil, Option.bind_some, Option.bind_none, id, pures_int, frzs_int, S2, if_neg Bool.false_ne_true]
    rw [seqN_app]
    have fin := sh_tail (d := d) (ns := ns) (D := D1) (n := n) (rising := rising) (x4 := some (.lst true (((List.range rows.length).map fun j => pay s rows j).map .int))) (x10 := y10) (x11 := y11) (x12 := x12) (x7 := x7) (T := T) (Bq := Bq) hR hok hD1 (by omega) hs hy5
    simp only [↓reduceIte, ↓w_lit, ↓w_rd, ↓w_vw, ↓w_fz, ↓w_mv, ↓w_bin, ↓w_un, ↓w_cmp, ↓w_sub, ↓w_slc, ↓w_bi, ↓w_isi, ↓w_bm, ↓w_bk, ↓w_frz, ↓w_not, ↓w_ite, ↓w_tup, ↓w_lst, ↓w_mu, ↓w_call, ↓w_lc, ↓w_lc2, ↓w_bop, ↓w_b1, ↓w_b2, ↓w_es0, ↓w_es, ↓w_as0, ↓w_as1, ↓w_as2, ↓w_c0, ↓w_c1, ↓w_seq, ↓w_range1, ↓w_range2, ↓w_enum, ↓w_zip, ↓s_nil, ↓s_one, ↓s_consN, ↓s_set, ↓s_setAt, ↓s_par, ↓s_aug, ↓s_expr, ↓s_ite, ↓s_for, ↓s_ret, ↓s_retN, ↓s_brk, ↓s_cont, ↓s_pass, ↓wpo_some, ↓wp_ok, ↓wpc_ok, ↓wps_nx, ↓wps_rt, ↓wps_bk, ↓wps_ct, ↓wpb_bl, ↓wpi_int, ↓wpo_need, ↓wpo_bind, ↓wpo_map, need_t, getE_0, getE_s, getE_1, getE_2, getE_3, getE_4, getE_5, getE_6, getE_7, getE_8, getE_9, getE_10, getE_11, getE_12, getE_13, getE_14, getE_15, List.set_cons_zero, List.set_cons_succ, asgT, asgTs, unpk, opUn, obSem, opIsi, bmSem, bkSem, Ev.numsOf, isLst, itemsOf, itemsZ, fillAs, backAs, augOp, E.v, E.q, Es.q, Es.vs, As.q, ownOk, PV.pure, pures, PV.frz, frzs, PV.isN, Bool.and_true, Bool.true_and, Bool.or_true, Bool.true_or, Bool.not_true, Bool.not_false, Bool.false_and, Bool.and_false, Bool.or_false, Bool.false_or, List.length_cons, List.length_nil, List.map_cons, List.map_nil, List.replicate, List.cons_append, List.nil_append, true_and, and_true, if_true, Option.isSome_some, backIo, Ev.op_add, Ev.op_sub, Ev.op_mul, Ev.op_div, Ev.op_mod, Ev.op_pow, Ev.op_and, Ev.op_or, Ev.op_lcat, Ev.op_tcat, cmp_lt, cmp_le, cmp_gt, cmp_ge, cmp_is, cmp_isn, sub_t0, sub_t1, sub_t2, sub_l0, sub_l1, sub_l2, sub_tn, sub_ln, eq_self, decide_true, decide_false, exists_eq_left', wipeE, backE, lenOk_0, lenOk_1, lenOk_2, lenOk_3, lenOk_4, lenOk_5, lenOk_6, Nat.reduceAdd, Nat.reduceLT, Nat.reduceLeDiff, Nat.reduceSub, Nat.reduceEqDiff, ne_eq, not_false_eq_true, not_true_eq_false, decide_eq_true_eq, List.mem_cons, List.not_mem_nil, or_false, false_or, true_or, or_true, if_false, Option.map_some, decide_not, decide_true, decide_false, Nat.lt_irrefl, cmp_eq, cmp_ne, cmp_eqb, cmp_neb, List.any_cons, List.any_nil, reduceCtorEq, beq_self_eq_true, Bool.or_self, plainOwn, List.all_cons, List.all_nil, PV.lst.injEq, mu_append, mu_reverse, mu_pop, List.getElem?_cons_succ, List.getElem?_cons_zero, List.getElem?_nil, Option.bind_some, Option.bind_none, id, pure_BV]
    refine if_c _ (fun hr => ?_) fun hr => ?_
    · show wpo (obSem .len [BV rows]) _
      rw [len_BV]
      simp only [↓reduceIte, ↓w_lit, ↓w_rd, ↓w_vw, ↓w_fz, ↓w_mv, ↓w_bin, ↓w_un, ↓w_cmp, ↓w_sub, ↓w_slc, ↓w_bi, ↓w_isi, ↓w_bm, ↓w_bk, ↓w_frz, ↓w_not, ↓w_ite, ↓w_tup, ↓w_lst, ↓w_mu, ↓w_call, ↓w_lc, ↓w_lc2, ↓w_bop, ↓w_b1, ↓w_b2, ↓w_es0, ↓w_es, ↓w_as0, ↓w_as1, ↓w_as2, ↓w_c0, ↓w_c1, ↓w_seq, ↓w_range1, ↓w_range2, ↓w_enum, ↓w_zip, ↓s_nil, ↓s_one, ↓s_consN, ↓s_set, ↓s_setAt, ↓s_par, ↓s_aug, ↓s_expr, ↓s_ite, ↓s_for, ↓s_ret, ↓s_retN, ↓s_brk, ↓s_cont, ↓s_pass, ↓wpo_some, ↓wp_ok, ↓wpc_ok, ↓wps_nx, ↓wps_rt, ↓wps_bk, ↓wps_ct, ↓wpb_bl, ↓wpi_int, ↓wpo_need, ↓wpo_bind, ↓wpo_map, need_t, getE_0, getE_s, getE_1, getE_2, getE_3, getE_4, getE_5, getE_6, getE_7, getE_8, getE_9, getE_10, getE_11, getE_12, getE_13, getE_14, getE_15, List.set_cons_zero, List.set_cons_succ, asgT, asgTs, unpk, opUn, obSem, opIsi, bmSem, bkSem, Ev.numsOf, isLst, itemsOf, itemsZ, fillAs, backAs, augOp, E.v, E.q, Es.q, Es.vs, As.q, ownOk, PV.pure, pures, PV.frz, frzs, PV.isN, Bool.and_true, Bool.true_and, Bool.or_true, Bool.true_or, Bool.not_true, Bool.not_false, Bool.false_and, Bool.and_false, Bool.or_false, Bool.false_or, List.length_cons, List.length_nil, List.map_cons, List.map_nil, List.replicate, List.cons_append, List.nil_append, true_and, and_true, if_true, Option.isSome_some, backIo, Ev.op_add, Ev.op_sub, Ev.op_mul, Ev.op_div, Ev.op_mod, Ev.op_pow, Ev.op_and, Ev.op_or, Ev.op_lcat, Ev.op_tcat, cmp_lt, cmp_le, cmp_gt, cmp_ge, cmp_is, cmp_isn, sub_t0, sub_t1, sub_t2, sub_l0, sub_l1, sub_l2, sub_tn, sub_ln, eq_self, decide_true, decide_false, exists_eq_left', wipeE, backE, lenOk_0, lenOk_1, lenOk_2, lenOk_3, lenOk_4, lenOk_5, lenOk_6, Nat.reduceAdd, Nat.reduceLT, Nat.reduceLeDiff, Nat.reduceSub, Nat.reduceEqDiff, ne_eq, not_false_eq_true, not_true_eq_false, decide_eq_true_eq, List.mem_cons, List.not_mem_nil, or_false, false_or, true_or, or_true, if_false, Option.map_some, decide_not, decide_true, decide_false, Nat.lt_irrefl, cmp_eq, cmp_ne, cmp_eqb, cmp_neb, List.any_cons, List.any_nil, reduceCtorEq, beq_self_eq_true, Bool.or_self, plainOwn, List.all_cons, List.all_nil, PV.lst.injEq, mu_append, mu_reverse, mu_pop, List.getElem?_cons_succ, List.getElem?_cons_zero, List.getElem?_nil, Option.bind_some, Option.bind_none, id]
      rw [rangeP_map]
      refine ⟨bnd_of (by omega), ?_, ?_⟩
      · rw [lenOk_of (by simp; omega)]
        cases y5 with
        | none => rfl
        | some p => show (p.pure && true) = true; rw [hy5 p rfl]; rfl
      refine lc_map (fun i : Nat => PV.int (i : Int)) (fun i => [PV.bl false]) (fun ρ => ∃ y, ρ = FE ns D1 (some (.lst false [.int (n : Int), .int (s : Int)])) (some (TV (bs s rows))) (some (.lst true (((List.range rows.length).map fun j => pay s rows j).map .int))) y (some (RV ((List.range rows.length).map fun j => pay s rows j))) x7 (some (BV rows)) (some (.int rising)) y10 y11 x12) _ ⟨_, rfl⟩ ?_ ?_
      · rintro k hk ρ ⟨y, rfl⟩
        have hk := List.mem_range.mp hk
        have hkt : k < (bs s rows).length := by omega
        have q1 : opSub [RV ((List.range rows.length).map fun j => pay s rows j), .int (k : Int)] = some (.int (pay s rows k)) := by
          rw [sub_RV (by simpa using hk)]
          simp [List.getD, hk]
        obtain ⟨pb1, pb2⟩ := pay_bounds s2 hR hz hk
        have d1 : ¬ (pay s rows k < 0) := by omega
        have d2 : ¬ ((rows.getD k []).getD ((bs s rows).getD k 0) 0 < pay s rows k) := by omega
        simp only [FE, ↓reduceIte, ↓w_lit, ↓w_rd, ↓w_vw, ↓w_fz, ↓w_mv, ↓w_bin, ↓w_un, ↓w_cmp, ↓w_sub, ↓w_slc, ↓w_bi, ↓w_isi, ↓w_bm, ↓w_bk, ↓w_frz, ↓w_not, ↓w_ite, ↓w_tup, ↓w_lst, ↓w_mu, ↓w_call, ↓w_lc, ↓w_lc2, ↓w_bop, ↓w_b1, ↓w_b2, ↓w_es0, ↓w_es, ↓w_as0, ↓w_as1, ↓w_as2, ↓w_c0, ↓w_c1, ↓w_seq, ↓w_range1, ↓w_range2, ↓w_enum, ↓w_zip, ↓s_nil, ↓s_one, ↓s_consN, ↓s_set, ↓s_setAt, ↓s_par, ↓s_aug, ↓s_expr, ↓s_ite, ↓s_for, ↓s_ret, ↓s_retN, ↓s_brk, ↓s_cont, ↓s_pass, ↓wpo_some, ↓wp_ok, ↓wpc_ok, ↓wps_nx, ↓wps_rt, ↓wps_bk, ↓wps_ct, ↓wpb_bl, ↓wpi_int, ↓wpo_need, ↓wpo_bind, ↓wpo_map, need_t, getE_0, getE_s, getE_1, getE_2, getE_3, getE_4, getE_5, getE_6, getE_7, getE_8, getE_9, getE_10, getE_11, getE_12, getE_13, getE_14, getE_15, List.set_cons_zero, List.set_cons_succ, asgT, asgTs, unpk, opUn, obSem, opIsi, bmSem, bkSem, Ev.numsOf, isLst, itemsOf, itemsZ, fillAs, backAs, augOp, E.v, E.q, Es.q, Es.vs, As.q, ownOk, PV.pure, pures, PV.frz, frzs, PV.isN, Bool.and_true, Bool.true_and, Bool.or_true, Bool.true_or, Bool.not_true, Bool.not_false, Bool.false_and, Bool.and_false, Bool.or_false, Bool.false_or, List.length_cons, List.length_nil, List.map_cons, List.map_nil, List.replicate, List.cons_append, List.nil_append, true_and, and_true, if_true, Option.isSome_some, backIo, Ev.op_add, Ev.op_sub, Ev.op_mul, Ev.op_div, Ev.op_mod, Ev.op_pow, Ev.op_and, Ev.op_or, Ev.op_lcat, Ev.op_tcat, cmp_lt, cmp_le, cmp_gt, cmp_ge, cmp_is, cmp_isn, sub_t0, sub_t1, sub_t2, sub_l0, sub_l1, sub_l2, sub_tn, sub_ln, eq_self, decide_true, decide_false, exists_eq_left', wipeE, backE, lenOk_0, lenOk_1, lenOk_2, lenOk_3, lenOk_4, lenOk_5, lenOk_6, Nat.reduceAdd, Nat.reduceLT, Nat.reduceLeDiff, Nat.reduceSub, Nat.reduceEqDiff, ne_eq, not_false_eq_true, not_true_eq_false, decide_eq_true_eq, List.mem_cons, List.not_mem_nil, or_false, false_or, true_or, or_true, if_false, Option.map_some, decide_not, decide_true, decide_false, Nat.lt_irrefl, cmp_eq, cmp_ne, cmp_eqb, cmp_neb, List.any_cons, List.any_nil, reduceCtorEq, beq_self_eq_true, Bool.or_self, plainOwn, List.all_cons, List.all_nil, PV.lst.injEq, mu_append, mu_reverse, mu_pop, List.getElem?_cons_succ, List.getElem?_cons_zero, List.getElem?_nil, Option.bind_some, Option.bind_none, id, ↓w_elt, pure_BV, pure_TV, pure_RV, q1, sub_BV hk, sub_TV hkt, sub_RV (at_len ft hk), d1, d2, if_neg Bool.false_ne_true]
        exact ⟨_, rfl⟩
      · rintro ρ ⟨y, rfl⟩
        have hf : ∀ p ∈ (List.range rows.length).flatMap (fun i => [PV.bl false]), p = .bl false := fun p hp => by
          obtain ⟨i, _, h⟩ := List.mem_flatMap.mp hp
          simpa using h
        rw [in_f hf]
        simp only [FE, ↓reduceIte, ↓w_lit, ↓w_rd, ↓w_vw, ↓w_fz, ↓w_mv, ↓w_bin, ↓w_un, ↓w_cmp, ↓w_sub, ↓w_slc, ↓w_bi, ↓w_isi, ↓w_bm, ↓w_bk, ↓w_frz, ↓w_not, ↓w_ite, ↓w_tup, ↓w_lst, ↓w_mu, ↓w_call, ↓w_lc, ↓w_lc2, ↓w_bop, ↓w_b1, ↓w_b2, ↓w_es0, ↓w_es, ↓w_as0, ↓w_as1, ↓w_as2, ↓w_c0, ↓w_c1, ↓w_seq, ↓w_range1, ↓w_range2, ↓w_enum, ↓w_zip, ↓s_nil, ↓s_one, ↓s_consN, ↓s_set, ↓s_setAt, ↓s_par, ↓s_aug, ↓s_expr, ↓s_ite, ↓s_for, ↓s_ret, ↓s_retN, ↓s_brk, ↓s_cont, ↓s_pass, ↓wpo_some, ↓wp_ok, ↓wpc_ok, ↓wps_nx, ↓wps_rt, ↓wps_bk, ↓wps_ct, ↓wpb_bl, ↓wpi_int, ↓wpo_need, ↓wpo_bind, ↓wpo_map, need_t, getE_0, getE_s, getE_1, getE_2, getE_3, getE_4, getE_5, getE_6, getE_7, getE_8, getE_9, getE_10, getE_11, getE_12, getE_13, getE_14, getE_15, List.set_cons_zero, List.set_cons_succ, asgT, asgTs, unpk, opUn, obSem, opIsi, bmSem, bkSem, Ev.numsOf, isLst, itemsOf, itemsZ, fillAs, backAs, augOp, E.v, E.q, Es.q, Es.vs, As.q, ownOk, PV.pure, pures, PV.frz, frzs, PV.isN, Bool.and_true, Bool.true_and, Bool.or_true, Bool.true_or, Bool.not_true, Bool.not_false, Bool.false_and, Bool.and_false, Bool.or_false, Bool.false_or, List.length_cons, List.length_nil, List.map_cons, List.map_nil, List.replicate, List.cons_append, List.nil_append, true_and, and_true, if_true, Option.isSome_some, backIo, Ev.op_add, Ev.op_sub, Ev.op_mul, Ev.op_div, Ev.op_mod, Ev.op_pow, Ev.op_and, Ev.op_or, Ev.op_lcat, Ev.op_tcat, cmp_lt, cmp_le, cmp_gt, cmp_ge, cmp_is, cmp_isn, sub_t0, sub_t1, sub_t2, sub_l0, sub_l1, sub_l2, sub_tn, sub_ln, eq_self, decide_true, decide_false, exists_eq_left', wipeE, backE, lenOk_0, lenOk_1, lenOk_2, lenOk_3, lenOk_4, lenOk_5, lenOk_6, Nat.reduceAdd, Nat.reduceLT, Nat.reduceLeDiff, Nat.reduceSub, Nat.reduceEqDiff, ne_eq, not_false_eq_true, not_true_eq_false, decide_eq_true_eq, List.mem_cons, List.not_mem_nil, or_false, false_or, true_or, or_true, if_false, Option.map_some, decide_not, decide_true, decide_false, Nat.lt_irrefl, cmp_eq, cmp_ne, cmp_eqb, cmp_neb, List.any_cons, List.any_nil, reduceCtorEq, beq_self_eq_true, Bool.or_self, plainOwn, List.all_cons, List.all_nil, PV.lst.injEq, mu_append, mu_reverse, mu_pop, List.getElem?_cons_succ, List.getElem?_cons_zero, List.getElem?_nil, Option.bind_some, Option.bind_none, id, if_neg Bool.false_ne_true]
        exact fin
    · rw [if_neg hr]; exact fin
end K78

set_option Elab.async false
set_option linter.all false
set_option maxRecDepth 100000
set_option maxHeartbeats 4000000
set_option autoImplicit false
namespace K78
open PySem PySem.Spec PyProof.Rows L2 Ev
theorem first_t {d : Nat} {ns : List Int} (hn : ns.length ≤ 63) : run (d + 5) 20 [.scr ns] = .ok (.bl true) [.scr ns] := by
  refine eq_of (w_fn at_law_first_half rfl ?_)
  simp only [f_law_first_half, ↓reduceIte, ↓w_lit, ↓w_rd, ↓w_vw, ↓w_fz, ↓w_mv, ↓w_bin, ↓w_un, ↓w_cmp, ↓w_sub, ↓w_slc, ↓w_bi, ↓w_isi, ↓w_bm, ↓w_bk, ↓w_frz, ↓w_not, ↓w_ite, ↓w_tup, ↓w_lst, ↓w_mu, ↓w_call, ↓w_lc, ↓w_lc2, ↓w_bop, ↓w_b1, ↓w_b2, ↓w_es0, ↓w_es, ↓w_as0, ↓w_as1, ↓w_as2, ↓w_c0, ↓w_c1, ↓w_seq, ↓w_range1, ↓w_range2, ↓w_enum, ↓w_zip, ↓s_nil, ↓s_one, ↓s_consN, ↓s_set, ↓s_setAt, ↓s_par, ↓s_aug, ↓s_expr, ↓s_ite, ↓s_for, ↓s_ret, ↓s_retN, ↓s_brk, ↓s_cont, ↓s_pass, ↓wpo_some, ↓wp_ok, ↓wpc_ok, ↓wps_nx, ↓wps_rt, ↓wps_bk, ↓wps_ct, ↓wpb_bl, ↓wpi_int, ↓wpo_need, ↓wpo_bind, ↓wpo_map, need_t, getE_0, getE_s, getE_1, getE_2, getE_3, getE_4, getE_5, getE_6, getE_7, getE_8, getE_9, getE_10, getE_11, getE_12, getE_13, getE_14, getE_15, List.set_cons_zero, List.set_cons_succ, asgT, asgTs, unpk, opUn, obSem, opIsi, bmSem, bkSem, Ev.numsOf, isLst, itemsOf, itemsZ, fillAs, backAs, augOp, E.v, E.q, Es.q, Es.vs, As.q, ownOk, PV.pure, pures, PV.frz, frzs, PV.isN, Bool.and_true, Bool.true_and, Bool.or_true, Bool.true_or, Bool.not_true, Bool.not_false, Bool.false_and, Bool.and_false, Bool.or_false, Bool.false_or, List.length_cons, List.length_nil, List.map_cons, List.map_nil, List.replicate, List.cons_append, List.nil_append, true_and, and_true, if_true, Option.isSome_some, backIo, Ev.op_add, Ev.op_sub, Ev.op_mul, Ev.op_div, Ev.op_mod, Ev.op_pow, Ev.op_and, Ev.op_or, Ev.op_lcat, Ev.op_tcat, cmp_lt, cmp_le, cmp_gt, cmp_ge, cmp_is, cmp_isn, sub_t0, sub_t1, sub_t2, sub_l0, sub_l1, sub_l2, sub_tn, sub_ln, eq_self, decide_true, decide_false, exists_eq_left', wipeE, backE, lenOk_0, lenOk_1, lenOk_2, lenOk_3, lenOk_4, lenOk_5, lenOk_6, Nat.reduceAdd, Nat.reduceLT, Nat.reduceLeDiff, Nat.reduceSub, Nat.reduceEqDiff, ne_eq, not_false_eq_true, not_true_eq_false, decide_eq_true_eq, List.mem_cons, List.not_mem_nil, or_false, false_or, true_or, or_true, if_false, Option.map_some, decide_not, decide_true, decide_false, Nat.lt_irrefl, cmp_eq, cmp_ne, cmp_eqb, cmp_neb, List.any_cons, List.any_nil, reduceCtorEq, beq_self_eq_true, Bool.or_self, plainOwn, List.all_cons, List.all_nil, PV.lst.injEq, mu_append, mu_reverse, mu_pop, List.getElem?_cons_succ, List.getElem?_cons_zero, List.getElem?_nil, Option.bind_some, Option.bind_none, id]
  refine wpc_mono (draws_t (d := d + 3) (m := 400) (by decide) (by omega)) ?_
  rintro p l ⟨hD, rfl⟩
  simp only [↓reduceIte, ↓w_lit, ↓w_rd, ↓w_vw, ↓w_fz, ↓w_mv, ↓w_bin, ↓w_un, ↓w_cmp, ↓w_sub, ↓w_slc, ↓w_bi, ↓w_isi, ↓w_bm, ↓w_bk, ↓w_frz, ↓w_not, ↓w_ite, ↓w_tup, ↓w_lst, ↓w_mu, ↓w_call, ↓w_lc, ↓w_lc2, ↓w_bop, ↓w_b1, ↓w_b2, ↓w_es0, ↓w_es, ↓w_as0, ↓w_as1, ↓w_as2, ↓w_c0, ↓w_c1, ↓w_seq, ↓w_range1, ↓w_range2, ↓w_enum, ↓w_zip, ↓s_nil, ↓s_one, ↓s_consN, ↓s_set, ↓s_setAt, ↓s_par, ↓s_aug, ↓s_expr, ↓s_ite, ↓s_for, ↓s_ret, ↓s_retN, ↓s_brk, ↓s_cont, ↓s_pass, ↓wpo_some, ↓wp_ok, ↓wpc_ok, ↓wps_nx, ↓wps_rt, ↓wps_bk, ↓wps_ct, ↓wpb_bl, ↓wpi_int, ↓wpo_need, ↓wpo_bind, ↓wpo_map, need_t, getE_0, getE_s, getE_1, getE_2, getE_3, getE_4, getE_5, getE_6, getE_7, getE_8, getE_9, getE_10, getE_11, getE_12, getE_13, getE_14, getE_15, List.set_cons_zero, List.set_cons_succ, asgT, asgTs, unpk, opUn, obSem, opIsi, bmSem, bkSem, Ev.numsOf, isLst, itemsOf, itemsZ, fillAs, backAs, augOp, E.v, E.q, Es.q, Es.vs, As.q, ownOk, PV.pure, pures, PV.frz, frzs, PV.isN, Bool.and_true, Bool.true_and, Bool.or_true, Bool.true_or, Bool.not_true, Bool.not_false, Bool.false_and, Bool.and_false, Bool.or_false, Bool.false_or, List.length_cons, List.length_nil, List.map_cons, List.map_nil, List.replicate, List.cons_append, List.nil_append, true_and, and_true, if_true, Option.isSome_some, backIo, Ev.op_add, Ev.op_sub, Ev.op_mul, Ev.op_div, Ev.op_mod, Ev.op_pow, Ev.op_and, Ev.op_or, Ev.op_lcat, Ev.op_tcat, cmp_lt, cmp_le, cmp_gt, cmp_ge, cmp_is, cmp_isn, sub_t0, sub_t1, sub_t2, sub_l0, sub_l1, sub_l2, sub_tn, sub_ln, eq_self, decide_true, decide_false, exists_eq_left', wipeE, backE, lenOk_0, lenOk_1, lenOk_2, lenOk_3, lenOk_4, lenOk_5, lenOk_6, Nat.reduceAdd, Nat.reduceLT, Nat.reduceLeDiff, Nat.reduceSub, Nat.reduceEqDiff, ne_eq, not_false_eq_true, not_true_eq_false, decide_eq_true_eq, List.mem_cons, List.not_mem_nil, or_false, false_or, true_or, or_true, if_false, Option.map_some, decide_not, decide_true, decide_false, Nat.lt_irrefl, cmp_eq, cmp_ne, cmp_eqb, cmp_neb, List.any_cons, List.any_nil, reduceCtorEq, beq_self_eq_true, Bool.or_self, plainOwn, List.all_cons, List.all_nil, PV.lst.injEq, mu_append, mu_reverse, mu_pop, List.getElem?_cons_succ, List.getElem?_cons_zero, List.getElem?_nil, Option.bind_some, Option.bind_none, id]
  rw [seqN_app]
  simp only [↓reduceIte, ↓w_lit, ↓w_rd, ↓w_vw, ↓w_fz, ↓w_mv, ↓w_bin, ↓w_un, ↓w_cmp, ↓w_sub, ↓w_slc, ↓w_bi, ↓w_isi, ↓w_bm, ↓w_bk, ↓w_frz, ↓w_not, ↓w_ite, ↓w_tup, ↓w_lst, ↓w_mu, ↓w_call, ↓w_lc, ↓w_lc2, ↓w_bop, ↓w_b1, ↓w_b2, ↓w_es0, ↓w_es, ↓w_as0, ↓w_as1, ↓w_as2, ↓w_c0, ↓w_c1, ↓w_seq, ↓w_range1, ↓w_range2, ↓w_enum, ↓w_zip, ↓s_nil, ↓s_one, ↓s_consN, ↓s_set, ↓s_setAt, ↓s_par, ↓s_aug, ↓s_expr, ↓s_ite, ↓s_for, ↓s_ret, ↓s_retN, ↓s_brk, ↓s_cont, ↓s_pass, ↓wpo_some, ↓wp_ok, ↓wpc_ok, ↓wps_nx, ↓wps_rt, ↓wps_bk, ↓wps_ct, ↓wpb_bl, ↓wpi_int, ↓wpo_need, ↓wpo_bind, ↓wpo_map, need_t, getE_0, getE_s, getE_1, getE_2, getE_3, getE_4, getE_5, getE_6, getE_7, getE_8, getE_9, getE_10, getE_11, getE_12, getE_13, getE_14, getE_15, List.set_cons_zero, List.set_cons_succ, asgT, asgTs, unpk, opUn, obSem, opIsi, bmSem, bkSem, Ev.numsOf, isLst, itemsOf, itemsZ, fillAs, backAs, augOp, E.v, E.q, Es.q, Es.vs, As.q, ownOk, PV.pure, pures, PV.frz, frzs, PV.isN, Bool.and_true, Bool.true_and, Bool.or_true, Bool.true_or, Bool.not_true, Bool.not_false, Bool.false_and, Bool.and_false, Bool.or_false, Bool.false_or, List.length_cons, List.length_nil, List.map_cons, List.map_nil, List.replicate, List.cons_append, List.nil_append, true_and, and_true, if_true, Option.isSome_some, backIo, Ev.op_add, Ev.op_sub, Ev.op_mul, Ev.op_div, Ev.op_mod, Ev.op_pow, Ev.op_and, Ev.op_or, Ev.op_lcat, Ev.op_tcat, cmp_lt, cmp_le, cmp_gt, cmp_ge, cmp_is, cmp_isn, sub_t0, sub_t1, sub_t2, sub_l0, sub_l1, sub_l2, sub_tn, sub_ln, eq_self, decide_true, decide_false, exists_eq_left', wipeE, backE, lenOk_0, lenOk_1, lenOk_2, lenOk_3, lenOk_4, lenOk_5, lenOk_6, Nat.reduceAdd, Nat.reduceLT, Nat.reduceLeDiff, Nat.reduceSub, Nat.reduceEqDiff, ne_eq, not_false_eq_true, not_true_eq_false, decide_eq_true_eq, List.mem_cons, List.not_mem_nil, or_false, false_or, true_or, or_true, if_false, Option.map_some, decide_not, decide_true, decide_false, Nat.lt_irrefl, cmp_eq, cmp_ne, cmp_eqb, cmp_neb, List.any_cons, List.any_nil, reduceCtorEq, beq_self_eq_true, Bool.or_self, plainOwn, List.all_cons, List.all_nil, PV.lst.injEq, mu_append, mu_reverse, mu_pop, List.getElem?_cons_succ, List.getElem?_cons_zero, List.getElem?_nil, Option.bind_some, Option.bind_none, id]
  refine wpc_mono (take_t (m := 4) hD (by omega)) ?_
  rintro q l ⟨a, D1, rfl, rfl, hD1, a0, a1⟩
  simp only [↓reduceIte, ↓w_lit, ↓w_rd, ↓w_vw, ↓w_fz, ↓w_mv, ↓w_bin, ↓w_un, ↓w_cmp, ↓w_sub, ↓w_slc, ↓w_bi, ↓w_isi, ↓w_bm, ↓w_bk, ↓w_frz, ↓w_not, ↓w_ite, ↓w_tup, ↓w_lst, ↓w_mu, ↓w_call, ↓w_lc, ↓w_lc2, ↓w_bop, ↓w_b1, ↓w_b2, ↓w_es0, ↓w_es, ↓w_as0, ↓w_as1, ↓w_as2, ↓w_c0, ↓w_c1, ↓w_seq, ↓w_range1, ↓w_range2, ↓w_enum, ↓w_zip, ↓s_nil, ↓s_one, ↓s_consN, ↓s_set, ↓s_setAt, ↓s_par, ↓s_aug, ↓s_expr, ↓s_ite, ↓s_for, ↓s_ret, ↓s_retN, ↓s_brk, ↓s_cont, ↓s_pass, ↓wpo_some, ↓wp_ok, ↓wpc_ok, ↓wps_nx, ↓wps_rt, ↓wps_bk, ↓wps_ct, ↓wpb_bl, ↓wpi_int, ↓wpo_need, ↓wpo_bind, ↓wpo_map, need_t, getE_0, getE_s, getE_1, getE_2, getE_3, getE_4, getE_5, getE_6, getE_7, getE_8, getE_9, getE_10, getE_11, getE_12, getE_13, getE_14, getE_15, List.set_cons_zero, List.set_cons_succ, asgT, asgTs, unpk, opUn, obSem, opIsi, bmSem, bkSem, Ev.numsOf, isLst, itemsOf, itemsZ, fillAs, backAs, augOp, E.v, E.q, Es.q, Es.vs, As.q, ownOk, PV.pure, pures, PV.frz, frzs, PV.isN, Bool.and_true, Bool.true_and, Bool.or_true, Bool.true_or, Bool.not_true, Bool.not_false, Bool.false_and, Bool.and_false, Bool.or_false, Bool.false_or, List.length_cons, List.length_nil, List.map_cons, List.map_nil, List.replicate, List.cons_append, List.nil_append, true_and, and_true, if_true, Option.isSome_some, backIo, Ev.op_add, Ev.op_sub, Ev.op_mul, Ev.op_div, Ev.op_mod, Ev.op_pow, Ev.op_and, Ev.op_or, Ev.op_lcat, Ev.op_tcat, cmp_lt, cmp_le, cmp_gt, cmp_ge, cmp_is, cmp_isn, sub_t0, sub_t1, sub_t2, sub_l0, sub_l1, sub_l2, sub_tn, sub_ln, eq_self, decide_true, decide_false, exists_eq_left', wipeE, backE, lenOk_0, lenOk_1, lenOk_2, lenOk_3, lenOk_4, lenOk_5, lenOk_6, Nat.reduceAdd, Nat.reduceLT, Nat.reduceLeDiff, Nat.reduceSub, Nat.reduceEqDiff, ne_eq, not_false_eq_true, not_true_eq_false, decide_eq_true_eq, List.mem_cons, List.not_mem_nil, or_false, false_or, true_or, or_true, if_false, Option.map_some, decide_not, decide_true, decide_false, Nat.lt_irrefl, cmp_eq, cmp_ne, cmp_eqb, cmp_neb, List.any_cons, List.any_nil, reduceCtorEq, beq_self_eq_true, Bool.or_self, plainOwn, List.all_cons, List.all_nil, PV.lst.injEq, mu_append, mu_reverse, mu_pop, List.getElem?_cons_succ, List.getElem?_cons_zero, List.getElem?_nil, Option.bind_some, Option.bind_none, id]
  refine wpc_mono (take_t (m := 3) hD1 (by omega)) ?_
  rintro q l ⟨b, D2, rfl, rfl, hD2, b0, b1⟩
  simp only [↓reduceIte, ↓w_lit, ↓w_rd, ↓w_vw, ↓w_fz, ↓w_mv, ↓w_bin, ↓w_un, ↓w_cmp, ↓w_sub, ↓w_slc, ↓w_bi, ↓w_isi, ↓w_bm, ↓w_bk, ↓w_frz, ↓w_not, ↓w_ite, ↓w_tup, ↓w_lst, ↓w_mu, ↓w_call, ↓w_lc, ↓w_lc2, ↓w_bop, ↓w_b1, ↓w_b2, ↓w_es0, ↓w_es, ↓w_as0, ↓w_as1, ↓w_as2, ↓w_c0, ↓w_c1, ↓w_seq, ↓w_range1, ↓w_range2, ↓w_enum, ↓w_zip, ↓s_nil, ↓s_one, ↓s_consN, ↓s_set, ↓s_setAt, ↓s_par, ↓s_aug, ↓s_expr, ↓s_ite, ↓s_for, ↓s_ret, ↓s_retN, ↓s_brk, ↓s_cont, ↓s_pass, ↓wpo_some, ↓wp_ok, ↓wpc_ok, ↓wps_nx, ↓wps_rt, ↓wps_bk, ↓wps_ct, ↓wpb_bl, ↓wpi_int, ↓wpo_need, ↓wpo_bind, ↓wpo_map, need_t, getE_0, getE_s, getE_1, getE_2, getE_3, getE_4, getE_5, getE_6, getE_7, getE_8, getE_9, getE_10, getE_11, getE_12, getE_13, getE_14, getE_15, List.set_cons_zero, List.set_cons_succ, asgT, asgTs, unpk, opUn, obSem, opIsi, bmSem, bkSem, Ev.numsOf, isLst, itemsOf, itemsZ, fillAs, backAs, augOp, E.v, E.q, Es.q, Es.vs, As.q, ownOk, PV.pure, pures, PV.frz, frzs, PV.isN, Bool.and_true, Bool.true_and, Bool.or_true, Bool.true_or, Bool.not_true, Bool.not_false, Bool.false_and, Bool.and_false, Bool.or_false, Bool.false_or, List.length_cons, List.length_nil, List.map_cons, List.map_nil, List.replicate, List.cons_append, List.nil_append, true_and, and_true, if_true, Option.isSome_some, backIo, Ev.op_add, Ev.op_sub, Ev.op_mul, Ev.op_div, Ev.op_mod, Ev.op_pow, Ev.op_and, Ev.op_or, Ev.op_lcat, Ev.op_tcat, cmp_lt, cmp_le, cmp_gt, cmp_ge, cmp_is, cmp_isn, sub_t0, sub_t1, sub_t2, sub_l0, sub_l1, sub_l2, sub_tn, sub_ln, eq_self, decide_true, decide_false, exists_eq_left', wipeE, backE, lenOk_0, lenOk_1, lenOk_2, lenOk_3, lenOk_4, lenOk_5, lenOk_6, Nat.reduceAdd, Nat.reduceLT, Nat.reduceLeDiff, Nat.reduceSub, Nat.reduceEqDiff, ne_eq, not_false_eq_true, not_true_eq_false, decide_eq_true_eq, List.mem_cons, List.not_mem_nil, or_false, false_or, true_or, or_true, if_false, Option.map_some, decide_not, decide_true, decide_false, Nat.lt_irrefl, cmp_eq, cmp_ne, cmp_eqb, cmp_neb, List.any_cons, List.any_nil, reduceCtorEq, beq_self_eq_true, Bool.or_self, plainOwn, List.all_cons, List.all_nil, PV.lst.injEq, mu_append, mu_reverse, mu_pop, List.getElem?_cons_succ, List.getElem?_cons_zero, List.getElem?_nil, Option.bind_some, Option.bind_none, id]
  obtain ⟨a', rfl⟩ := Int.eq_ofNat_of_zero_le a0
  obtain ⟨b', rfl⟩ := Int.eq_ofNat_of_zero_le b0
  refine for_inv (fun xs ρ => (∀ x ∈ xs, ∃ n s : Nat, x = .lst false [.int (n : Int), .int (s : Int)] ∧ (1 ≤ n ∧ n ≤ 4) ∧ 2 ≤ s ∧ s ≤ 8) ∧ ∃ D' x2 x3 x4 x5 x6 x7 x8 x9 x10 x11 x12, ρ = FE ns D' x2 x3 x4 x5 x6 x7 x8 x9 x10 x11 x12 ∧ Dr D' ∧ okP x5) ?_ ?_ _ _ ⟨?_, D2, _, _, _, _, _, _, _, _, _, _, _, rfl, hD2, fun p hp => (nomatch hp)⟩
  · rintro x xs ρ ⟨hx, D', x2, x3, x4, x5, x6, x7, x8, x9, x10, x11, x12, rfl, hD', h5⟩
    obtain ⟨n, s, rfl, h1, h2⟩ := hx x (List.mem_cons_self ..)
    refine wps_mono (sh_step (d := d) (x3 := x3) (x4 := x4) (x6 := x6) (x7 := x7) (x8 := x8) (x9 := x9) (x10 := x10) (x11 := x11) (x12 := x12) (ns := ns) hD' h1 h2 h5) (fun ρ q => ⟨fun x h => hx x (List.mem_cons_of_mem _ h), q⟩) (fun _ _ q => q) (fun _ q => q) (fun _ q => q.elim)
  · rintro ρ ⟨hx, D', x2, x3, x4, x5, x6, x7, x8, x9, x10, x11, x12, rfl, hD', h5⟩
    dsimp only
    rw [seqN_app]
    simp only [FE, ↓reduceIte, ↓w_lit, ↓w_rd, ↓w_vw, ↓w_fz, ↓w_mv, ↓w_bin, ↓w_un, ↓w_cmp, ↓w_sub, ↓w_slc, ↓w_bi, ↓w_isi, ↓w_bm, ↓w_bk, ↓w_frz, ↓w_not, ↓w_ite, ↓w_tup, ↓w_lst, ↓w_mu, ↓w_call, ↓w_lc, ↓w_lc2, ↓w_bop, ↓w_b1, ↓w_b2, ↓w_es0, ↓w_es, ↓w_as0, ↓w_as1, ↓w_as2, ↓w_c0, ↓w_c1, ↓w_seq, ↓w_range1, ↓w_range2, ↓w_enum, ↓w_zip, ↓s_nil, ↓s_one, ↓s_consN, ↓s_set, ↓s_setAt, ↓s_par, ↓s_aug, ↓s_expr, ↓s_ite, ↓s_for, ↓s_ret, ↓s_retN, ↓s_brk, ↓s_cont, ↓s_pass, ↓wpo_some, ↓wp_ok, ↓wpc_ok, ↓wps_nx, ↓wps_rt, ↓wps_bk, ↓wps_ct, ↓wpb_bl, ↓wpi_int, ↓wpo_need, ↓wpo_bind, ↓wpo_map, need_t, getE_0, getE_s, getE_1, getE_2, getE_3, getE_4, getE_5, getE_6, getE_7, getE_8, getE_9, getE_10, getE_11, getE_12, getE_13, getE_14, getE_15, List.set_cons_zero, List.set_cons_succ, asgT, asgTs, unpk, opUn, obSem, opIsi, bmSem, bkSem, Ev.numsOf, isLst, itemsOf, itemsZ, fillAs, backAs, augOp, E.v, E.q, Es.q, Es.vs, As.q, ownOk, PV.pure, pures, PV.frz, frzs, PV.isN, Bool.and_true, Bool.true_and, Bool.or_true, Bool.true_or, Bool.not_true, Bool.not_false, Bool.false_and, Bool.and_false, Bool.or_false, Bool.false_or, List.length_cons, List.length_nil, List.map_cons, List.map_nil, List.replicate, List.cons_append, List.nil_append, true_and, and_true, if_true, Option.isSome_some, backIo, Ev.op_add, Ev.op_sub, Ev.op_mul, Ev.op_div, Ev.op_mod, Ev.op_pow, Ev.op_and, Ev.op_or, Ev.op_lcat, Ev.op_tcat, cmp_lt, cmp_le, cmp_gt, cmp_ge, cmp_is, cmp_isn, sub_t0, sub_t1, sub_t2, sub_l0, sub_l1, sub_l2, sub_tn, sub_ln, eq_self, decide_true, decide_false, exists_eq_left', wipeE, backE, lenOk_0, lenOk_1, lenOk_2, lenOk_3, lenOk_4, lenOk_5, lenOk_6, Nat.reduceAdd, Nat.reduceLT, Nat.reduceLeDiff, Nat.reduceSub, Nat.reduceEqDiff, ne_eq, not_false_eq_true, not_true_eq_false, decide_eq_true_eq, List.mem_cons, List.not_mem_nil, or_false, false_or, true_or, or_true, if_false, Option.map_some, decide_not, decide_true, decide_false, Nat.lt_irrefl, cmp_eq, cmp_ne, cmp_eqb, cmp_neb, List.any_cons, List.any_nil, reduceCtorEq, beq_self_eq_true, Bool.or_self, plainOwn, List.all_cons, List.all_nil, PV.lst.injEq, mu_append, mu_reverse, mu_pop, List.getElem?_cons_succ, List.getElem?_cons_zero, List.getElem?_nil, Option.bind_some, Option.bind_none, id]
  · intro x hx
    simp only [List.mem_cons, List.not_mem_nil, or_false] at hx
    rcases hx with e | e | e | e
    · exact ⟨1 + a', 4, by rw [e]; congr 1, by omega, by omega, by omega⟩
    · exact ⟨1 + b', 8, by rw [e]; congr 1, by omega, by omega, by omega⟩
    · exact ⟨3, 2, e, by omega, by omega, by omega⟩
    · exact ⟨4, 2, e, by omega, by omega, by omega⟩
theorem law_t {d : Nat} {ns : List Int} (hn : ns.length ≤ 63) : run (d + 7) 30 [.scr ns] = .ok (.bl true) [.scr ns] := by
  refine eq_of (w_fn at_law rfl ?_)
  have A := first_t (d := d + 1) hn
  have B := second_t (d := d) hn
  simp only [f_law, ↓reduceIte, ↓w_lit, ↓w_rd, ↓w_vw, ↓w_fz, ↓w_mv, ↓w_bin, ↓w_un, ↓w_cmp, ↓w_sub, ↓w_slc, ↓w_bi, ↓w_isi, ↓w_bm, ↓w_bk, ↓w_frz, ↓w_not, ↓w_ite, ↓w_tup, ↓w_lst, ↓w_mu, ↓w_call, ↓w_lc, ↓w_lc2, ↓w_bop, ↓w_b1, ↓w_b2, ↓w_es0, ↓w_es, ↓w_as0, ↓w_as1, ↓w_as2, ↓w_c0, ↓w_c1, ↓w_seq, ↓w_range1, ↓w_range2, ↓w_enum, ↓w_zip, ↓s_nil, ↓s_one, ↓s_consN, ↓s_set, ↓s_setAt, ↓s_par, ↓s_aug, ↓s_expr, ↓s_ite, ↓s_for, ↓s_ret, ↓s_retN, ↓s_brk, ↓s_cont, ↓s_pass, ↓wpo_some, ↓wp_ok, ↓wpc_ok, ↓wps_nx, ↓wps_rt, ↓wps_bk, ↓wps_ct, ↓wpb_bl, ↓wpi_int, ↓wpo_need, ↓wpo_bind, ↓wpo_map, need_t, getE_0, getE_s, getE_1, getE_2, getE_3, getE_4, getE_5, getE_6, getE_7, getE_8, getE_9, getE_10, getE_11, getE_12, getE_13, getE_14, getE_15, List.set_cons_zero, List.set_cons_succ, asgT, asgTs, unpk, opUn, obSem, opIsi, bmSem, bkSem, Ev.numsOf, isLst, itemsOf, itemsZ, fillAs, backAs, augOp, E.v, E.q, Es.q, Es.vs, As.q, ownOk, PV.pure, pures, PV.frz, frzs, PV.isN, Bool.and_true, Bool.true_and, Bool.or_true, Bool.true_or, Bool.not_true, Bool.not_false, Bool.false_and, Bool.and_false, Bool.or_false, Bool.false_or, List.length_cons, List.length_nil, List.map_cons, List.map_nil, List.replicate, List.cons_append, List.nil_append, true_and, and_true, if_true, Option.isSome_some, backIo, Ev.op_add, Ev.op_sub, Ev.op_mul, Ev.op_div, Ev.op_mod, Ev.op_pow, Ev.op_and, Ev.op_or, Ev.op_lcat, Ev.op_tcat, cmp_lt, cmp_le, cmp_gt, cmp_ge, cmp_is, cmp_isn, sub_t0, sub_t1, sub_t2, sub_l0, sub_l1, sub_l2, sub_tn, sub_ln, eq_self, decide_true, decide_false, exists_eq_left', wipeE, backE, lenOk_0, lenOk_1, lenOk_2, lenOk_3, lenOk_4, lenOk_5, lenOk_6, Nat.reduceAdd, Nat.reduceLT, Nat.reduceLeDiff, Nat.reduceSub, Nat.reduceEqDiff, ne_eq, not_false_eq_true, not_true_eq_false, decide_eq_true_eq, List.mem_cons, List.not_mem_nil, or_false, false_or, true_or, or_true, if_false, Option.map_some, decide_not, decide_true, decide_false, Nat.lt_irrefl, cmp_eq, cmp_ne, cmp_eqb, cmp_neb, List.any_cons, List.any_nil, reduceCtorEq, beq_self_eq_true, Bool.or_self, plainOwn, List.all_cons, List.all_nil, PV.lst.injEq, mu_append, mu_reverse, mu_pop, List.getElem?_cons_succ, List.getElem?_cons_zero, List.getElem?_nil, Option.bind_some, Option.bind_none, id, A, B]
end K78

set_option Elab.async false
set_option linter.all false
set_option maxRecDepth 100000
set_option maxHeartbeats 0
set_option autoImplicit false
namespace K78
open PySem PySem.Spec PyProof.Rows L2 Ev

def top (i : Nat) : Stmt := PySem.Challenge.pw_eachsmove_k78_whole_best_sharings_and_fr.main.body.getD i (.Pass ⟨0, 0, 0, 0⟩)
def free : List Str := ["abs", "all", "bool", "enumerate", "int", "isinstance", "len", "list", "max", "range", "str", "sum", "tuple", "zip"]
def mods : List (Str × String) := [("gcd", "math.gcd")]
def mc : MC := { N := [], fnm := fnms tbl, gnm := [], free := free, mods := mods }
abbrev s_second_price : Stmt := top 2
theorem b_second_price : defB { mc with N := f_second_price.N } f_second_price s_second_price = true := by decide +kernel
abbrev s_sharings : Stmt := top 3
theorem b_sharings : defB { mc with N := f_sharings.N } f_sharings s_sharings = true := by decide +kernel
abbrev s_is_free : Stmt := top 4
theorem b_is_free : defB { mc with N := f_is_free.N } f_is_free s_is_free = true := by decide +kernel
abbrev s_worth_of_sharing : Stmt := top 5
theorem b_worth_of_sharing : defB { mc with N := f_worth_of_sharing.N } f_worth_of_sharing s_worth_of_sharing = true := by decide +kernel
abbrev s_best_sharing : Stmt := top 6
theorem b_best_sharing : defB { mc with N := f_best_sharing.N } f_best_sharing s_best_sharing = true := by decide +kernel
abbrev s_payments : Stmt := top 7
theorem b_payments : defB { mc with N := f_payments.N } f_payments s_payments = true := by decide +kernel
abbrev s_fraction : Stmt := top 9
theorem b_fraction : defB { mc with N := f_fraction.N } f_fraction s_fraction = true := by decide +kernel
abbrev s_add : Stmt := top 10
theorem b_add : defB { mc with N := f_add.N } f_add s_add = true := by decide +kernel
abbrev s_subtract : Stmt := top 11
theorem b_subtract : defB { mc with N := f_subtract.N } f_subtract s_subtract = true := by decide +kernel
abbrev s_multiply : Stmt := top 12
theorem b_multiply : defB { mc with N := f_multiply.N } f_multiply s_multiply = true := by decide +kernel
abbrev s_divide : Stmt := top 13
theorem b_divide : defB { mc with N := f_divide.N } f_divide s_divide = true := by decide +kernel
abbrev s_compare_fractions : Stmt := top 14
theorem b_compare_fractions : defB { mc with N := f_compare_fractions.N } f_compare_fractions s_compare_fractions = true := by decide +kernel
abbrev s_law_draws : Stmt := top 16
theorem b_law_draws : defB { mc with N := f_law_draws.N } f_law_draws s_law_draws = true := by decide +kernel
abbrev s_law_take : Stmt := top 17
theorem b_law_take : defB { mc with N := f_law_take.N } f_law_take s_law_take = true := by decide +kernel
abbrev s_law_pick : Stmt := top 18
theorem b_law_pick : defB { mc with N := f_law_pick.N } f_law_pick s_law_pick = true := by decide +kernel
abbrev s_law_same : Stmt := top 19
theorem b_law_same : defB { mc with N := f_law_same.N } f_law_same s_law_same = true := by decide +kernel
abbrev s_law_sharings : Stmt := top 20
theorem b_law_sharings : defB { mc with N := f_law_sharings.N } f_law_sharings s_law_sharings = true := by decide +kernel
abbrev s_law_sum_of_bids : Stmt := top 21
theorem b_law_sum_of_bids : defB { mc with N := f_law_sum_of_bids.N } f_law_sum_of_bids s_law_sum_of_bids = true := by decide +kernel
abbrev s_law_best : Stmt := top 22
theorem b_law_best : defB { mc with N := f_law_best.N } f_law_best s_law_best = true := by decide +kernel
abbrev s_law_drawn_bids : Stmt := top 23
theorem b_law_drawn_bids : defB { mc with N := f_law_drawn_bids.N } f_law_drawn_bids s_law_drawn_bids = true := by decide +kernel
abbrev s_law_first_half : Stmt := top 24
theorem b_law_first_half : defB { mc with N := f_law_first_half.N } f_law_first_half s_law_first_half = true := by decide +kernel
abbrev s_law_gcd : Stmt := top 25
theorem b_law_gcd : defB { mc with N := f_law_gcd.N } f_law_gcd s_law_gcd = true := by decide +kernel
abbrev s_law_frac : Stmt := top 26
theorem b_law_frac : defB { mc with N := f_law_frac.N } f_law_frac s_law_frac = true := by decide +kernel
abbrev s_law_plus : Stmt := top 27
theorem b_law_plus : defB { mc with N := f_law_plus.N } f_law_plus s_law_plus = true := by decide +kernel
abbrev s_law_minus : Stmt := top 28
theorem b_law_minus : defB { mc with N := f_law_minus.N } f_law_minus s_law_minus = true := by decide +kernel
abbrev s_law_product : Stmt := top 29
theorem b_law_product : defB { mc with N := f_law_product.N } f_law_product s_law_product = true := by decide +kernel
abbrev s_law_quotient : Stmt := top 30
theorem b_law_quotient : defB { mc with N := f_law_quotient.N } f_law_quotient s_law_quotient = true := by decide +kernel
abbrev s_law_great : Stmt := top 31
theorem b_law_great : defB { mc with N := f_law_great.N } f_law_great s_law_great = true := by decide +kernel
abbrev s_law_drawn_fraction : Stmt := top 32
theorem b_law_drawn_fraction : defB { mc with N := f_law_drawn_fraction.N } f_law_drawn_fraction s_law_drawn_fraction = true := by decide +kernel
abbrev s_law_second_half : Stmt := top 33
theorem b_law_second_half : defB { mc with N := f_law_second_half.N } f_law_second_half s_law_second_half = true := by decide +kernel
abbrev s_law : Stmt := top 34
theorem b_law : defB { mc with N := f_law.N } f_law s_law = true := by decide +kernel
def d_second_price : He.DefD := ⟨("second_price", none), "second_price", "second_price", defArgs s_second_price, defBody s_second_price, defScope s_second_price, [], []⟩
def d_sharings : He.DefD := ⟨("sharings", none), "sharings", "sharings", defArgs s_sharings, defBody s_sharings, defScope s_sharings, [], []⟩
def d_is_free : He.DefD := ⟨("is_free", none), "is_free", "is_free", defArgs s_is_free, defBody s_is_free, defScope s_is_free, [], []⟩
def d_worth_of_sharing : He.DefD := ⟨("worth_of_sharing", none), "worth_of_sharing", "worth_of_sharing", defArgs s_worth_of_sharing, defBody s_worth_of_sharing, defScope s_worth_of_sharing, [], []⟩
def d_best_sharing : He.DefD := ⟨("best_sharing", none), "best_sharing", "best_sharing", defArgs s_best_sharing, defBody s_best_sharing, defScope s_best_sharing, [], []⟩
def d_payments : He.DefD := ⟨("payments", none), "payments", "payments", defArgs s_payments, defBody s_payments, defScope s_payments, [], []⟩
def d_fraction : He.DefD := ⟨("fraction", none), "fraction", "fraction", defArgs s_fraction, defBody s_fraction, defScope s_fraction, [], []⟩
def d_add : He.DefD := ⟨("add", none), "add", "add", defArgs s_add, defBody s_add, defScope s_add, [], []⟩
def d_subtract : He.DefD := ⟨("subtract", none), "subtract", "subtract", defArgs s_subtract, defBody s_subtract, defScope s_subtract, [], []⟩
def d_multiply : He.DefD := ⟨("multiply", none), "multiply", "multiply", defArgs s_multiply, defBody s_multiply, defScope s_multiply, [], []⟩
def d_divide : He.DefD := ⟨("divide", none), "divide", "divide", defArgs s_divide, defBody s_divide, defScope s_divide, [], []⟩
def d_compare_fractions : He.DefD := ⟨("compare_fractions", none), "compare_fractions", "compare_fractions", defArgs s_compare_fractions, defBody s_compare_fractions, defScope s_compare_fractions, [], []⟩
def d_law_draws : He.DefD := ⟨("_law_draws", none), "_law_draws", "_law_draws", defArgs s_law_draws, defBody s_law_draws, defScope s_law_draws, [], []⟩
def d_law_take : He.DefD := ⟨("_law_take", none), "_law_take", "_law_take", defArgs s_law_take, defBody s_law_take, defScope s_law_take, [], []⟩
def d_law_pick : He.DefD := ⟨("_law_pick", none), "_law_pick", "_law_pick", defArgs s_law_pick, defBody s_law_pick, defScope s_law_pick, [], []⟩
def d_law_same : He.DefD := ⟨("_law_same", none), "_law_same", "_law_same", defArgs s_law_same, defBody s_law_same, defScope s_law_same, [], []⟩
def d_law_sharings : He.DefD := ⟨("_law_sharings", none), "_law_sharings", "_law_sharings", defArgs s_law_sharings, defBody s_law_sharings, defScope s_law_sharings, [], []⟩
def d_law_sum_of_bids : He.DefD := ⟨("_law_sum_of_bids", none), "_law_sum_of_bids", "_law_sum_of_bids", defArgs s_law_sum_of_bids, defBody s_law_sum_of_bids, defScope s_law_sum_of_bids, [], []⟩
def d_law_best : He.DefD := ⟨("_law_best", none), "_law_best", "_law_best", defArgs s_law_best, defBody s_law_best, defScope s_law_best, [], []⟩
def d_law_drawn_bids : He.DefD := ⟨("_law_drawn_bids", none), "_law_drawn_bids", "_law_drawn_bids", defArgs s_law_drawn_bids, defBody s_law_drawn_bids, defScope s_law_drawn_bids, [], []⟩
def d_law_first_half : He.DefD := ⟨("_law_first_half", none), "_law_first_half", "_law_first_half", defArgs s_law_first_half, defBody s_law_first_half, defScope s_law_first_half, [], []⟩
def d_law_gcd : He.DefD := ⟨("_law_gcd", none), "_law_gcd", "_law_gcd", defArgs s_law_gcd, defBody s_law_gcd, defScope s_law_gcd, [], []⟩
def d_law_frac : He.DefD := ⟨("_law_frac", none), "_law_frac", "_law_frac", defArgs s_law_frac, defBody s_law_frac, defScope s_law_frac, [], []⟩
def d_law_plus : He.DefD := ⟨("_law_plus", none), "_law_plus", "_law_plus", defArgs s_law_plus, defBody s_law_plus, defScope s_law_plus, [], []⟩
def d_law_minus : He.DefD := ⟨("_law_minus", none), "_law_minus", "_law_minus", defArgs s_law_minus, defBody s_law_minus, defScope s_law_minus, [], []⟩
def d_law_product : He.DefD := ⟨("_law_product", none), "_law_product", "_law_product", defArgs s_law_product, defBody s_law_product, defScope s_law_product, [], []⟩
def d_law_quotient : He.DefD := ⟨("_law_quotient", none), "_law_quotient", "_law_quotient", defArgs s_law_quotient, defBody s_law_quotient, defScope s_law_quotient, [], []⟩
def d_law_great : He.DefD := ⟨("_law_great", none), "_law_great", "_law_great", defArgs s_law_great, defBody s_law_great, defScope s_law_great, [], []⟩
def d_law_drawn_fraction : He.DefD := ⟨("_law_drawn_fraction", none), "_law_drawn_fraction", "_law_drawn_fraction", defArgs s_law_drawn_fraction, defBody s_law_drawn_fraction, defScope s_law_drawn_fraction, [], []⟩
def d_law_second_half : He.DefD := ⟨("_law_second_half", none), "_law_second_half", "_law_second_half", defArgs s_law_second_half, defBody s_law_second_half, defScope s_law_second_half, [], []⟩
def d_law : He.DefD := ⟨("law", none), "law", "law", defArgs s_law, defBody s_law, defScope s_law, [], []⟩
def fn0 : List He.DefD := [d_second_price, d_sharings, d_is_free, d_worth_of_sharing, d_best_sharing, d_payments, d_fraction, d_add, d_subtract, d_multiply, d_divide, d_compare_fractions, d_law_draws, d_law_take, d_law_pick, d_law_same, d_law_sharings, d_law_sum_of_bids, d_law_best, d_law_drawn_bids, d_law_first_half, d_law_gcd, d_law_frac, d_law_plus, d_law_minus, d_law_product, d_law_quotient, d_law_great, d_law_drawn_fraction, d_law_second_half]
def fn1 : List He.DefD := [d_law]
def fn : List He.DefD := fn0 ++ fn1
def fa0 : List He.Fa := [.glo "second_price", .glo "sharings", .glo "is_free", .glo "worth_of_sharing", .glo "best_sharing", .glo "payments", .glo "fraction", .glo "add", .glo "subtract", .glo "multiply", .glo "divide", .glo "compare_fractions", .glo "_law_draws", .glo "_law_take", .glo "_law_pick", .glo "_law_same", .glo "_law_sharings", .glo "_law_sum_of_bids", .glo "_law_best", .glo "_law_drawn_bids", .glo "_law_first_half", .glo "_law_gcd", .glo "_law_frac", .glo "_law_plus", .glo "_law_minus", .glo "_law_product", .glo "_law_quotient", .glo "_law_great", .glo "_law_drawn_fraction", .glo "_law_second_half"]
def fa1 : List He.Fa := [.glo "law"]
def fa : List He.Fa := fa0 ++ fa1 ++ free.map He.Fa.free
def ex (K : PySem.W.Frag) : Bool := mods.all fun p => He.eqO (PySem.W.nsIn K mainGlobals p.1) (some (some (.builtin p.2)))
abbrev R : PySem.W.OpenRow := PySem.W.OpenLaw.row PySem.Challenge.rw_eachsmove_k78_whole_best_sharings_and_fr
abbrev hk : PySem.W.Hook := He.hookX 4 fa fn [] [] ex
def ob (s : PySem.W.SharedT) : He.AlX := He.obsX 4 fa fn [] [] ex (HandSHeadRun.getT s)
theorem ob_eq (s : PySem.W.SharedT) : ob s = hk.obs s.abs := He.obsX_eq (HandSHeadRun.getT_eq s)
def loose0 : List Str := ["__name__", "gcd", "second_price", "sharings", "is_free", "worth_of_sharing", "best_sharing", "payments", "fraction", "add", "subtract", "multiply", "divide", "compare_fractions", "_law_draws", "_law_take", "_law_pick", "_law_same", "_law_sharings", "_law_sum_of_bids", "_law_best", "_law_drawn_bids", "_law_first_half", "_law_gcd", "_law_frac", "_law_plus", "_law_minus", "_law_product", "_law_quotient", "_law_great"]
def loose1 : List Str := ["_law_drawn_fraction", "_law_second_half"]
def loose : List Str := loose0 ++ loose1
theorem runs (w : World) : HandSHeadRun.RunEqI R (PySem.W.view R.prog [0, 34]) hk ob 3800 loose w := by
  unfold HandSHeadRun.RunEqI
  kernel_rfl
section
variable {w : World} {K : PySem.W.Frag} {h : Heap} {mg : Str → Option Value}
theorem defAt (X : K.In h) (G : h.Ns mainGlobals mg) (c : He.SaysX fa fn [] [] ex w h K) {fd : FnT} {st : Stmt} {i j : Nat} {ps : List Str} (hps : fd.N.take fd.np = ps) (hb : defB { mc with N := fd.N } fd st = true)
    (hd : fn[i]? = some ⟨(fd.name, none), fd.name, fd.name, defArgs st, defBody st, defScope st, [], []⟩) (hg : fa[j]? = some (.glo fd.name))
    (hbd : ∀ (kV doc pm : Value) (an : Option Addr) (cdv ct : Value) (us : List Value), us.length = ps.length → bindArgs (PySem.W.fnOf fd.name fd.name (defArgs st) (defBody st) (defScope st) .none kV doc pm an cdv ct) ⟨us, []⟩ = pure (ps.zip us)) :
    ∃ fdt, DefOk K mg mc fd (He.ga K fd.name) fdt := by
  have c0 : He.SaysD fa fn K := congrArg (fun z : He.AlT => z.1) c.t
  obtain ⟨fdt, F⟩ := c0.def_ i hd
  exact ⟨fdt, ⟨⟨st, F, hb⟩, He.glo_ok X G (c0.fact j hg), by rw [hps]; exact FunD.bindsN F hbd⟩⟩
theorem o_second_price (X : K.In h) (G : h.Ns mainGlobals mg) (c : He.SaysX fa fn [] [] ex w h K) : ∃ fdt, DefOk K mg mc f_second_price (He.ga K f_second_price.name) fdt :=
  defAt X G c (i := 0) (j := 0) (ps := ["bids"]) rfl b_second_price rfl rfl fun _ _ _ _ _ _ us hl => match us, hl with | [_], _ => rfl
theorem o_sharings (X : K.In h) (G : h.Ns mainGlobals mg) (c : He.SaysX fa fn [] [] ex w h K) : ∃ fdt, DefOk K mg mc f_sharings (He.ga K f_sharings.name) fdt :=
  defAt X G c (i := 1) (j := 1) (ps := ["bids"]) rfl b_sharings rfl rfl fun _ _ _ _ _ _ us hl => match us, hl with | [_], _ => rfl
theorem o_is_free (X : K.In h) (G : h.Ns mainGlobals mg) (c : He.SaysX fa fn [] [] ex w h K) : ∃ fdt, DefOk K mg mc f_is_free (He.ga K f_is_free.name) fdt :=
  defAt X G c (i := 2) (j := 2) (ps := ["told", "things"]) rfl b_is_free rfl rfl fun _ _ _ _ _ _ us hl => match us, hl with | [_, _], _ => rfl
theorem o_worth_of_sharing (X : K.In h) (G : h.Ns mainGlobals mg) (c : He.SaysX fa fn [] [] ex w h K) : ∃ fdt, DefOk K mg mc f_worth_of_sharing (He.ga K f_worth_of_sharing.name) fdt :=
  defAt X G c (i := 3) (j := 3) (ps := ["bids", "sharing"]) rfl b_worth_of_sharing rfl rfl fun _ _ _ _ _ _ us hl => match us, hl with | [_, _], _ => rfl
theorem o_best_sharing (X : K.In h) (G : h.Ns mainGlobals mg) (c : He.SaysX fa fn [] [] ex w h K) : ∃ fdt, DefOk K mg mc f_best_sharing (He.ga K f_best_sharing.name) fdt :=
  defAt X G c (i := 4) (j := 4) (ps := ["bids"]) rfl b_best_sharing rfl rfl fun _ _ _ _ _ _ us hl => match us, hl with | [_], _ => rfl
theorem o_payments (X : K.In h) (G : h.Ns mainGlobals mg) (c : He.SaysX fa fn [] [] ex w h K) : ∃ fdt, DefOk K mg mc f_payments (He.ga K f_payments.name) fdt :=
  defAt X G c (i := 5) (j := 5) (ps := ["bids"]) rfl b_payments rfl rfl fun _ _ _ _ _ _ us hl => match us, hl with | [_], _ => rfl
theorem o_fraction (X : K.In h) (G : h.Ns mainGlobals mg) (c : He.SaysX fa fn [] [] ex w h K) : ∃ fdt, DefOk K mg mc f_fraction (He.ga K f_fraction.name) fdt :=
  defAt X G c (i := 6) (j := 6) (ps := ["n", "d"]) rfl b_fraction rfl rfl fun _ _ _ _ _ _ us hl => match us, hl with | [_, _], _ => rfl
theorem o_add (X : K.In h) (G : h.Ns mainGlobals mg) (c : He.SaysX fa fn [] [] ex w h K) : ∃ fdt, DefOk K mg mc f_add (He.ga K f_add.name) fdt :=
  defAt X G c (i := 7) (j := 7) (ps := ["f", "g"]) rfl b_add rfl rfl fun _ _ _ _ _ _ us hl => match us, hl with | [_, _], _ => rfl
theorem o_subtract (X : K.In h) (G : h.Ns mainGlobals mg) (c : He.SaysX fa fn [] [] ex w h K) : ∃ fdt, DefOk K mg mc f_subtract (He.ga K f_subtract.name) fdt :=
  defAt X G c (i := 8) (j := 8) (ps := ["f", "g"]) rfl b_subtract rfl rfl fun _ _ _ _ _ _ us hl => match us, hl with | [_, _], _ => rfl
theorem o_multiply (X : K.In h) (G : h.Ns mainGlobals mg) (c : He.SaysX fa fn [] [] ex w h K) : ∃ fdt, DefOk K mg mc f_multiply (He.ga K f_multiply.name) fdt :=
  defAt X G c (i := 9) (j := 9) (ps := ["f", "g"]) rfl b_multiply rfl rfl fun _ _ _ _ _ _ us hl => match us, hl with | [_, _], _ => rfl
theorem o_divide (X : K.In h) (G : h.Ns mainGlobals mg) (c : He.SaysX fa fn [] [] ex w h K) : ∃ fdt, DefOk K mg mc f_divide (He.ga K f_divide.name) fdt :=
  defAt X G c (i := 10) (j := 10) (ps := ["f", "g"]) rfl b_divide rfl rfl fun _ _ _ _ _ _ us hl => match us, hl with | [_, _], _ => rfl
theorem o_compare_fractions (X : K.In h) (G : h.Ns mainGlobals mg) (c : He.SaysX fa fn [] [] ex w h K) : ∃ fdt, DefOk K mg mc f_compare_fractions (He.ga K f_compare_fractions.name) fdt :=
  defAt X G c (i := 11) (j := 11) (ps := ["f", "g"]) rfl b_compare_fractions rfl rfl fun _ _ _ _ _ _ us hl => match us, hl with | [_, _], _ => rfl
theorem o_law_draws (X : K.In h) (G : h.Ns mainGlobals mg) (c : He.SaysX fa fn [] [] ex w h K) : ∃ fdt, DefOk K mg mc f_law_draws (He.ga K f_law_draws.name) fdt :=
  defAt X G c (i := 12) (j := 12) (ps := ["script", "many"]) rfl b_law_draws rfl rfl fun _ _ _ _ _ _ us hl => match us, hl with | [_, _], _ => rfl
theorem o_law_take (X : K.In h) (G : h.Ns mainGlobals mg) (c : He.SaysX fa fn [] [] ex w h K) : ∃ fdt, DefOk K mg mc f_law_take (He.ga K f_law_take.name) fdt :=
  defAt X G c (i := 13) (j := 13) (ps := ["draws", "many"]) rfl b_law_take rfl rfl fun _ _ _ _ _ _ us hl => match us, hl with | [_, _], _ => rfl
theorem o_law_pick (X : K.In h) (G : h.Ns mainGlobals mg) (c : He.SaysX fa fn [] [] ex w h K) : ∃ fdt, DefOk K mg mc f_law_pick (He.ga K f_law_pick.name) fdt :=
  defAt X G c (i := 14) (j := 14) (ps := ["draws", "row"]) rfl b_law_pick rfl rfl fun _ _ _ _ _ _ us hl => match us, hl with | [_, _], _ => rfl
theorem o_law_same (X : K.In h) (G : h.Ns mainGlobals mg) (c : He.SaysX fa fn [] [] ex w h K) : ∃ fdt, DefOk K mg mc f_law_same (He.ga K f_law_same.name) fdt :=
  defAt X G c (i := 15) (j := 15) (ps := ["actual", "due"]) rfl b_law_same rfl rfl fun _ _ _ _ _ _ us hl => match us, hl with | [_, _], _ => rfl
theorem o_law_sharings (X : K.In h) (G : h.Ns mainGlobals mg) (c : He.SaysX fa fn [] [] ex w h K) : ∃ fdt, DefOk K mg mc f_law_sharings (He.ga K f_law_sharings.name) fdt :=
  defAt X G c (i := 16) (j := 16) (ps := ["many", "sets"]) rfl b_law_sharings rfl rfl fun _ _ _ _ _ _ us hl => match us, hl with | [_, _], _ => rfl
theorem o_law_sum_of_bids (X : K.In h) (G : h.Ns mainGlobals mg) (c : He.SaysX fa fn [] [] ex w h K) : ∃ fdt, DefOk K mg mc f_law_sum_of_bids (He.ga K f_law_sum_of_bids.name) fdt :=
  defAt X G c (i := 17) (j := 17) (ps := ["bids", "sharing"]) rfl b_law_sum_of_bids rfl rfl fun _ _ _ _ _ _ us hl => match us, hl with | [_, _], _ => rfl
theorem o_law_best (X : K.In h) (G : h.Ns mainGlobals mg) (c : He.SaysX fa fn [] [] ex w h K) : ∃ fdt, DefOk K mg mc f_law_best (He.ga K f_law_best.name) fdt :=
  defAt X G c (i := 18) (j := 18) (ps := ["bids", "sets"]) rfl b_law_best rfl rfl fun _ _ _ _ _ _ us hl => match us, hl with | [_, _], _ => rfl
theorem o_law_drawn_bids (X : K.In h) (G : h.Ns mainGlobals mg) (c : He.SaysX fa fn [] [] ex w h K) : ∃ fdt, DefOk K mg mc f_law_drawn_bids (He.ga K f_law_drawn_bids.name) fdt :=
  defAt X G c (i := 19) (j := 19) (ps := ["draws", "many", "sets"]) rfl b_law_drawn_bids rfl rfl fun _ _ _ _ _ _ us hl => match us, hl with | [_, _, _], _ => rfl
theorem o_law_first_half (X : K.In h) (G : h.Ns mainGlobals mg) (c : He.SaysX fa fn [] [] ex w h K) : ∃ fdt, DefOk K mg mc f_law_first_half (He.ga K f_law_first_half.name) fdt :=
  defAt X G c (i := 20) (j := 20) (ps := ["script"]) rfl b_law_first_half rfl rfl fun _ _ _ _ _ _ us hl => match us, hl with | [_], _ => rfl
theorem o_law_gcd (X : K.In h) (G : h.Ns mainGlobals mg) (c : He.SaysX fa fn [] [] ex w h K) : ∃ fdt, DefOk K mg mc f_law_gcd (He.ga K f_law_gcd.name) fdt :=
  defAt X G c (i := 21) (j := 21) (ps := ["one", "other"]) rfl b_law_gcd rfl rfl fun _ _ _ _ _ _ us hl => match us, hl with | [_, _], _ => rfl
theorem o_law_frac (X : K.In h) (G : h.Ns mainGlobals mg) (c : He.SaysX fa fn [] [] ex w h K) : ∃ fdt, DefOk K mg mc f_law_frac (He.ga K f_law_frac.name) fdt :=
  defAt X G c (i := 22) (j := 22) (ps := ["n", "d"]) rfl b_law_frac rfl rfl fun _ _ _ _ _ _ us hl => match us, hl with | [_, _], _ => rfl
theorem o_law_plus (X : K.In h) (G : h.Ns mainGlobals mg) (c : He.SaysX fa fn [] [] ex w h K) : ∃ fdt, DefOk K mg mc f_law_plus (He.ga K f_law_plus.name) fdt :=
  defAt X G c (i := 23) (j := 23) (ps := ["one", "other"]) rfl b_law_plus rfl rfl fun _ _ _ _ _ _ us hl => match us, hl with | [_, _], _ => rfl
theorem o_law_minus (X : K.In h) (G : h.Ns mainGlobals mg) (c : He.SaysX fa fn [] [] ex w h K) : ∃ fdt, DefOk K mg mc f_law_minus (He.ga K f_law_minus.name) fdt :=
  defAt X G c (i := 24) (j := 24) (ps := ["one", "other"]) rfl b_law_minus rfl rfl fun _ _ _ _ _ _ us hl => match us, hl with | [_, _], _ => rfl
theorem o_law_product (X : K.In h) (G : h.Ns mainGlobals mg) (c : He.SaysX fa fn [] [] ex w h K) : ∃ fdt, DefOk K mg mc f_law_product (He.ga K f_law_product.name) fdt :=
  defAt X G c (i := 25) (j := 25) (ps := ["one", "other"]) rfl b_law_product rfl rfl fun _ _ _ _ _ _ us hl => match us, hl with | [_, _], _ => rfl
theorem o_law_quotient (X : K.In h) (G : h.Ns mainGlobals mg) (c : He.SaysX fa fn [] [] ex w h K) : ∃ fdt, DefOk K mg mc f_law_quotient (He.ga K f_law_quotient.name) fdt :=
  defAt X G c (i := 26) (j := 26) (ps := ["one", "other"]) rfl b_law_quotient rfl rfl fun _ _ _ _ _ _ us hl => match us, hl with | [_, _], _ => rfl
theorem o_law_great (X : K.In h) (G : h.Ns mainGlobals mg) (c : He.SaysX fa fn [] [] ex w h K) : ∃ fdt, DefOk K mg mc f_law_great (He.ga K f_law_great.name) fdt :=
  defAt X G c (i := 27) (j := 27) (ps := ["draws"]) rfl b_law_great rfl rfl fun _ _ _ _ _ _ us hl => match us, hl with | [_], _ => rfl
theorem o_law_drawn_fraction (X : K.In h) (G : h.Ns mainGlobals mg) (c : He.SaysX fa fn [] [] ex w h K) : ∃ fdt, DefOk K mg mc f_law_drawn_fraction (He.ga K f_law_drawn_fraction.name) fdt :=
  defAt X G c (i := 28) (j := 28) (ps := ["draws"]) rfl b_law_drawn_fraction rfl rfl fun _ _ _ _ _ _ us hl => match us, hl with | [_], _ => rfl
theorem o_law_second_half (X : K.In h) (G : h.Ns mainGlobals mg) (c : He.SaysX fa fn [] [] ex w h K) : ∃ fdt, DefOk K mg mc f_law_second_half (He.ga K f_law_second_half.name) fdt :=
  defAt X G c (i := 29) (j := 29) (ps := ["script"]) rfl b_law_second_half rfl rfl fun _ _ _ _ _ _ us hl => match us, hl with | [_], _ => rfl
theorem o_law (X : K.In h) (G : h.Ns mainGlobals mg) (c : He.SaysX fa fn [] [] ex w h K) : ∃ fdt, DefOk K mg mc f_law (He.ga K f_law.name) fdt :=
  defAt X G c (i := 30) (j := 30) (ps := ["script"]) rfl b_law rfl rfl fun _ _ _ _ _ _ us hl => match us, hl with | [_], _ => rfl
theorem table (X : K.In h) (G : h.Ns mainGlobals mg) (c : He.SaysX fa fn [] [] ex w h K) : TblOk K mg ⟨K, fun _ => 0⟩ gl mc tbl where
  KR := rfl
  fnm := rfl
  free := fun x hx => by
    have c0 : He.SaysD fa fn K := congrArg (fun z : He.AlT => z.1) c.t
    exact He.free_ok X G (c0.facts (f := .free x) (List.mem_append_right _ (List.mem_map_of_mem hx)))
  mods := fun p hp => PySem.W.mg_of X G (He.eqO_ok (List.all_eq_true.mp c.more p hp))
  glb := fun k x e => by cases k <;> cases e
  defs := fun i fd e => by
    match i, e with
    | 0, e => cases e; obtain ⟨t, z⟩ := o_second_price X G c; exact ⟨_, t, z⟩
    | 1, e => cases e; obtain ⟨t, z⟩ := o_sharings X G c; exact ⟨_, t, z⟩
    | 2, e => cases e; obtain ⟨t, z⟩ := o_is_free X G c; exact ⟨_, t, z⟩
    | 3, e => cases e; obtain ⟨t, z⟩ := o_worth_of_sharing X G c; exact ⟨_, t, z⟩
    | 4, e => cases e; obtain ⟨t, z⟩ := o_best_sharing X G c; exact ⟨_, t, z⟩
    | 5, e => cases e; obtain ⟨t, z⟩ := o_payments X G c; exact ⟨_, t, z⟩
    | 6, e => cases e; obtain ⟨t, z⟩ := o_fraction X G c; exact ⟨_, t, z⟩
    | 7, e => cases e; obtain ⟨t, z⟩ := o_add X G c; exact ⟨_, t, z⟩
    | 8, e => cases e; obtain ⟨t, z⟩ := o_subtract X G c; exact ⟨_, t, z⟩
    | 9, e => cases e; obtain ⟨t, z⟩ := o_multiply X G c; exact ⟨_, t, z⟩
    | 10, e => cases e; obtain ⟨t, z⟩ := o_divide X G c; exact ⟨_, t, z⟩
    | 11, e => cases e; obtain ⟨t, z⟩ := o_compare_fractions X G c; exact ⟨_, t, z⟩
    | 12, e => cases e; obtain ⟨t, z⟩ := o_law_draws X G c; exact ⟨_, t, z⟩
    | 13, e => cases e; obtain ⟨t, z⟩ := o_law_take X G c; exact ⟨_, t, z⟩
    | 14, e => cases e; obtain ⟨t, z⟩ := o_law_pick X G c; exact ⟨_, t, z⟩
    | 15, e => cases e; obtain ⟨t, z⟩ := o_law_same X G c; exact ⟨_, t, z⟩
    | 16, e => cases e; obtain ⟨t, z⟩ := o_law_sharings X G c; exact ⟨_, t, z⟩
    | 17, e => cases e; obtain ⟨t, z⟩ := o_law_sum_of_bids X G c; exact ⟨_, t, z⟩
    | 18, e => cases e; obtain ⟨t, z⟩ := o_law_best X G c; exact ⟨_, t, z⟩
    | 19, e => cases e; obtain ⟨t, z⟩ := o_law_drawn_bids X G c; exact ⟨_, t, z⟩
    | 20, e => cases e; obtain ⟨t, z⟩ := o_law_first_half X G c; exact ⟨_, t, z⟩
    | 21, e => cases e; obtain ⟨t, z⟩ := o_law_gcd X G c; exact ⟨_, t, z⟩
    | 22, e => cases e; obtain ⟨t, z⟩ := o_law_frac X G c; exact ⟨_, t, z⟩
    | 23, e => cases e; obtain ⟨t, z⟩ := o_law_plus X G c; exact ⟨_, t, z⟩
    | 24, e => cases e; obtain ⟨t, z⟩ := o_law_minus X G c; exact ⟨_, t, z⟩
    | 25, e => cases e; obtain ⟨t, z⟩ := o_law_product X G c; exact ⟨_, t, z⟩
    | 26, e => cases e; obtain ⟨t, z⟩ := o_law_quotient X G c; exact ⟨_, t, z⟩
    | 27, e => cases e; obtain ⟨t, z⟩ := o_law_great X G c; exact ⟨_, t, z⟩
    | 28, e => cases e; obtain ⟨t, z⟩ := o_law_drawn_fraction X G c; exact ⟨_, t, z⟩
    | 29, e => cases e; obtain ⟨t, z⟩ := o_law_second_half X G c; exact ⟨_, t, z⟩
    | 30, e => cases e; obtain ⟨t, z⟩ := o_law X G c; exact ⟨_, t, z⟩
    | n + 31, e => exact absurd (List.getElem?_eq_some_iff.mp e).1 (by show ¬ n + 31 < 31; omega)
end
theorem facts {P : Program} {w : World} {K : PySem.W.Frag} {h : Heap} {mg : Str → Option Value} {f : Addr} (X : K.In h) (G : h.Ns mainGlobals mg) (hfa : mg ("law" : Str) = some (.ref f)) (c : He.SaysX fa fn [] [] ex w h K) :
    ∃ fd : FuncData, (∀ (s : Shared) (v : Value), BindsTo s fd ⟨[v], []⟩ [("script", v)]) ∧ ∀ base : Heap, K.In base → base.Ns mainGlobals mg → FnOk P w K mg base CX0 100 f fd ["script"] (fSp ⟨K, fun _ => 0⟩ 1 f_law.io (run 100 30)) := by
  obtain ⟨fdt, D⟩ := o_law X G c
  have e := hfa.symm.trans D.mg
  cases e
  obtain ⟨st, F, _⟩ := D.st
  have c0 : He.SaysD fa fn K := congrArg (fun z : He.AlT => z.1) c.t
  obtain ⟨fd2, F2⟩ := c0.def_ 30 (d := d_law) rfl
  have b := FunD.bindsA (ps := ["script"]) F2 fun _ _ _ _ _ _ us hl => match us, hl with | [_], _ => rfl
  have D2 : DefOk K mg mc f_law (He.ga K f_law.name) fd2 := ⟨⟨s_law, F2, b_law⟩, D.mg, FunD.bindsN F2 fun _ _ _ _ _ _ us hl => match us, hl with | [_], _ => rfl⟩
  exact ⟨fd2, fun s v => b s [v] rfl, fun base _ _ => tbl_okD (table X G c) 100 30 f_law _ fd2 at_law D2⟩
end K78
open PySem PySem.W PySem.Calls PyProof.Rows
theorem K78.holds (claim : ∀ ns : List Int, ns.length ≤ 63 → ∃ l, K78.run 100 30 [.scr ns] = .ok (.bl true) l) : PySem.Challenge.rw_eachsmove_k78_whole_best_sharings_and_fr.Holds := by
  w_on; o_law
  refine HandSHeadRun.head_imp (r := OpenLaw.row PySem.Challenge.rw_eachsmove_k78_whole_best_sharings_and_fr) (q := view (OpenLaw.row PySem.Challenge.rw_eachsmove_k78_whole_best_sharings_and_fr).prog [0, 34]) (H := K78.hk) (ob := K78.ob) (M := 3800) (loose := K78.loose) (d := HandSHeadRun.topDef (OpenLaw.row PySem.Challenge.rw_eachsmove_k78_whole_best_sharings_and_fr).prog 34) (kwd := []) K78.ob_eq
    K78.runs (by kernel_rfl) (by kernel_rfl) (by kernel_rfl) (by rfl) (by first | assumption | decide +kernel) (by decide +kernel) ⟨rfl, rfl, rfl, rfl, rfl, by decide +kernel⟩ ?hw ?hc
  case hw => w_witness2
  case hc =>
    refine L2.walk_ofE (l := PySem.Challenge.rw_eachsmove_k78_whole_best_sharings_and_fr) (n := 63) (k := 100) (x := "script") (CX := L2.CX0) rfl (by decide) (by kernel_rfl) ⟨rfl, by decide, by decide⟩ ?F (fun _ _ _ _ z => z)
    intro w mg fa h Y G hmg0
    obtain ⟨K, KX, c⟩ := Y
    have hmg : mg ("law" : PySem.Str) = some (.ref fa) := by
      have e : (HandSHeadRun.topDef (OpenLaw.row PySem.Challenge.rw_eachsmove_k78_whole_best_sharings_and_fr).prog 34).name = ("law" : PySem.Str) := by kernel_rfl
      rw [← e]
      exact hmg0
    obtain ⟨fd, hb, hF⟩ := K78.facts (P := (PySem.Challenge.rw_eachsmove_k78_whole_best_sharings_and_fr).prog) (w := w) KX G hmg c
    exact ⟨K, fd, _, KX, hb, fun H a ns hl _ hS => Ev.law_sp (claim ns hl) hS, hF⟩

open PySem PySem.W PyProof.Rows
set_option maxRecDepth 100000 in
set_option maxHeartbeats 8000000 in
theorem PySem.Challenge.cw_eachsmove_k78_whole_best_sharings_and_fr_holds : PySem.Challenge.rw_eachsmove_k78_whole_best_sharings_and_fr.Holds := by
  exact K78.holds fun ns h => ⟨_, K78.law_t (d := 93) h⟩
