import PyProof.Rows.All
import HandS.TupMul
import HandS.TupAny
import HandS.ForSpec
import HandS.TupSets
import KE.DataMinMax
import HandS.Strs
import HandS.Zip
import HandS.Walk
import Wide.All
import OpenK.AllK
import Wide.FinOn
import HandS.Comp
import HandS.ExcOwn
import HandS.WideBits
import HandS.Deep
import HandS.ExcInit
import HandS.ExcField
import HandS.More
import Open.SpecLaws
import KE.OsGo
import PySem.Challenge.RW_rulesfound_s01_answers
set_option Elab.async false
set_option linter.all false
set_option maxRecDepth 100000
set_option maxHeartbeats 3200000
/-! ## RfMirror -/
namespace Rf
/-! ### The mirror: each def as a total function. Rings and views are lists of Int; rules, deeds, places are lists of Nat; sides Int; sets of names Nat by bits. -/
/-- strictly less, by the first number that differs -/
def ltI : List Int → List Int → Bool
  | _, [] => false
  | [], _ :: _ => true
  | x :: xs, y :: ys => if x = y then ltI xs ys else decide (x < y)
def leastOf : List (List Int) → List Int → List Int
  | [], m => m
  | x :: r, m => leastOf r (if ltI x m then x else m)
/-- put in order, each once -/
def putIn (x : List Int) : List (List Int) → List (List Int)
  | [] => [x]
  | y :: r => if x = y then y :: r else if ltI x y then x :: y :: r else y :: putIn x r
def inOrder : List (List Int) → List (List Int)
  | [] => []
  | x :: r => putIn x (inOrder r)
def turned (r : List Int) (k : Nat) : List Int := r.drop k ++ r.take k
def both (r : List Int) : List (List Int) := (List.range r.length).map (fun k => turned r k) ++ (List.range r.length).map fun k => turned r.reverse k
def nameOf (r : List Int) : List Int := match both r with
  | [] => []
  | x :: l => leastOf l x
/-- rings by place: so many more places -/
def longerRings (k : Nat) (found : List (List Int)) : List (List Int) := found.flatMap fun r => (List.range (k - r.sum.toNat + 1)).map fun (m : Nat) => r ++ [(m : Int)]
def ringsUp (k : Nat) : Nat → List (List Int)
  | 0 => [[]]
  | n + 1 => longerRings k (ringsUp k n)
def allRings (n k : Nat) : List (List Int) := (ringsUp k n).filter fun r => decide (r.sum = (k : Int))
def allNames (n k : Nat) : List (List Int) := inOrder ((allRings n k).map nameOf)
def seenI (x : Int) (e : Nat) : Int := if e = 0 then x else if e = 1 then min x 2 else min x 1
def rowF (r : List Int) (p e : Nat) : List Int := (List.range r.length).map fun k => seenI (r.getD ((p + k) % r.length) 0) e
def rowB (r : List Int) (p e : Nat) : List Int := (List.range r.length).map fun k => seenI (r.getD ((p + (r.length - k)) % r.length) 0) e
def sideOf (r : List Int) (p e : Nat) : Int := if rowF r p e = rowB r p e then 0 else if ltI (rowF r p e) (rowB r p e) then 1 else -1
def viewOf (r : List Int) (p e : Nat) : List Int := if ltI (rowB r p e) (rowF r p e) then rowB r p e else rowF r p e
def isEven (v : List Int) : Bool := decide (v.drop 1 = (v.drop 1).reverse)
def hadPlaces (r : List Int) : List Nat := (List.range r.length).filter fun p => decide (0 < r.getD p 0)
def viewsIn (r : List Int) (e : Nat) : List (List Int) := (hadPlaces r).map fun p => viewOf r p e
def allViews (names : List (List Int)) (e : Nat) : List (List Int) := inOrder (names.flatMap fun r => viewsIn r e)
/-! moves -/
def goings (m : Int) (side : Int) (done : Nat) : List (Int × Int) :=
  if done = 0 then [(0, 0)] else (List.range (m.toNat + 1)).flatMap fun (f : Nat) =>
    if side = 0 then (List.range (m.toNat - f + 1)).map fun (s : Nat) => ((f : Int), (s : Int))
    else if decide (side = 1) = decide (done = 1) then [((f : Int), 0)] else [(0, (f : Int))]
def goingsUp (r : List Int) : List (Nat × Int × Nat) → List (List (Int × Int)) → List (List (Int × Int))
  | [], found => found
  | (p, side, done) :: l, found => goingsUp r l (found.flatMap fun row => (goings (r.getD p 0) side done).map fun pair => row ++ [pair])
def allGoings (r : List Int) (sides : List Int) (deeds : List Nat) : List (List (Int × Int)) := goingsUp r ((hadPlaces r).zip (sides.zip deeds)) [[]]
def goneUp (n : Nat) : List (Nat × Int × Int) → List Int → List Int
  | [], f => f
  | (p, a, b) :: l, f =>
    let f1 := f.set p (f.getD p 0 - a - b)
    let f2 := f1.set ((p + 1) % n) (f1.getD ((p + 1) % n) 0 + a)
    let f3 := f2.set ((p + (n - 1)) % n) (f2.getD ((p + (n - 1)) % n) 0 + b)
    goneUp n l f3
def gone (r : List Int) (row : List (Int × Int)) : List Int := goneUp r.length ((hadPlaces r).zip row) r
def howMany (row : List (Int × Int)) : Int := (row.map fun q => q.1 + q.2).sum
def mayBe (many eager : Int) (moves : Nat) : Bool := if moves = 0 then decide (many = 1) else if moves = 1 then decide (1 ≤ many) else decide (many = eager)
def eagerOf (r : List Int) (deeds : List Nat) : Int := ((((hadPlaces r).zip deeds).filter fun q => decide (q.2 ≠ 0)).map fun q => r.getD q.1 0).sum
def ringsBehind (r : List Int) (sides : List Int) (deeds : List Nat) (moves : Nat) : List (List Int) :=
  ((allGoings r sides deeds).filter fun row => mayBe (howMany row) (eagerOf r deeds) moves).map fun row => gone r row
/-! bits -/
def bitsOf (l : List Nat) : Nat := (l.map fun i => 2 ^ i).sum
def members (b : Nat) : List Nat := (List.range (b.log2 + 1)).filter fun i => b.testBit i
/-! a case -/
structure Kase where
  n : Nat
  e : Nat
  k : Nat
  names : List (List Int)
  views : List (List Int)
  had : List (List Nat)
  sides : List (List Int)
def kase (n e k : Nat) : Kase :=
  let names := allNames n k
  let views := allViews names e
  ⟨n, e, k, names, views, names.map (fun r => (viewsIn r e).map fun v => views.idxOf v), names.map fun r => (hadPlaces r).map fun p => sideOf r p e⟩
def behind (c : Kase) (i : Nat) (deeds : List Nat) (moves : Nat) : Nat :=
  bitsOf ((inOrder ((ringsBehind (c.names.getD i []) (c.sides.getD i []) deeds moves).map nameOf)).map fun x => c.names.idxOf x)
def deedsBy (c : Kase) (i : Nat) (rule : List Nat) : List Nat := (c.had.getD i []).map fun v => rule.getD v 0
def step (c : Kase) (i : Nat) (rule : List Nat) (moves : Nat) : Bool × Nat :=
  if deedsBy c i rule = List.replicate (deedsBy c i rule).length 0 then (true, 0) else (false, behind c i (deedsBy c i rule) moves)
def turnsG (steps : List (Bool × Nat)) : Nat → Nat → Nat
  | 0, f => f
  | t + 1, f => turnsG steps t (f ||| bitsOf ((List.range steps.length).filter fun i => !(steps.getD i (false, 0)).1 && decide ((steps.getD i (false, 0)).2 ||| f = f)))
def stepsOf (c : Kase) (rule : List Nat) (moves : Nat) : List (Bool × Nat) := (List.range c.names.length).map fun i => step c i rule moves
def restOf (c : Kase) (steps : List (Bool × Nat)) : Nat := bitsOf ((List.range steps.length).filter fun i => (steps.getD i (false, 0)).1 && decide ((c.had.getD i []).length = 1))
def gathers (c : Kase) (rule : List Nat) (moves : Nat) : Nat :=
  let steps := stepsOf c rule moves
  turnsG steps steps.length (restOf c steps)
def deedsOf (v : List Int) : List Nat := if isEven v then [0, 1] else [0, 1, 2]
def manyRules (vs : List (List Int)) : Nat := vs.foldl (fun a v => a * (deedsOf v).length) 1
def rulesUp : List (List Int) → List (List Nat) → List (List Nat)
  | [], found => found
  | v :: l, found => rulesUp l (found.flatMap fun r => (deedsOf v).map fun d => r ++ [d])
def rules (vs : List (List Int)) : List (List Nat) := rulesUp vs [[]]
end Rf
/-! ## RfR1 -/
set_option maxHeartbeats 2000000
namespace Rf
open PySem PySem.Spec PyProof.Rows L2
/-! ### t * 1 is t -/
theorem tup_times_one (l : Addr) (items : Array Value) (n : Nat) (dd : Option Addr) (sl : Array (Option Value)) (u : Tok) :
    Meets (Builtin.«tuple.__mul__» ⟨[.ref l, .int 1 u], []⟩) (fun _ R s => s.heap.get? l = some { cls := .type "tuple", dict := dd, data := .seq items n, slots := sl } ∧ R (.ok (.ret (Value.ref l))) s) :=
  .of_wp fun prog w A R s h => by
    obtain ⟨hp, g, d, tk, os⟩ := s
    obtain ⟨hl, h⟩ := h
    have f1 := AutoSeq1.idx_int
    have c1 : (items.isEmpty || (1 : Int) == 1) = true := by cases items.isEmpty <;> rfl
    wp_walk using wpAny_loadPart' hl
    exact ⟨_, rfl, h⟩
/-- t * k, k at least 1 and t not empty -/
def rTimes (K : PySem.W.Frag) : R2 := fun x y H Q => ∃ l k xs, x = .ref l ∧ y = .int k ∧ SqT K H l xs ∧ xs ≠ [] ∧ 1 ≤ k ∧ k ≤ 1000 ∧ xs.length ≤ 1000 ∧
  (k = 1 → Q (.ref l) H) ∧ (k ≠ 1 → ∀ p, H p = none → Q (.ref p) (upd H p (.tup (List.replicate k.toNat xs).flatten)))
section
variable {X : Cx}
theorem op_times : OpR X (binaryOp .Mult) (rTimes X.K) := by
  intro pins s σ H x y v u Q I rx ry h
  obtain ⟨l, k, xs, rfl, rfl, hT, hne, h1, h2, hz, q1, q2⟩ := h
  by_cases hk : k = 1
  · subst hk
    obtain ⟨t, rfl⟩ := ry
    obtain ⟨its, r, ⟨⟨cls, dd, data, sl⟩, ho, hc, n, hd⟩, hs⟩ := I.tuple hT
    obtain rfl : cls = Value.type "tuple" := hc
    obtain rfl : data = Data.seq its.toArray n := hd
    cases rx
    have hTl : s.TypeIs (.ref l) "tuple" := ⟨_, ho, rfl⟩
    have one := call_meets (prog := X.prog) (w := X.w) (A := X.A) (E := X.xe) (s := s) (Q := EP X pins σ Q) F.slot_tuple_mul hTl F.entry_tuple_mul (F.args_tuple_mul_2 _ _) (tup_times_one l its.toArray n dd sl t) ⟨ho, ⟨.ref l, H, I, rfl, q1 rfl⟩⟩
    exact wpAny_binaryOp_repeat_ref (T := "tuple") (U := "int") (by decide) ⟨_, ho, rfl⟩ (fun s' => typeIs_int s' 1 t) noFill_tuple_mul F.fills_int_mul F.slot_int_rmul repeat_tuple F.slot_int_index.lookup
      (call_meets F.slot_int_rmul (typeIs_int s 1 t) F.entry_int_rmul (F.args_int_rmul_2 _ _) (int_rmul_tuple 1 t l its.toArray n dd sl) ⟨ho, rfl, ⟨_, ho, rfl⟩, one⟩)
  · exact op_repT pins s σ H _ _ v u Q I rx ry ⟨l, k, xs, rfl, rfl, hT, hne, by omega, h2, hz, q2 hk⟩
end
/-! ### t[::-1] -/
section
variable {prog : Program} {w : World} {A : Around} {E : Value → Shared → Prop} {s : Shared}
theorem back_places (n : Nat) : Builtin.Slice.slicePlaces ((n : Int) - 1) (-1) (-1) = n := by
  have e : (-(-1) : Int) = 1 := by decide
  unfold Builtin.Slice.slicePlaces
  rw [if_neg (show ¬ ((-1 : Int) > 0) by decide), e, Int.ediv_one]
  split <;> omega
theorem back_pick (xs : List Value) : ((List.range xs.length).filterMap fun (k : Nat) => xs.toArray[(((xs.length : Nat) : Int) - 1 + (k : Int) * -1).toNat]?).toArray = xs.reverse.toArray := by
  congr 1
  apply List.ext_getElem?
  intro i
  have key : ∀ m, m ≤ xs.length → (List.range m).filterMap (fun (k : Nat) => xs.toArray[(((xs.length : Nat) : Int) - 1 + (k : Int) * -1).toNat]?) = (xs.reverse).take m := by
    intro m
    induction m with
    | zero => intro _; simp
    | succ m ih =>
      intro hm
      have hlt : xs.length - 1 - m < xs.length := by omega
      have hix : (((xs.length : Nat) : Int) - 1 + (m : Int) * -1).toNat = xs.length - 1 - m := by omega
      rw [List.range_succ, List.filterMap_append, ih (by omega), List.take_succ]
      congr 1
      have e1 : xs.toArray[(((xs.length : Nat) : Int) - 1 + (m : Int) * -1).toNat]? = some xs[xs.length - 1 - m] := by
        rw [hix]
        simp [List.getElem?_eq_getElem hlt]
      rw [List.filterMap_cons, e1, List.filterMap_nil, List.getElem?_reverse (show m < xs.length by omega), List.getElem?_eq_getElem hlt]
      rfl
  rw [key _ (Nat.le_refl _), ← List.length_reverse, List.take_length]
theorem back_applied {sl : Addr} {vk : Value} {n : Nat} {Q : Int × Int × Nat → Shared → Prop} (hs : s.heap.IsSliceOf sl .none .none vk) (pk : IsPart vk (some (-1))) (h : Q ((n : Int) - 1, -1, n) s) :
    wpAny (model prog w) A (Builtin.Slice.sliceApplied (.ref sl) (pure (n : Int))) Q E s := by
  obtain ⟨os, hos, hcs, hds⟩ := id hs
  unfold Builtin.Slice.sliceApplied Builtin.Slice.sliceFields
  refine wpAny_bind (wpAny_bind (wpAny_field hos hds (x := .none) rfl (wpAny_bind (wpAny_field hos hds (x := .none) rfl (wpAny_bind (wpAny_field hos hds (x := vk) rfl (wpAny_pure ?_)))))))
  refine wpAny_bind (HT.slicePart_ pk ?_)
  show wpAny _ _ (if ((-1 : Int) == 0) = true then _ else _) _ _ s
  rw [if_neg (by decide)]
  refine wpAny_bind (HT.slicePart_ .none (wpAny_bind (HT.slicePart_ .none (wpAny_bind (wpAny_pure ?_)))))
  show wpAny _ _ (pure ((n : Int) - 1, (-1 : Int), Builtin.Slice.slicePlaces ((n : Int) - 1) (-1) (-1))) _ _ s
  rw [back_places]
  exact wpAny_pure h
theorem back_item {t sl : Addr} {items : List Value} {vk : Value} {Q : Value → Shared → Prop} (ht : IsTup s.heap t items.toArray) (hs : s.heap.IsSliceOf sl .none .none vk) (pk : IsPart vk (some (-1))) (hz : items.length ≤ sizeLine)
    (h : Q (.ref s.heap.objs.size) { s with heap := s.heap.push { cls := .type "tuple", data := .seq items.reverse.toArray } }) : wpAny (model prog w) A (getItem (.ref t) (.ref sl)) Q E s := by
  obtain ⟨os, hos, hcs, hds⟩ := id hs
  have hTs : s.TypeIs (.ref sl) "slice" := ⟨os, hos, hcs⟩
  unfold getItem
  try with_reducible refine wpAny_holding ?_
  first | refine wpAny_bind (wpAny_pure ?_) | skip
  refine wpAny_bind (wpAny_sequenceKey ht.typeIs (by decide) ?_)
  refine wpAny_bind (wpAny_callSpecial?_slot (name := Str.ofString "__getitem__") ht.typeIs PyProof.Rows.slot_tuple_getitem (wpAny_call_entry PyProof.Rows.slot_tuple_getitem ht.typeIs entry_tuple_getitem ?_ (args_tuple_getitem _ _)))
  show wpAny _ _ (Builtin.Tuple.tupleItemsOf (.ref t) >>= _) _ _ s
  refine wpAny_bind (PyProof.Rows.tupleItemsOf_ ht (wpAny_bind (wpAny_typeOf hTs ?_)))
  rw [if_pos (by decide)]
  refine wpAny_bind (back_applied hs pk ?_)
  show wpAny _ _ (if ((((items.toArray.size : Nat) : Int) - 1 == 0 && (-1 : Int) == 1 && items.toArray.size == items.toArray.size) = true) then _ else _) _ _ s
  rw [if_neg (by simp), List.size_toArray, back_pick]
  have hz' : sizeOk (Data.seq items.reverse.toArray) := by
    show items.reverse.toArray.size ≤ sizeLine
    rw [List.size_toArray, List.length_reverse]
    exact hz
  first
    | exact wpAny_bind (m := Builtin.Tuple.tupleExact _) (wpAny_newObj_type (wpAny_pure ⟨_, rfl, wpAny_pure h⟩) hz')
    | exact wpAny_bind (wpAny_bind (m := Builtin.Tuple.tupleExact _) (wpAny_newObj_type (wpAny_pure (wpAny_pure ⟨_, rfl, wpAny_pure h⟩)) hz'))
    | exact wpAny_bind (wpAny_bind (m := Builtin.Tuple.tupleExact _) (wpAny_newObj_type (wpAny_pure ⟨_, rfl, wpAny_pure h⟩) hz'))
end
def tBack (K : PySem.W.Frag) (te : TE) (tk : TO) : TE := fun σ H Q => te σ H fun x H1 => tk σ H1 fun k H2 => ∃ a xs, k = some (-1) ∧ x = .ref a ∧ SqT K H2 a xs ∧ ∀ p, H2 p = none → Q (.ref p) (upd H2 p (.tup xs.reverse))
section
variable {X : Cx} {e : Expr} {te : TE} {j : Nat} {tk : TO} {pos p2 p3 p4 : Pos}
theorem Vals.rev : ∀ {xs : List V} {us : List Value}, Vals xs us → Vals xs.reverse us.reverse
  | _, _, .nil => .nil
  | _, _, .cons r t => by
    rw [List.reverse_cons, List.reverse_cons]
    exact (Vals.rev t).append (.cons r .nil)
theorem pe_back (he : PE X e te) (hk : PO X (some (.UnaryOp .USub (.Constant (.int 1) j p3) p4)) tk) : PE X (.Subscript e (.Slice none none (some (.UnaryOp .USub (.Constant (.int 1) j p3) p4)) p2) pos) (tBack X.K te tk) := by
  refine ⟨fun pins s σ H Q I h => ?_⟩
  refine Subscript_ (thn (he.run pins s σ H _ I h) fun v s1 ⟨x, H1, I1, r1, q1⟩ => ?_)
  refine wpAny_Slice ?_
  rw [evalPart_none]
  refine wpAny_pure (wpAny_pure (thn (hk.run pins s1 σ H1 _ I1 q1) fun vk s2 ⟨k, H2, I2, pk, q2⟩ => ?_))
  obtain ⟨a, xs, rfl, rfl, hx, q⟩ := q2
  cases r1
  have I3 : Inv X pins σ H2 { s2 with heap := s2.heap.push { cls := .type "slice", data := .fields #[.none, .none, vk] } } := I2.kept (t' := s2.toks) fun b ob q => Heap.get?_push_of_some _ q
  obtain ⟨its, rv, ht, hz⟩ := I3.tuple hx
  show wpAny (model X.prog X.w) X.A (subscriptTail e (.Slice none none (some (.UnaryOp .USub (.Constant (.int 1) j p3) p4)) p2) (.ref a) (.ref s2.heap.objs.size)) (EP X pins σ Q) X.xe { s2 with heap := s2.heap.push { cls := .type "slice", data := .fields #[.none, .none, vk] } }
  have hl : its.length ≤ sizeLine := by rw [← rv.length]; exact hz
  have hg := back_item (prog := X.prog) (w := X.w) (A := X.A) (E := X.xe) (Q := EP X pins σ Q) ht (Heap.IsSliceOf.new ..) pk hl
    ⟨.ref _, _, I3.laid (t' := s2.toks) (o := .tup xs.reverse) (fun b ob q => Heap.get?_push_of_some _ q) (Nat.le_refl _) ⟨by rw [List.length_reverse]; exact hz, its.reverse, Vals.rev rv, IsTup.new _ _⟩, rfl, q _ (I3.hok.fresh (Nat.le_refl _))⟩
  exact tail_any (ops := [.ref a, .ref s2.heap.objs.size]) ht.typeIs PyProof.Rows.slot_tuple_getitem.lookup hg (by with_unfolding_all rfl)
end
end Rf
/-! ## RfR2 -/
set_option maxHeartbeats 2000000
namespace Rf
open PySem PySem.Spec PyProof.Rows L2
abbrev tI (ns : List Int) : List V := ns.map V.int
/-- tuples of ints at these addresses -/
def Tups (K : PySem.W.Frag) (H : Hp) (ps : List Addr) (rows : List (List Int)) : Prop := Paired (fun p r => SqT K H p (tI r)) ps rows
theorem lexLt_is : ∀ a b : List Int, HT.lexLt a b = ltI a b
  | [], [] => rfl
  | [], _ :: _ => rfl
  | _ :: _, [] => rfl
  | x :: xs, y :: ys => by
    show (if x = y then HT.lexLt xs ys else decide (x < y)) = if x = y then ltI xs ys else decide (x < y)
    rw [lexLt_is xs ys]
theorem leastOf_fold : ∀ (l : List (List Int)) (m : List Int), leastOf l m = l.foldl (fun m y => if ltI y m then y else m) m
  | [], _ => rfl
  | x :: r, m => by
    show leastOf r (if ltI x m then x else m) = r.foldl _ (if ltI x m then x else m)
    exact leastOf_fold r _
/-! ### sum, max of a tuple of ints -/
section
variable {prog : Program} {w : World} {A : Around} {E : Value → Shared → Prop} {s : Shared}
theorem iter_intTup {l : Addr} {vs : Array Value} {Q : Value → Shared → Prop} (hh : A.handled = none) (hl : s.heap.IsTuple l vs)
    (h : ∀ s₂ : Shared, s₂ = { s with heap := s.heap.push { cls := .type "tuple_iterator", data := .fields #[.ref l, .int 0 0] } } →
      (s₂.heap.IsTupleIter s.heap.objs.size l 0 ∧ s₂.heap.IsTuple l vs) → (∀ b ∈ [s.heap.objs.size, l], b < s₂.heap.objs.size) → l ≠ s.heap.objs.size → Q (.ref s.heap.objs.size) s₂) :
    wpAny (model prog w) A (pyIter (.ref l)) Q E s :=
  PySem.W.iter_tupleW hh hl fun s₂ e _ st hfp hnot _ => h s₂ e st hfp fun z => by
    obtain ⟨o, ho, _⟩ := hl
    exact hnot l o ho (by rw [z]; exact List.mem_singleton.mpr rfl)
theorem kept_by {h' : Heap} {o : Obj} (hk : ∀ b u, b ∉ [s.heap.objs.size] → (s.heap.push o).get? b = some u → h'.get? b = some u) : ∀ b u, s.heap.get? b = some u → h'.get? b = some u := fun b u e =>
  hk b u (fun hm => absurd (Heap.lt_size e) (by rw [List.mem_singleton.mp hm]; exact Nat.lt_irrefl _)) (Heap.get?_push_of_some _ e)
theorem sum_tup_raw {l : Addr} {its : List Value} {ns : List Int} {Q : Value → Shared → Prop} (hh : A.handled = none) (hl : s.heap.IsTuple l its.toArray) (hi : IntsAre its ns)
    (h : ∀ h' tk t', (∀ b o, s.heap.get? b = some o → h'.get? b = some o) → Q (.int ns.sum t') { s with heap := h', toks := tk }) : wpAny (model prog w) A (call (.builtin "sum") [.ref l]) Q E s := by
  obtain ⟨xs, e⟩ := hi.allInts.items
  have hn : numsOf (intItems xs).toList = ns := by rw [← e]; exact hi.numsOf
  rw [nums_intItems] at hn
  rw [e] at hl
  refine call_sum_walkG (iter_intTup (A := A.in1) hh hl fun s₂ e2 st hfp hne => ?_)
  subst e2
  refine ⟨_, _, _, _, _, _, numAt xs, rfl, Walks.tuple (A := A.in1) hh _ l hne (intItems xs), st, hfp, (fun _ _ => intItems_at), fun h' tk t' hk => ?_⟩
  have q := h h' tk t' (kept_by hk)
  have e3 : preSum (numAt xs) (intItems xs).size = ns.sum := by
    rw [preSum_eq, ← hn]
    congr 1
    rw [List.take_of_length_le (by simp [intItems])]
  rw [e3]
  exact q
theorem max_tup_raw {l : Addr} {its : List Value} {ns : List Int} {Q : Value → Shared → Prop} (hh : A.handled = none) (hl : s.heap.IsTuple l its.toArray) (hi : IntsAre its ns) (hne : 0 < ns.length)
    (h : ∀ h' tk M t', (∀ b o, s.heap.get? b = some o → h'.get? b = some o) → M ∈ ns → (∀ a, a ∈ ns → a ≤ M) → Q (.int M t') { s with heap := h', toks := tk }) : wpAny (model prog w) A (call (.builtin "max") [.ref l]) Q E s := by
  obtain ⟨xs, e⟩ := hi.allInts.items
  have hn : numsOf (intItems xs).toList = ns := by rw [← e]; exact hi.numsOf
  rw [nums_intItems] at hn
  rw [e] at hl
  have hsz : 0 < xs.size := by rw [← hn] at hne; simpa using hne
  refine call_max_walk (iter_intTup (A := A.in1) hh hl fun s₂ e2 st hfp hneq => ?_)
  subst e2
  refine ⟨_, _, _, _, _, _, _, rfl, Walks.tuple (A := A.in1) hh _ l hneq (intItems xs), st, hfp, by simpa [intItems] using hsz, CmpOf.ints_gt (numAt xs) (fun _ _ => intItems_at), fun v h' tk hP hk => ?_⟩
  have e4 : (intItems xs).size = xs.size := by simp [intItems]
  rw [e4] at hP
  obtain ⟨t, rfl⟩ := intItems_at hP
  obtain ⟨h1, h2⟩ := argBest_gt (numAt xs) (xs.size - 1)
  refine h h' tk _ t (kept_by hk) ?_ fun a ha => ?_
  · rw [← hn, numAt_eq]
    exact PySem.getD_mem (by rw [List.length_map, Array.length_toList]; omega)
  · rw [← hn] at ha
    obtain ⟨j, hj, rfl⟩ := mem_getD ha
    rw [List.length_map, Array.length_toList] at hj
    rw [← numAt_eq]
    exact h2 j (by omega)
end
def rSumT (K : PySem.W.Frag) : List V → Hp → VK → Prop := fun vs H Q => ∃ (a : Addr) (ns : List Int), vs = [V.ref a] ∧ SqT K H a (tI ns) ∧ Q (.int ns.sum) H
def rMaxT (K : PySem.W.Frag) : List V → Hp → VK → Prop := fun vs H Q => ∃ (a : Addr) (ns : List Int), vs = [V.ref a] ∧ SqT K H a (tI ns) ∧ 0 < ns.length ∧ ∀ m, m ∈ ns → (∀ y, y ∈ ns → y ≤ m) → Q (.int m) H
section
variable {X : Cx}
theorem cr_sumT (hc : X.calm = true) : CallR X (.builtin "sum") (rSumT X.K) := by
  intro pins s σ H vs us Q I r h
  obtain ⟨a, ns, rfl, hs, q⟩ := h
  obtain ⟨its, rv, ht, _⟩ := I.tuple hs
  rw [Vals.ref1 r]
  exact sum_tup_raw (I.ok.hd hc) (show s.heap.IsTuple a its.toArray from ht) rv.ints fun h' tk t' hk => ⟨.int _, H, I.kept hk, ⟨_, rfl⟩, q⟩
theorem cr_maxT (hc : X.calm = true) : CallR X (.builtin "max") (rMaxT X.K) := by
  intro pins s σ H vs us Q I r h
  obtain ⟨a, ns, rfl, hs, hne, q⟩ := h
  obtain ⟨its, rv, ht, _⟩ := I.tuple hs
  rw [Vals.ref1 r]
  exact max_tup_raw (I.ok.hd hc) (show s.heap.IsTuple a its.toArray from ht) rv.ints hne fun h' tk m t' hk h1 h2 => ⟨.int _, H, I.kept hk, ⟨_, rfl⟩, q m h1 h2⟩
end
/-! ### min of tuples of ints -/
section
variable {prog : Program} {w : World} {A : Around} {E : Value → Shared → Prop} {s : Shared}
/-- the i-th value is the tuple of the i-th row, in this heap -/
def RowAt (h : Heap) (rows : List (List Int)) (i : Nat) (v : Value) : Prop := ∃ p r its, v = .ref p ∧ rows[i]? = some r ∧ IsTup h p its ∧ IntsAre its.toList r
theorem isTup_stays {h h' : Heap} {p : Addr} {its : Array Value} (t : IsTup h p its) (k : ∀ b o, h.get? b = some o → h'.get? b = some o) : IsTup h' p its := by
  obtain ⟨o, e, r⟩ := t
  exact ⟨o, k _ _ e, r⟩
theorem cmp_rows {h0 : Heap} {rows : List (List Int)} {P : Nat → Value → Prop} (hP : ∀ i v, P i v → RowAt h0 rows i v) (hu : A.units < cLine) :
    CmpIn prog w A .Lt h0 P (fun i j => ltI (rows.getD i []) (rows.getD j [])) := fun i j vi vj s Q E hk hi hj q => by
  obtain ⟨p, r, its, rfl, er, ht, hin⟩ := hP i vi hi
  obtain ⟨p2, r2, its2, rfl, er2, ht2, hin2⟩ := hP j vj hj
  have e1 : rows.getD i [] = r := by rw [List.getD_eq_getElem?_getD, er] <;> rfl
  have e2 : rows.getD j [] = r2 := by rw [List.getD_eq_getElem?_getD, er2] <;> rfl
  dsimp only at q
  rw [e1, e2, ← lexLt_is] at q
  have z := HT.lt_tupInts (prog := prog) (w := w) (A := A) (E := E) (s := s) (Q := Q) (isTup_stays ht hk) (isTup_stays ht2 hk) hin hin2 hu q
  exact z
theorem best_row {rows : List (List Int)} {x : List Int} {l : List (List Int)} (e : rows = x :: l) : rows[argBest (fun i j => ltI (rows.getD i []) (rows.getD j [])) (rows.length - 1)]? = some (leastOf l x) := by
  subst e
  obtain ⟨z1, z2⟩ := PySem.W.argBest_fold ltI [] x l l.length (Nat.le_refl _)
  rw [List.take_length] at z2
  rw [leastOf_fold, ← z2, List.length_cons, Nat.add_sub_cancel]
  rw [List.getD_eq_getElem?_getD]
  have hlt : argBest (fun i j => ltI ((x :: l).getD i []) ((x :: l).getD j [])) l.length < (x :: l).length := by
    rw [List.length_cons]
    exact Nat.lt_succ_of_le z1
  rw [List.getElem?_eq_getElem hlt]
  rfl
theorem min_rows_list {l : Addr} {vs : Array Value} {x : List Int} {rest : List (List Int)} {Q : Value → Shared → Prop} (hh : A.handled = none) (hl : s.heap.IsList l vs) (hn : vs.size = rest.length + 1)
    (hr : ∀ (i : Nat) (v : Value), vs[i]? = some v → RowAt s.heap (x :: rest) i v) (hu : A.units + 1 < cLine)
    (h : ∀ (i : Nat) (v : Value) (h' : Heap) (tk : Nat), vs[i]? = some v → (x :: rest)[i]? = some (leastOf rest x) → (∀ b o, s.heap.get? b = some o → h'.get? b = some o) → Q v { s with heap := h', toks := tk }) :
    wpAny (model prog w) A (call (.builtin "min") [.ref l]) Q E s := by
  refine call_min_walkH (PySem.W.iter_listW (A := A.in1) hh hl fun s₂ e W st hfp hw hk => ?_)
  refine ⟨_, _, _, _, _, _, _, s.heap, _, rfl, W, st, hfp, by omega, hw, hk, cmp_rows (A := A.in1) (rows := x :: rest) (fun i v hv => hr i v hv) hu, fun v s' hP m => ?_⟩
  obtain ⟨h', tk, rfl, hk'⟩ := PySem.W.moved_old e rfl m
  have e1 : vs.size - 1 = (x :: rest).length - 1 := by rw [hn, List.length_cons]
  have z := best_row (rows := x :: rest) rfl
  rw [← e1] at z
  exact h _ v h' tk hP z hk'
theorem min_rows_two {a b : Addr} {x y : List Int} {its its2 : Array Value} {Q : Value → Shared → Prop} (hh : A.handled = none) (ha : IsTup s.heap a its) (hb : IsTup s.heap b its2) (hx : IntsAre its.toList x) (hy : IntsAre its2.toList y) (hu : A.units + 1 < cLine)
    (h : ∀ h' tk, (∀ b o, s.heap.get? b = some o → h'.get? b = some o) → Q (if ltI y x then .ref b else .ref a) { s with heap := h', toks := tk }) :
    wpAny (model prog w) A (call (.builtin "min") [.ref a, .ref b]) Q E s := by
  have hname : (toString "min" ++ toString ".loop" : String) = "min.loop" := by decide
  have old : ∀ c o, s.heap.get? c = some o → (s.heap.push { cls := .type "tuple", data := .seq #[.ref a, .ref b] }).get? c = some o := fun c o e => Heap.get?_push_of_some _ e
  have hT : (s.heap.push { cls := .type "tuple", data := .seq #[.ref a, .ref b] }).IsTuple s.heap.objs.size #[.ref a, .ref b] := ⟨_, Heap.get?_push_size _ rfl, rfl, 0, rfl⟩
  have rows : ∀ i v, (#[Value.ref a, .ref b] : Array Value)[i]? = some v → RowAt (s.heap.push { cls := .type "tuple", data := .seq #[.ref a, .ref b] }) [x, y] i v := fun i v hv => by
    match i, hv with
    | 0, hv => exact ⟨a, x, its, (Option.some.inj hv).symm, rfl, isTup_stays ha old, hx⟩
    | 1, hv => exact ⟨b, y, its2, (Option.some.inj hv).symm, rfl, isTup_stays hb old, hy⟩
    | i + 2, hv => simp at hv
  refine call_function_tree F.kind_min F.plain_min F.entry_min (F.args_min2 _ _) ?_
  show wpAny _ A.in1 (Builtin.Builtins.bindParams "min" ["key", "default"] 0 ⟨[], []⟩ >>= _) _ _ s
  refine wpAny_bind (wpAny_of_eq (show Builtin.Builtins.bindParams "min" ["key", "default"] 0 ⟨[], []⟩ = pure [none, none] from rfl) ?_)
  show wpAny _ A.in1 (newTuple [.ref a, .ref b] >>= _) _ _ s
  refine wpAny_bind (wpAny_newObj_type ?_)
  refine wpAny_bind (PySem.W.iter_tupleW (A := A.in1) (s := { s with heap := s.heap.push { cls := .type "tuple", data := .seq #[.ref a, .ref b] } }) hh hT fun s₂ e W st hfp hw hk => ?_)
  refine wpAny_bind (wpAny_newObj_type ?_)
  have hSf : s₂.heap.objs.size ∉ [(s.heap.push { cls := .type "tuple", data := .seq #[.ref a, .ref b] }).objs.size, s.heap.objs.size] := fun hm => Nat.lt_irrefl _ (hfp _ hm)
  rw [hname]
  refine wpAny_pure ⟨plainId_quiet F.plain_min_loop _, codeAny_min_loop_firstH W (s.heap.push { cls := .type "tuple", data := .seq #[.ref a, .ref b] }) hw (fun i j => ltI ([x, y].getD i []) ([x, y].getD j [])) (cmp_rows (A := A.in1) (rows := [x, y]) (fun i v hv => rows i v hv) hu) s₂.heap.objs.size hSf (fresh_in hk) _ (by show 0 < 2; decide) (fun c o q => Heap.get?_push_of_some _ (hk c o q)) (W.frame 0 s₂ _ s₂.toks st (Nat.le_refl _) fun c _ o q => Heap.get?_push_of_some _ q) (Heap.get?_push_size _ rfl) fun v s' hP hm => ?_⟩
  obtain ⟨h', tk, rfl, hk'⟩ := PySem.W.moved_old e rfl (Moved.drop_new (tk := s₂.toks) hm (Nat.le_refl _))
  have q := h h' tk fun c o z => hk' c o (old c o z)
  have ev : v = if ltI y x then Value.ref b else Value.ref a := by
    have hP' : (#[Value.ref a, .ref b] : Array Value)[argBest (fun i j => ltI ([x, y].getD i []) ([x, y].getD j [])) 1]? = some v := hP
    by_cases c : ltI y x = true
    · have e1 : argBest (fun i j => ltI ([x, y].getD i []) ([x, y].getD j [])) 1 = 1 := if_pos c
      rw [e1] at hP'
      rw [if_pos c]
      exact (Option.some.inj hP').symm
    · have e1 : argBest (fun i j => ltI ([x, y].getD i []) ([x, y].getD j [])) 1 = 0 := if_neg c
      rw [e1] at hP'
      rw [if_neg c]
      exact (Option.some.inj hP').symm
  rw [ev]
  exact q
end
/-- min of a list of tuples of ints -/
def rMinRows (K : PySem.W.Frag) : List V → Hp → VK → Prop := fun vs H Q => ∃ (a : Addr) (ps : List Addr) (x : List Int) (rest : List (List Int)), vs = [V.ref a] ∧ SqL K H a (ps.map V.ref) ∧ Tups K H ps (x :: rest) ∧
  ∀ p, p ∈ ps → SqT K H p (tI (leastOf rest x)) → Q (.ref p) H
/-- min of two tuples of ints -/
def rMin2 (K : PySem.W.Frag) : List V → Hp → VK → Prop := fun vs H Q => ∃ (a b : Addr) (x y : List Int), vs = [V.ref a, V.ref b] ∧ SqT K H a (tI x) ∧ SqT K H b (tI y) ∧ Q (if ltI y x then .ref b else .ref a) H
theorem Paired.at {α β : Type} {F : α → β → Prop} : ∀ {l : List α} {m : List β}, Paired F l m → ∀ (i : Nat) (a : α), l[i]? = some a → ∃ b, m[i]? = some b ∧ F a b
  | _, _, .nil, i, a, e => by simp at e
  | _, _, .cons r t, 0, a, e => by
    simp at e
    subst e
    exact ⟨_, rfl, r⟩
  | _, _, .cons r t, i + 1, a, e => by
    obtain ⟨b, h1, h2⟩ := Paired.at t i a (by simpa using e)
    exact ⟨b, by simpa using h1, h2⟩
section
variable {X : Cx}
theorem vals_refs : ∀ {ps : List Addr} {us : List Value}, Vals (ps.map V.ref) us → us = ps.map Value.ref
  | [], _, .nil => rfl
  | p :: ps, _, .cons r t => by
    cases r
    rw [List.map_cons, vals_refs t]
theorem cr_minRows {k : Nat} (hc : X.calm = true) (hr : Room k X.A) : CallR X (.builtin "min") (rMinRows X.K) := by
  intro pins s σ H vs us Q I r h
  obtain ⟨a, ps, x, rest, rfl, hs, hT, q⟩ := h
  obtain ⟨its, rv, hl, _⟩ := I.list hs
  rw [Vals.ref1 r]
  have ei := vals_refs rv
  subst ei
  have hlen : ps.length = rest.length + 1 := Paired.length hT
  refine min_rows_list (x := x) (rest := rest) (I.ok.hd hc) hl.isList (by rw [List.size_toArray, List.length_map]; exact hlen) (fun i v hv => ?_) (by have := hr.units; omega) fun i v h' tk hv hi hk => ?_
  · have hv' : (ps.map Value.ref)[i]? = some v := by simpa using hv
    rw [List.getElem?_map] at hv'
    obtain ⟨p, hp, rfl⟩ := Option.map_eq_some_iff.mp hv'
    obtain ⟨row, e1, e2⟩ := Paired.at hT i p hp
    obtain ⟨its2, rv2, ht, _⟩ := I.tuple e2
    exact ⟨p, row, its2.toArray, rfl, e1, ht, rv2.ints⟩
  · have hv' : (ps.map Value.ref)[i]? = some v := by simpa using hv
    rw [List.getElem?_map] at hv'
    obtain ⟨p, hp, rfl⟩ := Option.map_eq_some_iff.mp hv'
    obtain ⟨row, e1, e2⟩ := Paired.at hT i p hp
    rw [hi] at e1
    cases e1
    exact ⟨.ref p, H, I.kept hk, rfl, q p (List.mem_of_getElem? hp) e2⟩
theorem cr_min2 {k : Nat} (hc : X.calm = true) (hr : Room k X.A) : CallR X (.builtin "min") (rMin2 X.K) := by
  intro pins s σ H vs us Q I r h
  obtain ⟨a, b, x, y, rfl, ha, hb, q⟩ := h
  obtain ⟨its, rv, ht, _⟩ := I.tuple ha
  obtain ⟨its2, rv2, ht2, _⟩ := I.tuple hb
  obtain ⟨u, w', rfl, r1, r2⟩ := vals2 r
  cases r1
  cases r2
  refine min_rows_two (I.ok.hd hc) ht ht2 rv.ints rv2.ints (by have := hr.units; omega) fun h' tk hk => ?_
  by_cases c : ltI y x = true
  · rw [if_pos c] at q ⊢
    exact ⟨.ref b, H, I.kept hk, rfl, q⟩
  · rw [if_neg c] at q ⊢
    exact ⟨.ref a, H, I.kept hk, rfl, q⟩
end
end Rf
/-! ## RfR3 -/
namespace Rf
open PySem PySem.Spec PyProof.Rows L2
/-! ### set(xs) of a list of any length: what is true of the set behind i items is J i -/
/-- J leans on the set's own object and on what stood before -/
structure Grows (P : Program) (w : World) (A : Around) (h0 : Heap) (S : Addr) (items : Array Value) (J : Nat → Heap → Prop) : Prop where
  stay : ∀ i h h', J i h → (∀ o, h.get? S = some o → h'.get? S = some o) → (∀ b o, h0.get? b = some o → h'.get? b = some o) → J i h'
  add : ∀ (i : Nat) (v : Value) (s : Shared) (Q : Bool → Shared → Prop) (E : Value → Shared → Prop), items[i]? = some v → J i s.heap → (∀ b o, h0.get? b = some o → s.heap.get? b = some o) →
    (∀ b h' tk, s.toks ≤ tk → Heap.SameBut S s.heap h' → J (i + 1) h' → Q b { s with heap := h', toks := tk }) → wpAny (model P w) A (setAdd S v) Q E s
  fresh : ∀ h : Heap, h.get? S = some { cls := .type "set", dict := none, data := .set #[] 0 (.fresh 0 0 (!w.params.followText "set-order")) } → (∀ b o, h0.get? b = some o → h.get? b = some o) → J 0 h
section
variable {P : Program} {w : World} {A : Around} {E : Value → Shared → Prop} {s : Shared}
theorem grow_loop {I S : Addr} {fp wr : List Addr} {G : Array GenState → Array GenState → Prop} {items : Array Value} {St : Nat → Shared → Prop} {R : Result → Shared → Prop} {J : Nat → Heap → Prop} {h0 : Heap}
    (W : WalksS P w A.in1 I fp wr G items.size (fun i v => items[i]? = some v) St) (g : Grows P w A.in1 h0 S items J) (hSf : S ∉ fp) (hS0 : h0.get? S = none) (hw0 : ∀ b ∈ wr, h0.get? b = none) :
    ∀ (m i : Nat) (s : Shared), i + m = items.size → St i s → J i s.heap → (∀ b o, h0.get? b = some o → s.heap.get? b = some o) →
      (∀ s', Moved (S :: wr) G s s' → J items.size s'.heap → (∀ b o, h0.get? b = some o → s'.heap.get? b = some o) → R (.ok (.ret .none)) s') →
      codeAny (model P w) A (.builtin "set.update.loop" ⟨[.ref S, .ref I], []⟩) R s := by
  have Sw : S ∉ wr := fun q => hSf (W.sub _ q)
  have up : ∀ b ∈ wr, b ∈ S :: wr := fun b hb => List.mem_cons_of_mem _ hb
  have olds : ∀ {s s' : Shared}, Moved wr G s s' → (∀ b o, h0.get? b = some o → s.heap.get? b = some o) → ∀ b o, h0.get? b = some o → s'.heap.get? b = some o := fun hm k b o e =>
    hm.heap b o (fun hb => by rw [hw0 b hb] at e; cases e) (k b o e)
  intro m
  induction m with
  | zero =>
    intro i s hi hst hJ hk hR
    obtain rfl : i = items.size := by omega
    refine codeAny_builtin F.entry_set_update_loop ?_
    rw [Around.under_plainId F.plain_set_update_loop _]
    show wpAny _ A.in1 (pyNext (.ref I) >>= _) _ _ s
    refine wpAny_bind (W.done s _ _ hst fun s' hm => ?_)
    show wpAny _ A.in1 (ret Value.none) _ _ s'
    exact wpAny_pure (hR s' (hm.mono up) (g.stay _ _ _ hJ (fun o e => hm.heap S o Sw e) (olds hm hk)) (olds hm hk))
  | succ m ih =>
    intro i s hi hst hJ hk hR
    refine codeAny_builtin F.entry_set_update_loop ?_
    rw [Around.under_plainId F.plain_set_update_loop _]
    show wpAny _ A.in1 (pyNext (.ref I) >>= _) _ _ s
    refine wpAny_bind (W.item i s _ _ (by omega) hst fun v s1 hv hst1 hm => ?_)
    show wpAny _ A.in1 (holding [v] (setAdd S v) >>= _) _ _ s1
    have hk1 := olds hm hk
    refine wpAny_bind (wpAny_holding (g.add i v s1 _ _ hv (g.stay _ _ _ hJ (fun o e => hm.heap S o Sw e) hk1) hk1 fun b h' tk htk hsb hJ2 => ?_))
    have hk2 : ∀ b o, h0.get? b = some o → h'.get? b = some o := fun b o e => (hsb.2 b (fun z => by rw [z, hS0] at e; cases e)).trans (hk1 b o e)
    refine wpAny_pure ⟨plainId_quiet F.plain_set_update_loop _, ih (i + 1) _ (by omega) (W.frame _ s1 _ _ hst1 htk fun c hc o e => (hsb.2 c fun z => hSf (z ▸ hc)).trans e) hJ2 hk2 fun s2 hm2 hJ3 hk3 => ?_⟩
    exact hR s2 (Moved.trans W.gtrans ((hm.mono up).then_heap htk fun c o hc e => (hsb.2 c fun z => hc (z ▸ List.mem_cons_self)).trans e) hm2) hJ3 hk3
theorem set_of_list {l : Addr} {items : Array Value} {J : Nat → Heap → Prop} {Q : Value → Shared → Prop} (hh : A.handled = none) (hl : s.heap.IsList l items) (g : Grows P w A.in1.in1.in1 s.heap s.heap.objs.size items J)
    (h : ∀ (h' : Heap) (tk : Nat), J items.size h' → (∀ b o, s.heap.get? b = some o → h'.get? b = some o) → Q (.ref s.heap.objs.size) { s with heap := h', toks := tk }) :
    wpAny (model P w) A (call (.type "set") [.ref l]) Q E s := by
  have none_of : ∀ b, s.heap.objs.size ≤ b → s.heap.get? b = none := fun b hb => by
    cases q : s.heap.get? b with
    | none => rfl
    | some o => exact absurd (Nat.lt_of_lt_of_le (Heap.lt_size q) hb) (Nat.lt_irrefl _)
  obtain ⟨c, tl, hmro⟩ := F.called_set.mro
  have hmade := F.called_set.made
  have hsub := F.called_set.sub
  refine wpAny_call (codeAny_of_tree ?_)
  show wpAny _ _ (callAny (.type "set") _) _ _ _
  refine wpAny_pure ⟨Code.quiet_builtin _ (by decide +kernel), codeAny_builtin F.entry_type_call ?_⟩
  rw [Around.under_plain (weight_type_call_type "set" [.ref l] []) rfl]
  have h1 := F.called_set.notType
  have h2 := F.called_set.canCreate
  have hct := F.typeCall_set_1 (.ref l)
  repeat (any_goals (first | assumption | wp_step))
  generalize hn : ({ cls := .type "set", dict := none, data := .set #[] 0 (.fresh 0 0 (!w.params.followText "set-order")) } : Obj) = no
  refine codeAny_mono (L2.code_set_led1 (.ref l) (E := E) (Q₁ := fun obj s₁ => obj = .ref s.heap.objs.size ∧ s₁ = { s with heap := s.heap.push no }) (by rw [hn]; exact ⟨rfl, rfl⟩)) fun r s₁ hr => ?_
  match r, hr with
  | .error e, hr => exact hr
  | .ok .next, hr => exact hr.elim
  | .ok .brk, hr => exact hr.elim
  | .ok .cont, hr => exact hr.elim
  | .ok (.ret obj), hr =>
    obtain ⟨rfl, rfl⟩ := hr
    have hS : (s.heap.push no).get? s.heap.objs.size = some no := Heap.get?_push_size _ (by rw [← hn]; rfl)
    have hT : Shared.TypeIs { s with heap := s.heap.push no } (.ref s.heap.objs.size) "set" := ⟨_, hS, by rw [← hn]⟩
    have hli := F.called_set.init.lookup
    have hbi := F.called_set.init.bind (.ref s.heap.objs.size)
    repeat (any_goals (first | assumption | wp_step))
    refine codeAny_mono (codeAny_call_builtin (R := wants (fun r s₂ => r = .none ∧ ∃ h' tk, s₂ = { s with heap := h', toks := tk } ∧ J items.size h' ∧ (∀ b o, s.heap.get? b = some o → h'.get? b = some o)) E) F.called_set.init.plain F.entry_set_init (check_set_init_1 hT ?_)) fun r₂ s₂ hr₂ => ?_
    · obtain ⟨⟨ocls, odict, odata, oslots⟩, hol, hcl, nl, hdl⟩ := hl
      obtain rfl : ocls = Value.type "list" := hcl
      obtain rfl : odata = Data.seq items nl := hdl
      have hol' : (s.heap.push no).get? l = some { cls := .type "list", dict := odict, data := .seq items nl, slots := oslots } := Heap.get?_push_of_some _ hol
      have hsls := F.sub_list_set
      have hslf := F.sub_list_frozenset
      have hne : (Value.type "list" == Value.type "dict") = false := by decide
      have hl1 : (s.heap.push no).IsList l items := ⟨_, hol', rfl, nl, rfl⟩
      have hlS : l < s.heap.objs.size := Heap.lt_size hol
      have hz1 : (s.heap.push no).objs.size = s.heap.objs.size + 1 := Heap.size_push ..
      have hh3 : A.in1.in1.in1.handled = none := by simp [hh]
      have hneI : l ≠ (s.heap.push no).objs.size := by
        rw [hz1]
        exact Nat.ne_of_lt (Nat.lt_succ_of_lt hlS)
      have hSf : s.heap.objs.size ∉ [(s.heap.push no).objs.size, l] := by
        rw [hz1]
        intro q
        rcases List.mem_cons.mp q with q | q
        · exact absurd q (Nat.ne_of_lt (Nat.lt_succ_self _))
        · exact absurd (List.mem_singleton.mp q) (Nat.ne_of_gt hlS)
      subst hn
      unfold Builtin.«set.__init__» noKeywords Builtin.Frozenset.updateFrom
      generalize hPI : pyIter = PI
      wp_walk
      subst hPI
      refine wpAny_pyIter_list hl1 ?_
      refine wpAny_bind (wpAny_runValue ?_)
      refine grow_loop ((Walks.list hh3 _ l hneI items).toS) g hSf (none_of _ (Nat.le_refl _)) (fun b hb => none_of b (by
        rw [List.mem_singleton.mp hb, hz1]
        exact Nat.le_succ _)) items.size 0 _ (by omega) ⟨⟨_, Heap.get?_push_size _ rfl, rfl, rfl⟩, (hl1.push _)⟩ ?gFresh ?gOld ?gEnd
      case gFresh => exact g.fresh _ (Heap.get?_push_of_some _ hS) fun b o e => Heap.get?_push_of_some _ (Heap.get?_push_of_some _ e)
      case gOld => exact fun b o e => Heap.get?_push_of_some _ (Heap.get?_push_of_some _ e)
      case gEnd =>
        intro s' hm hJ hk
        obtain ⟨h', g2, d', tk', os'⟩ := s'
        obtain rfl : g2 = s.gens := hm.gens
        obtain rfl : d' = s.drawn := hm.drawn
        obtain rfl : os' = s.os := hm.os
        show wpAny _ _ _ _ _ _
        refine wpAny_pure ?_
        show wpAny _ _ (ret Value.none) _ _ _
        exact wpAny_pure ⟨rfl, h', tk', rfl, hJ, hk⟩
    · match r₂, hr₂ with
      | .error e, hr₂ => exact hr₂
      | .ok .next, hr₂ => exact hr₂.elim
      | .ok .brk, hr₂ => exact hr₂.elim
      | .ok .cont, hr₂ => exact hr₂.elim
      | .ok (.ret r), hr₂ =>
        obtain ⟨rfl, h', tk, rfl, hJ, hk⟩ := hr₂
        repeat (any_goals (first | assumption | wp_step))
        exact h _ _ hJ hk
end
end Rf
/-! ## RfR4 -/
namespace Rf
open PySem PySem.Spec PyProof.Rows L2
theorem nodup_len {α : Type} [DecidableEq α] : ∀ (l m : List α), l.Nodup → (∀ x ∈ l, x ∈ m) → l.length ≤ m.length
  | [], _, _, _ => Nat.zero_le _
  | x :: l, m, hn, hs => by
    obtain ⟨h1, h2⟩ := List.nodup_cons.mp hn
    have hx : x ∈ m := hs x List.mem_cons_self
    have ih := nodup_len l (m.erase x) h2 fun y hy => by
      have hne : y ≠ x := fun e => h1 (by rw [← e]; exact hy)
      exact (List.mem_erase_of_ne hne).2 (hs y (List.mem_cons_of_mem _ hy))
    have e := List.length_erase_of_mem hx
    have p : 0 < m.length := List.length_pos_of_mem hx
    rw [List.length_cons]
    omega
theorem take_one {α : Type} {l : List α} {i : Nat} {x : α} (h : l[i]? = some x) : l.take (i + 1) = l.take i ++ [x] := by
  rw [List.take_succ, h]
  rfl
section
variable {P : Program} {w : World} {A : Around} {h0 : Heap} {S : Addr}
/-- ints below B -/
def IntsIn (w : World) (S : Addr) (ns : List Int) (i : Nat) (h : Heap) : Prop := ∃ D : List Int, D.Nodup ∧ (∀ k, k ∈ D ↔ k ∈ ns.take i) ∧ SetR w h S (fun j => decide (j ∈ ns.take i)) D.length
theorem grows_ints {items : Array Value} {ns : List Int} {B : Nat} (hi : IntsAre items.toList ns) (hb : ∀ x ∈ ns, 0 ≤ x ∧ x < (B : Int)) (hB : B ≤ 1000) : Grows P w A h0 S items (IntsIn w S ns) where
  stay := fun i h h' ⟨D, d1, d2, R⟩ k _ => ⟨D, d1, d2, R.at k⟩
  add := fun i v s Q E hv ⟨D, d1, d2, R⟩ _ q => by
    have hv' : items.toList[i]? = some v := by rw [Array.getElem?_toList]; exact hv
    have hlt : i < ns.length := by rw [← IntsAre.length hi]; exact (List.getElem?_eq_some_iff.mp hv').1
    obtain ⟨t, ht⟩ := hi.get i _ (List.getElem?_eq_getElem hlt)
    have e := ht.symm.trans hv'
    cases e
    have hz : ns[i]? = some ns[i] := List.getElem?_eq_getElem hlt
    have hsub : ∀ x ∈ D, x ∈ (List.range B).map fun (m : Nat) => (m : Int) := fun x hx => by
      obtain ⟨b1, b2⟩ := hb x (List.mem_of_mem_take ((d2 x).mp hx))
      exact List.mem_map.mpr ⟨x.toNat, List.mem_range.mpr (by omega), by omega⟩
    have hl := nodup_len D _ d1 hsub
    rw [List.length_map, List.length_range] at hl
    unfold setAdd
    refine wpAny_holding (wpAny_bind ((intKind P w).pyHash (k := ns[i]) (intKind_is _ _ _ _) ?_))
    refine setR_add_hashed (s := { s with toks := s.toks + 1 }) R (by unfold scanBound; omega) fun h' hsb hS => ?_
    have mm : ∀ k : Int, k ∈ ns.take (i + 1) ↔ (k ∈ ns.take i ∨ k = ns[i]) := fun k => by
      rw [take_one hz, List.mem_append, List.mem_singleton]
    refine q _ h' _ (Nat.le_succ _) hsb ?_
    by_cases c : ns[i] ∈ ns.take i
    · refine ⟨D, d1, fun k => ?_, ?_⟩
      · rw [d2 k, mm k]
        exact ⟨.inl, fun z => z.elim id fun z => z ▸ c⟩
      · have c' : decide (ns[i] ∈ ns.take i) = true := decide_eq_true c
        rw [if_pos c'] at hS
        exact hS.congr fun k => by
          rw [Bool.eq_iff_iff]
          simp only [Bool.or_eq_true, decide_eq_true_eq]
          rw [mm k]
    · refine ⟨D ++ [ns[i]], ?_, fun k => ?_, ?_⟩
      · rw [List.nodup_append]
        exact ⟨d1, List.nodup_cons.mpr ⟨by simp, List.nodup_nil⟩, fun a ha b hb' e => c ((d2 _).mp (by rw [← List.mem_singleton.mp hb', ← e]; exact ha))⟩
      · rw [List.mem_append, List.mem_singleton, d2 k, mm k]
      · have c' : ¬ decide (ns[i] ∈ ns.take i) = true := fun z => c (of_decide_eq_true z)
        rw [if_neg c'] at hS
        rw [List.length_append, List.length_singleton]
        exact hS.congr fun k => by
          rw [Bool.eq_iff_iff]
          simp only [Bool.or_eq_true, decide_eq_true_eq]
          rw [mm k]
  fresh := fun h e _ => ⟨[], List.nodup_nil, fun k => by simp, setR_new_at (ns := ns) e⟩
end
/-- set(xs), ints from 0 below B, any length -/
def rSetInts (K : PySem.W.Frag) (w : World) : List V → Hp → VK → Prop := fun vs H Q => ∃ (l : Addr) (ns : List Int) (B : Nat), vs = [V.ref l] ∧ SqL K H l (tI ns) ∧ (∀ x ∈ ns, 0 ≤ x ∧ x < (B : Int)) ∧ B ≤ 1000 ∧
  ∀ a c, H a = none → c ≤ B → Q (.ref a) (upd H a (SetO w a (fun j => decide (j ∈ ns)) c))
section
variable {X : Cx}
theorem cr_setInts (hc : X.calm = true) : CallR X (.type "set") (rSetInts X.K X.w) := by
  intro pins s σ H xs us Q I r h
  obtain ⟨l, ns, B, rfl, hl, hb, hB, q⟩ := h
  rw [Vals.ref1 r]
  obtain ⟨its, rv, pl, hz⟩ := I.list hl
  have hi : IntsAre its.toArray.toList ns := rv.ints
  have hn : H s.heap.objs.size = none := I.hok.fresh (Nat.le_refl _)
  refine set_of_list (P := X.prog) (w := X.w) (I.ok.hd hc) pl.isList (grows_ints (B := B) hi hb hB) fun h' tk J k => ?_
  obtain ⟨D, d1, d2, R⟩ := J
  have e : ns.take its.toArray.size = ns := List.take_of_length_le (by rw [List.size_toArray, ← rv.length, List.length_map]; exact Nat.le_refl _)
  rw [e] at R d2
  have hsub : ∀ x ∈ D, x ∈ (List.range B).map fun (m : Nat) => (m : Int) := fun x hx => by
    obtain ⟨b1, b2⟩ := hb x ((d2 x).mp hx)
    exact List.mem_map.mpr ⟨x.toNat, List.mem_range.mpr (by omega), by omega⟩
  have hle := nodup_len D _ d1 hsub
  rw [List.length_map, List.length_range] at hle
  exact ⟨.ref s.heap.objs.size, upd H s.heap.objs.size (SetO X.w s.heap.objs.size (fun j => decide (j ∈ ns)) D.length), I.laid (t' := tk) k (Nat.le_refl _) (setO_new R), rfl, q _ _ hn hle⟩
end
section
variable {P : Program} {w : World} {A : Around} {h0 : Heap} {S : Addr}
/-- tuples, few unlike ones -/
def TupsIn (P : Program) (w : World) (S : Addr) (ks : List (Addr × List Int)) (i : Nat) (h : Heap) : Prop := ∃ L es ep t, SetTR P w h S L es ep t ∧ Got ks i L
theorem grows_tups {items : Array Value} {ks : List (Addr × List Int)} {D : List (List Int)} (hit : items.toList = ks.map fun p => Value.ref p.1) (hk : ∀ p ∈ ks, IsT P w h0 p.2 p.1) (hD : ∀ p ∈ ks, p.2 ∈ D) (hl : D.length ≤ 62) (hu : A.units < cLine) :
    Grows P w A h0 S items (TupsIn P w S ks) where
  stay := fun i h h' ⟨L, es, ep, t, R, g⟩ k k0 => ⟨L, es, ep, t, R.keep k fun p hp => isT_keep (hk p (List.mem_of_mem_take (g.sub p hp))) k0, g⟩
  add := fun i v s Q E hv ⟨L, es, ep, t, R, g⟩ k0 q => by
    have hv' : items.toList[i]? = some v := by rw [Array.getElem?_toList]; exact hv
    rw [hit, List.getElem?_map] at hv'
    obtain ⟨p, hp, rfl⟩ := Option.map_eq_some_iff.mp hv'
    have hx : IsT P w s.heap p.2 p.1 := isT_keep (hk p (List.mem_of_getElem? hp)) k0
    have hle := nodup_len (L.map (·.2)) D R.nd fun x hx => by
      obtain ⟨z, hz, rfl⟩ := List.mem_map.mp hx
      exact hD z (List.mem_of_mem_take (g.sub z hz))
    rw [List.length_map] at hle
    unfold setAdd
    refine wpAny_holding (wpAny_bind (wpAny_pyHash_tuple hu hx ?_))
    refine add_at (s := { s with toks := s.toks + (p.2.length + 1) }) (R.keep (fun _ e => e) fun z hz => isT_keep (hk z (List.mem_of_mem_take (g.sub z hz))) k0) hx hu (by omega) fun b h' L' es' ep' t' hsb hS c1 c2 => ?_
    refine q b h' _ (Nat.le_add_right _ _) hsb ⟨L', es', ep', t', hS, ?_⟩
    by_cases c : p.2 ∈ L.map (·.2)
    · rw [c1 c]
      exact g.same hp c
    · exact g.more hp (c2 c)
  fresh := fun h e _ => ⟨[], #[], 0, _, setTR_fresh e, Got.zero ks⟩
end
/-- set(xs), tuples of ints, any length, all among D -/
def rSetTups (K : PySem.W.Frag) (P : Program) (w : World) : List V → Hp → VK → Prop := fun xs H Q => ∃ (l : Addr) (ks : List (Addr × List Int)) (D : List (List Int)), xs = [V.ref l] ∧ SqL K H l (ks.map fun p => V.ref p.1) ∧ (∀ p ∈ ks, SqT K H p.1 (tI p.2)) ∧
  (∀ p ∈ ks, p.2 ∈ D) ∧ D.length ≤ 62 ∧ ∀ a L, H a = none → (∀ p ∈ L, p ∈ ks) → (∀ p ∈ ks, p.2 ∈ L.map (·.2)) → Q (.ref a) (upd H a (SetTO P w a L))
section
variable {X : Cx}
theorem cr_setTups {k : Nat} (hc : X.calm = true) (hr : Room k X.A) : CallR X (.type "set") (rSetTups X.K X.prog X.w) := by
  intro pins s σ H xs us Q I r h
  obtain ⟨l, ks, D, rfl, hl, hk, hD, hlen, q⟩ := h
  rw [Vals.ref1 r]
  obtain ⟨its, rv, pl, hz⟩ := I.list hl
  have hn : H s.heap.objs.size = none := I.hok.fresh (Nat.le_refl _)
  have hu : X.A.in1.in1.in1.units < cLine := by
    have := hr.units
    show X.A.units + 1 + 1 + 1 < cLine
    omega
  refine set_of_list (P := X.prog) (w := X.w) (I.ok.hd hc) pl.isList (grows_tups (ks := ks) (D := D) (by simpa using refs_of_vals rv) (fun p hp => I.isT (hk p hp)) hD hlen hu) fun h' tk J k => ?_
  obtain ⟨L, es, ep, t, R, g⟩ := J
  have e : ks.take its.toArray.size = ks := List.take_of_length_le (by rw [List.size_toArray, ← rv.length, List.length_map]; exact Nat.le_refl _)
  refine ⟨.ref s.heap.objs.size, upd H s.heap.objs.size (SetTO X.prog X.w s.heap.objs.size L), I.laid (t' := tk) k (Nat.le_refl _) (setTO_new R.t0), rfl, q _ L hn (fun p hp => List.mem_of_mem_take (g.sub p hp)) fun p hp => g.all p (by rw [e]; exact hp)⟩
end
end Rf
/-! ## RfR5 -/
namespace Rf
open PySem PySem.Spec PyProof.Rows L2
/-! ### keys (i, deeds, moves): a tuple within a tuple -/
abbrev K3 := Int × List Int × Int
section
variable {P : Program} {w : World}
def K3At (P : Program) (w : World) (h : Heap) (k : K3) (a : Addr) : Prop := ∃ o t u n b, h.get? a = some o ∧ o.cls = .type "tuple" ∧ o.data = .seq #[.int k.1 t, .ref b, .int k.2.2 u] n ∧ IsTupleKey (intKind P w) h k.2.1 b
theorem K3At.inj {h : Heap} {a : Addr} {x y : K3} (p : K3At P w h x a) (q : K3At P w h y a) : x = y := by
  obtain ⟨o, t, u, n, b, ho, _, hd, hk⟩ := p
  obtain ⟨o', t', u', n', b', ho', _, hd', hk'⟩ := q
  obtain rfl : o = o' := Option.some.inj (ho.symm.trans ho')
  rw [hd] at hd'
  injection hd' with e _
  have e2 := congrArg Array.toList e
  simp only [List.cons.injEq, Value.int.injEq, Value.ref.injEq] at e2
  obtain ⟨⟨e3, _⟩, e4, ⟨e5, _⟩, _⟩ := e2
  subst e4
  have e6 := hk.inj hk'
  obtain ⟨x1, x2, x3⟩ := x
  obtain ⟨y1, y2, y3⟩ := y
  simp only at e3 e5 e6
  rw [e3, e5, e6]
theorem K3At.stay {h h' : Heap} {k : K3} {a : Addr} (p : K3At P w h k a) (st : ∀ b o, h.get? b = some o → o.cls = .type "tuple" → h'.get? b = some o) : K3At P w h' k a := by
  obtain ⟨o, t, u, n, b, ho, hc, hd, o2, its, n2, ho2, hc2, r⟩ := p
  exact ⟨o, t, u, n, b, st _ _ ho hc, hc, hd, o2, its, n2, st _ _ ho2 hc2, hc2, r⟩
theorem K3At.keeps {h h' : Heap} {k : K3} {a d : Addr} {o : Obj} {es ep} (p : K3At P w h k a) (ho : h.get? d = some o) (hd : o.data = .dict es ep) (hs : Heap.SameBut d h h') : K3At P w h' k a := by
  obtain ⟨oa, t, u, n, b, hoa, hc, hda, hk⟩ := p
  refine ⟨oa, t, u, n, b, (hs.2 a ?_).trans hoa, hc, hda, hk.keeps ho hd hs⟩
  rintro rfl
  rw [hoa] at ho
  cases ho
  rw [hda] at hd
  cases hd
def k3Hash (P : Program) (w : World) (k : K3) : Int := reduceHash (Builtin.Tuple.tupleHashOf [hashInt k.1, tupleKeyHash (intKind P w) k.2.1, hashInt k.2.2])
variable {A : Around} {E : Value → Shared → Prop} {s : Shared}
theorem k3_hash {k : K3} {a : Addr} {Q : Int → Shared → Prop} (hu : A.units + 1 < cLine) (p : K3At P w s.heap k a) (h : Q (k3Hash P w k) { s with toks := s.toks + (k.2.1.length + 4) }) : wpAny (model P w) A (pyHash (.ref a)) Q E s := by
  obtain ⟨o, t, u, n, b, ho, hc, hd, hk⟩ := p
  have hT : s.TypeIs (.ref a) "tuple" := ⟨o, ho, hc⟩
  unfold pyHash
  first | unfold pyHashByItsType | skip
  first | refine wpAny_bind (wpAny_cRoomFor_or (.inr (Nat.lt_of_succ_lt hu)) ?_) | skip
  refine wpAny_bind (wpAny_specialOf hT F.slot_tuple_hash.lookup ?_)
  show wpAny _ _ (if (some (Value.builtin "tuple.__hash__") == some Value.none) = true then _ else _) Q E s
  rw [if_neg (by rw [beq_builtin_none]; exact Bool.false_ne_true)]
  refine wpAny_bind (wpAny_specialOf hT F.slot_tuple_hash.lookup ?_)
  show wpAny _ _ (callSpecialIfBoundUnlessNone? (.ref a) "__hash__" _ >>= _) Q E s
  refine wpAny_bind (wpAny_callSpecialIfBoundUnlessNone?_slot hT F.slot_tuple_hash (wpAny_call_entry F.slot_tuple_hash hT F.entry_tuple_hash ?_ (F.args_tuple_hash_1 _)))
  show wpAny _ _ (Builtin.Tuple.tupleItemsOf (.ref a) >>= _) _ _ s
  refine wpAny_bind (wpAny_tupleItemsOf ho hd ?_)
  refine wpAny_bind ?_
  rw [← Array.forIn_toList]
  simp only [List.forIn_cons, List.forIn_nil]
  refine wpAny_bind (wpAny_bind (wpAny_pyHash_int ?_))
  first | refine wpAny_pure ?_ | refine wpAny_bind (wpAny_pure (wpAny_pure ?_))
  refine wpAny_bind (wpAny_bind (wpAny_pyHash_tuple (knd := intKind P w) (s := { s with toks := s.toks + 1 }) hu hk ?_))
  first | refine wpAny_pure ?_ | refine wpAny_bind (wpAny_pure (wpAny_pure ?_))
  refine wpAny_bind (wpAny_bind (wpAny_pyHash_int ?_))
  first | refine wpAny_pure ?_ | refine wpAny_bind (wpAny_pure (wpAny_pure ?_))
  refine wpAny_pure ?_
  show wpAny _ _ (retInt (Builtin.Tuple.tupleHashOf [hashInt k.1, tupleKeyHash (intKind P w) k.2.1, hashInt k.2.2])) _ _ _
  refine wpAny_ret_mkInt ?_
  have et : ∀ m : Nat, s.toks + 1 + (m + 1) + 1 + 1 = s.toks + (m + 4) := fun m => by omega
  unfold k3Hash reduceHash at h
  show wpAny _ _ (if (decide (-(2 : Int) ^ 63 ≤ Builtin.Tuple.tupleHashOf [hashInt k.1, tupleKeyHash (intKind P w) k.2.1, hashInt k.2.2]) && decide (Builtin.Tuple.tupleHashOf [hashInt k.1, tupleKeyHash (intKind P w) k.2.1, hashInt k.2.2] < 2 ^ 63)) = true then _ else _) Q E _
  split at h
  · rename_i hr
    rw [if_pos hr]
    exact wpAny_pure (by rw [← et] at h; exact h)
  · rename_i hr
    rw [if_neg hr]
    exact wpAny_bind (wpAny_rule (wpAny_pure (by rw [← et] at h; exact h)))
theorem k3_dec (x y : K3) : decide (x = y) = (x.1 == y.1 && (decide (x.2.1 = y.2.1) && x.2.2 == y.2.2)) := by
  obtain ⟨x1, x2, x3⟩ := x
  obtain ⟨y1, y2, y3⟩ := y
  by_cases h1 : x1 = y1 <;> by_cases h2 : x2 = y2 <;> by_cases h3 : x3 = y3 <;> simp [h1, h2, h3]
theorem k3_tree {x y : K3} {a b : Addr} {R : PySem.Fin → Shared → Prop} (hu : A.units < cLine) (hx : K3At P w s.heap x a) (hy : K3At P w s.heap y b) (h : R (.done (.ret (.bool (decide (x = y))))) s) :
    wpAny (model P w) A (Builtin.«tuple.__eq__» ⟨[.ref a, .ref b], []⟩) R E s := by
  obtain ⟨oa, t, u, n, d, hoa, hca, hda, hka⟩ := hx
  obtain ⟨ob, t2, u2, n2, d2, hob, hcb, hdb, hkb⟩ := hy
  have hTb : s.TypeIs (.ref b) "tuple" := ⟨ob, hob, hcb⟩
  rw [k3_dec] at h
  show wpAny _ _ (isInstance (.ref b) (.type "tuple") >>= _) _ _ s
  refine wpAny_bind (wpAny_isInstance hTb isSubtype_tuple_tuple ?_)
  simp only [Bool.not_true, Bool.false_eq_true, if_false]
  refine wpAny_bind (wpAny_tupleItemsOf hoa hda ?_)
  refine wpAny_bind (wpAny_tupleItemsOf hob hdb ?_)
  refine wpAny_bind ?_
  simp only [List.zip_cons_cons, List.zip_nil_right, List.forIn_cons, List.forIn_nil]
  refine wpAny_bind (wpAny_bind (wpAny_eqBool_int ?_))
  by_cases c1 : x.1 = y.1
  · rw [c1, beq_self_eq_true, Bool.true_and] at h
    simp only [c1, beq_self_eq_true, Bool.not_true, Bool.false_eq_true, if_false]
    refine wpAny_pure (wpAny_bind (wpAny_bind (wpAny_eqBool_tuple (knd := intKind P w) hu hka hkb ?_)))
    by_cases c2 : x.2.1 = y.2.1
    · rw [decide_eq_true c2, Bool.true_and] at h
      rw [decide_eq_true c2]
      simp only [Bool.not_true, Bool.false_eq_true, if_false]
      refine wpAny_pure (wpAny_bind (wpAny_bind (wpAny_eqBool_int ?_)))
      by_cases c3 : x.2.2 = y.2.2
      · rw [c3, beq_self_eq_true] at h
        simp only [c3, beq_self_eq_true, Bool.not_true, Bool.false_eq_true, if_false]
        exact wpAny_pure (wpAny_pure (wpAny_pure h))
      · have e3 : (x.2.2 == y.2.2) = false := beq_eq_false_iff_ne.mpr c3
        rw [e3] at h
        simp only [e3, Bool.not_false, if_true]
        exact wpAny_bind (wpAny_pure (wpAny_pure (wpAny_pure (wpAny_pure h))))
    · rw [decide_eq_false c2, Bool.false_and] at h
      rw [decide_eq_false c2]
      simp only [Bool.not_false, if_true]
      exact wpAny_bind (wpAny_pure (wpAny_pure (wpAny_pure (wpAny_pure h))))
  · have e1 : (x.1 == y.1) = false := beq_eq_false_iff_ne.mpr c1
    rw [e1, Bool.false_and] at h
    simp only [e1, Bool.not_false, if_true]
    exact wpAny_bind (wpAny_pure (wpAny_pure (wpAny_pure (wpAny_pure h))))
theorem k3_eq {x y : K3} {a b : Addr} {Q : Bool → Shared → Prop} (hu : A.units + 1 < cLine) (hx : K3At P w s.heap x a) (hy : K3At P w s.heap y b) (h : Q (decide (x = y)) s) : wpAny (model P w) A (eqBool (.ref a) (.ref b)) Q E s := by
  unfold eqBool
  try with_reducible refine wpAny_holding ?_
  show wpAny _ _ (if (Value.ref a == Value.ref b) = true then _ else _) Q E s
  by_cases hab : a = b
  · subst hab
    rw [if_pos (beq_self_eq_true _)]
    obtain rfl := hx.inj hy
    exact wpAny_bind (wpAny_rule (wpAny_pure (by simpa using h)))
  · rw [if_neg (by simpa using hab)]
    have hTa : s.TypeIs (.ref a) "tuple" := by
      obtain ⟨o, _, _, _, _, ho, hc, _⟩ := hx
      exact ⟨o, ho, hc⟩
    have hTb : s.TypeIs (.ref b) "tuple" := by
      obtain ⟨o, _, _, _, _, ho, hc, _⟩ := hy
      exact ⟨o, ho, hc⟩
    exact wpAny_bind (wpAny_richCompare_same_room (op := .Eq) hTa hTb F.slot_tuple_eq
      (wpAny_call_entry F.slot_tuple_eq hTa F.entry_tuple_eq (k3_tree (by exact hu) hx hy ⟨_, rfl, (fun e => nomatch e), wpAny_truthy_bool h⟩) (F.args_tuple_eq_2 _ _)) (Nat.lt_of_succ_lt hu))
theorem quiet_ints {ks : List Int} {a : Addr} {Q : Bool → Shared → Prop} (m : Nat) (hk : IsTupleKey (intKind P w) s.heap ks a) (h : Q true s) : wpAny (model P w) A (eqIsQuiet (m + 1) (.ref a)) Q E s := by
  have hT := hk.typeIs
  obtain ⟨o, items, n, ho, _, hd, hi⟩ := hk
  unfold eqIsQuiet
  refine wpAny_bind (wpAny_specialOf hT F.slot_tuple_eq.lookup ?_)
  show wpAny _ _ (isInstance (.ref a) (.type "tuple") >>= _) _ _ s
  refine wpAny_bind (wpAny_isInstance hT isSubtype_tuple_tuple ?_)
  simp only [Bool.not_true, Bool.false_eq_true, if_false]
  refine wpAny_bind (wpAny_seqItems ho hd (wpAny_bind ?_))
  show wpAny _ _ (forIn items _ _) _ _ s
  rw [← Array.forIn_toList]
  refine wpAny_forIn_list _ (fun left r s' => r.1 = none ∧ s' = s ∧ ∀ v ∈ left, carriedByValue v = true) _ (fun v left r s' z => ?_) (fun r s' z => ?_) _ _ ⟨rfl, rfl, hi.byValue⟩
  · obtain ⟨_, rfl, all⟩ := z
    rw [eqIsQuiet_byValue _ (all v List.mem_cons_self)]
    refine wpAny_bind (wpAny_pure ?_)
    simp only [Bool.not_true, Bool.false_eq_true, if_false]
    exact wpAny_pure ⟨rfl, rfl, fun u hu => all u (List.mem_cons_of_mem _ hu)⟩
  · obtain ⟨r1, r2⟩ := r
    obtain ⟨e, rfl, _⟩ := z
    obtain rfl : r1 = none := e
    exact wpAny_pure h
theorem k3_quiet {k : K3} {a : Addr} {Q : Bool → Shared → Prop} (p : K3At P w s.heap k a) (h : Q true s) : wpAny (model P w) A (eqIsQuiet 8 (.ref a)) Q E s := by
  obtain ⟨o, t, u, n, b, ho, hc, hd, hk⟩ := p
  have hT : s.TypeIs (.ref a) "tuple" := ⟨o, ho, hc⟩
  unfold eqIsQuiet
  refine wpAny_bind (wpAny_specialOf hT F.slot_tuple_eq.lookup ?_)
  show wpAny _ _ (isInstance (.ref a) (.type "tuple") >>= _) _ _ s
  refine wpAny_bind (wpAny_isInstance hT isSubtype_tuple_tuple ?_)
  simp only [Bool.not_true, Bool.false_eq_true, if_false]
  refine wpAny_bind (wpAny_seqItems ho hd (wpAny_bind ?_))
  show wpAny _ _ (forIn (#[Value.int k.1 t, .ref b, .int k.2.2 u] : Array Value) _ _) _ _ s
  rw [← Array.forIn_toList]
  simp only [List.forIn_cons, List.forIn_nil]
  rw [eqIsQuiet_byValue _ (v := .int k.1 t) rfl, eqIsQuiet_byValue _ (v := .int k.2.2 u) rfl]
  refine wpAny_bind (wpAny_bind (wpAny_pure ?_))
  simp only [Bool.not_true, Bool.false_eq_true, if_false]
  refine wpAny_pure (wpAny_bind (wpAny_bind (quiet_ints 6 hk ?_)))
  simp only [Bool.not_true, Bool.false_eq_true, if_false]
  refine wpAny_pure (wpAny_bind (wpAny_bind (wpAny_pure ?_)))
  simp only [Bool.not_true, Bool.false_eq_true, if_false]
  exact wpAny_pure (wpAny_pure (wpAny_pure h))
end
def k3Kind (P : Program) (w : World) : HeapKind P w K3 where
  is := K3At P w
  hash := k3Hash P w
  draws := fun k => k.2.1.length + 4
  room := fun A => A.units + 1 < cLine
  inj := fun p q => p.inj q
  keeps := fun p ho hd hs => p.keeps ho hd hs
  pyHash := fun hu p h => k3_hash hu p h
  eqBool := fun hu p q h => k3_eq hu p q h
  quiet := fun p h => k3_quiet p h
/-! ### the dict of what may be behind: its entries, in order: the key, the key's tuple, the value -/
/-- a dict object of these entries -/
def KnownR (P : Program) (w : World) (h : Heap) (d : Addr) (xs : List (K3 × Addr × Int)) : Prop :=
  ∃ (o : Obj) (es : Array DictEntry) (ep : Nat) (vs : List (K3 × Addr × Value)), h.get? d = some o ∧ o.ExactDict ∧ o.data = .dict es ep ∧ es.toList = vs.map (entryOfKey (k3Kind P w)) ∧
    Paired (fun (x : K3 × Addr × Int) (y : K3 × Addr × Value) => x.1 = y.1 ∧ x.2.1 = y.2.1 ∧ ∃ t, y.2.2 = .int x.2.2 t) xs vs ∧ (xs.map (·.1)).Nodup ∧ xs.length ≤ 100000 ∧ (d == sysModules) = false
def KnownO (P : Program) (w : World) (d : Addr) (xs : List (K3 × Addr × Int)) : HO := .ext fun h => KnownR P w h d xs
/-- an entry's key is there as data -/
def K3In (H : Hp) (k : K3) (a : Addr) : Prop := ∃ b, H a = some (.tup [.int k.1, .ref b, .int k.2.2]) ∧ H b = some (.tup (tI k.2.1))
section
variable {X : Cx} {pins : List (Addr × Obj)} {σ : L2.St} {H : Hp} {s : Shared}
theorem K3In.raw (I : Inv X pins σ H s) {k : K3} {a : Addr} (p : K3In H k a) : K3At X.prog X.w s.heap k a := by
  obtain ⟨b, ha, hb⟩ := p
  obtain ⟨its, rv, ⟨o, ho, hc, n, hd⟩, _⟩ := I.tuple (.inl (.inl ha) : SqT X.K H a _)
  have hkb := I.isT (.inl (.inl hb) : SqT X.K H b (k.2.1.map V.int))
  match its, rv with
  | [_, _, _], .cons r1 (.cons r2 (.cons r3 .nil)) =>
    obtain ⟨t, rfl⟩ := r1
    cases r2
    obtain ⟨u, rfl⟩ := r3
    exact ⟨o, t, u, n, b, ho, hc, hd, hkb⟩
theorem known_at (I : Inv X pins σ H s) {d : Addr} {xs : List (K3 × Addr × Int)} (hd : H d = some (KnownO X.prog X.w d xs)) (hk : ∀ x ∈ xs, K3In H x.1 x.2.1) :
    ∃ vs : List (K3 × Addr × Value), s.heap.DictOfH (k3Kind X.prog X.w) d vs ∧ Paired (fun (x : K3 × Addr × Int) (y : K3 × Addr × Value) => x.1 = y.1 ∧ x.2.1 = y.2.1 ∧ ∃ t, y.2.2 = .int x.2.2 t) xs vs ∧ (xs.map (·.1)).Nodup ∧ xs.length ≤ 100000 ∧ (d == sysModules) = false := by
  obtain ⟨o, es, ep, vs, ho, hx, hdd, he, pr, nd, hl, hs⟩ : KnownR X.prog X.w s.heap d xs := (I.hok d _ hd).1
  refine ⟨vs, ⟨o, es, ep, ho, hx, hdd, he, fun y hy => ?_, ?_⟩, pr, nd, hl, hs⟩
  · obtain ⟨i, hi⟩ := List.mem_iff_getElem?.mp hy
    have pf : ∀ {l : List (K3 × Addr × Int)} {m : List (K3 × Addr × Value)}, Paired (fun (x : K3 × Addr × Int) (y : K3 × Addr × Value) => x.1 = y.1 ∧ x.2.1 = y.2.1 ∧ ∃ t, y.2.2 = .int x.2.2 t) l m → ∀ y ∈ m, ∃ x ∈ l, x.1 = y.1 ∧ x.2.1 = y.2.1 := by
      intro l m q
      induction q with
      | nil => intro y hy; cases hy
      | cons r _ ih =>
        intro y hy
        rcases List.mem_cons.mp hy with e | hy
        · subst e
          exact ⟨_, List.mem_cons_self, r.1, r.2.1⟩
        · obtain ⟨x, hx, e⟩ := ih y hy
          exact ⟨x, List.mem_cons_of_mem _ hx, e⟩
    obtain ⟨x, hx2, e1, e2⟩ := pf pr y hy
    have z := (hk x hx2).raw I
    rw [e1, e2] at z
    exact z
  · have pk : ∀ {l : List (K3 × Addr × Int)} {m : List (K3 × Addr × Value)}, Paired (fun (x : K3 × Addr × Int) (y : K3 × Addr × Value) => x.1 = y.1 ∧ x.2.1 = y.2.1 ∧ ∃ t, y.2.2 = .int x.2.2 t) l m → l.map (·.1) = m.map (·.1) := by
      intro l m q
      induction q with
      | nil => rfl
      | cons r _ ih => rw [List.map_cons, List.map_cons, ih, r.1]
    rw [← pk pr]
    exact nd
/-- what is told at a key -/
def lookK (xs : List (K3 × Addr × Int)) (k : K3) : Option Int := (xs.find? fun x => decide (x.1 = k)).map (·.2.2)
theorem lookK_at : ∀ {xs : List (K3 × Addr × Int)} {vs : List (K3 × Addr × Value)}, Paired (fun (x : K3 × Addr × Int) (y : K3 × Addr × Value) => x.1 = y.1 ∧ x.2.1 = y.2.1 ∧ ∃ t, y.2.2 = .int x.2.2 t) xs vs → ∀ k,
    (lookK xs k = none ∧ atKey vs k = none) ∨ ∃ z p t, lookK xs k = some z ∧ atKey vs k = some (p, .int z t)
  | _, _, .nil, k => .inl ⟨rfl, rfl⟩
  | x :: xs, y :: vs, .cons r t, k => by
    obtain ⟨e1, e2, tk, e3⟩ := r
    by_cases c : x.1 = k
    · refine .inr ⟨x.2.2, y.2.1, tk, ?_, ?_⟩
      · unfold lookK
        rw [List.find?_cons_of_pos (by simpa using c)]
        rfl
      · unfold atKey
        rw [List.find?_cons_of_pos (by rw [← e1]; simpa using c)]
        show some y.2 = _
        rw [← e3]
    · rcases lookK_at t k with ⟨h1, h2⟩ | ⟨z, p, tk2, h1, h2⟩
      · refine .inl ⟨?_, ?_⟩
        · unfold lookK at h1 ⊢
          rw [List.find?_cons_of_neg (by simpa using c)]
          exact h1
        · unfold atKey at h2 ⊢
          rw [List.find?_cons_of_neg (by rw [← e1]; simpa using c)]
          exact h2
      · refine .inr ⟨z, p, tk2, ?_, ?_⟩
        · unfold lookK at h1 ⊢
          rw [List.find?_cons_of_neg (by simpa using c)]
          exact h1
        · unfold atKey at h2 ⊢
          rw [List.find?_cons_of_neg (by rw [← e1]; simpa using c)]
          exact h2
end
/-- key not in known -/
def rNotInK (P : Program) (w : World) : R2 := fun x y H Q => ∃ a d xs k, x = .ref a ∧ y = .ref d ∧ H d = some (KnownO P w d xs) ∧ (∀ x ∈ xs, K3In H x.1 x.2.1) ∧ K3In H k a ∧ Q (.bl (!(lookK xs k).isSome)) H
/-- known[key], there -/
def tKnownGet (P : Program) (w : World) (td ty : TE) : TE := fun σ H Q => td σ H fun x H1 => ty σ H1 fun y H2 => ∃ a d xs k z, x = .ref d ∧ y = .ref a ∧ H2 d = some (KnownO P w d xs) ∧ (∀ x ∈ xs, K3In H2 x.1 x.2.1) ∧ K3In H2 k a ∧ lookK xs k = some z ∧ Q (.int z) H2
/-- known[key] = value, not there -/
def sKnownPut (P : Program) (w : World) (td ty tv : TE) : TS := fun D σ H => tv σ H fun v H1 => td σ H1 fun x H2 => ty σ H2 fun y H3 => ∃ a d xs k z, x = .ref d ∧ y = .ref a ∧ v = .int z ∧ H3 d = some (KnownO P w d xs) ∧ (∀ x ∈ xs, K3In H3 x.1 x.2.1) ∧ K3In H3 k a ∧ lookK xs k = none ∧ xs.length < 100000 ∧
  D.nx σ (upd H3 d (KnownO P w d (xs ++ [(k, a, z)])))
def tKnownNew (P : Program) (w : World) : TE := fun _ H Q => ∀ p, H p = none → Q (.ref p) (upd H p (KnownO P w p []))
section
variable {X : Cx} {o i value : Expr} {td ty tv : TE} {pos pos' : Pos} {k : Nat}
theorem knownO_ok {P : Program} {w : World} {H : Hp} {h : Heap} {d : Addr} {xs : List (K3 × Addr × Int)} (R : KnownR P w h d xs) : ObjOk P w H h d (KnownO P w d xs) := by
  refine ⟨R, ?_, fun h1 h2 p st => ?_⟩
  · obtain ⟨o, _, _, _, ho, _⟩ := R
    exact ⟨o, ho⟩
  · obtain ⟨o, es, ep, vs, ho, r⟩ := p
    exact ⟨o, es, ep, vs, st o ho, r⟩
theorem op_notInK (hr : Room k X.A) : OpR X (compareOp .NotIn) (rNotInK X.prog X.w) := by
  intro pins s σ H x y v u Q I rx ry h
  obtain ⟨a, d, xs, kk, rfl, rfl, hd, hk, hka, q⟩ := h
  cases rx
  cases ry
  obtain ⟨vs, hm, pr, nd, hl, hs⟩ := known_at I hd hk
  refine wpAny_notIn_heap (knd := k3Kind X.prog X.w) (show X.A.units + 1 + 1 < cLine by have := hr.units; omega) (hka.raw I) hs hm ?_
  rcases lookK_at pr kk with ⟨h1, h2⟩ | ⟨z, p, t, h1, h2⟩
  · rw [h2]
    rw [h1] at q
    exact ⟨.bl true, H, I.tok _, rfl, q⟩
  · rw [h2]
    rw [h1] at q
    exact ⟨.bl false, H, I.tok _, rfl, q⟩
theorem pe_knownGet (hr : Room k X.A) (ho : PE X o td) (hi : PE X i ty) (hs : NoSl i) : PE X (.Subscript o i pos) (tKnownGet X.prog X.w td ty) := by
  refine ⟨fun pins s σ H Q I h => ?_⟩
  refine subD_of PySem.F.slot_dict_getitem.lookup hs (thn (ho.run pins s σ H _ I h) fun u s1 ⟨x, H1, I1, rx, q1⟩ => thn (hi.run pins s1 σ H1 _ I1 q1) fun iv s2 ⟨y, H2, I2, ry, a, d, xs, kk, z, ex, ey, hd, hk, hka, hz, q⟩ => ?_)
  subst ex ey
  cases rx
  cases ry
  obtain ⟨vs, hm, pr, nd, hl, hsm⟩ := known_at I2 hd hk
  refine ⟨hm.typeIs, ?_⟩
  rcases lookK_at pr kk with ⟨h1, h2⟩ | ⟨z', p, t, h1, h2⟩
  · rw [hz] at h1
    cases h1
  · rw [hz] at h1
    cases h1
    exact wpAny_getItem_heap (knd := k3Kind X.prog X.w) (show X.A.units + 1 + 1 < cLine by have := hr.units; omega) (hka.raw I2) hm h2 ⟨.int z, H2, I2.tok _, ⟨t, rfl⟩, q⟩
theorem ps_knownPut (hr : Room k X.A) (ho : PE X o td) (hi : PE X i ty) (hv : PE X value tv) (hs : swapsWith value (some (.Subscript o i pos')) pos.line X.env = pure false := by rfl) :
    PS X (.Assign [.Subscript o i pos'] value pos) (sKnownPut X.prog X.w td ty tv) := by
  refine ⟨fun pins s σ H D I h => ?_⟩
  refine wpAny_Assign_Subscript (thn (hv.run pins s σ H _ I h) fun r s1 ⟨v, H1, I1, rv, q1⟩ => thn (ho.run pins s1 σ H1 _ I1 q1) fun u s2 ⟨x, H2, I2, rx, q2⟩ => thn (hi.run pins s2 σ H2 _ I2 q2) fun iv s3 ⟨y, H3, I3, ry, a, d, xs, kk, z, ex, ey, ev, hd, hk, hka, hz, hlen, q⟩ => ?_) hs
  subst ex ey ev
  cases rx
  cases ry
  obtain ⟨t, rfl⟩ := rv
  obtain ⟨vs, hm, pr, nd, hl, hsm⟩ := known_at I3 hd hk
  have hlv : xs.length = vs.length := Paired.length pr
  rcases lookK_at pr kk with ⟨h1, h2⟩ | ⟨z', p, t', h1, h2⟩
  · refine wpAny_setItem_heap (knd := k3Kind X.prog X.w) (show X.A.units + 1 + 1 < cLine by have := hr.units; omega) (hka.raw I3) hm (fun h' hm' hsb => ?_) (by rw [sizeLine_eq]; omega)
    rw [storedH_new h2] at hm'
    obtain ⟨ob, es, ep, g1, g2, g3, g4, _, g6⟩ := hm'
    have ap : ∀ {l : List (K3 × Addr × Int)} {m : List (K3 × Addr × Value)}, Paired (fun (x : K3 × Addr × Int) (y : K3 × Addr × Value) => x.1 = y.1 ∧ x.2.1 = y.2.1 ∧ ∃ t, y.2.2 = .int x.2.2 t) l m →
        Paired (fun (x : K3 × Addr × Int) (y : K3 × Addr × Value) => x.1 = y.1 ∧ x.2.1 = y.2.1 ∧ ∃ t, y.2.2 = .int x.2.2 t) (l ++ [(kk, a, z)]) (m ++ [(kk, a, .int z t)]) := by
      intro l m pr
      induction pr with
      | nil => exact .cons ⟨rfl, rfl, t, rfl⟩ .nil
      | cons r _ ih => exact .cons r ih
    have keys : ∀ {l : List (K3 × Addr × Int)} {m : List (K3 × Addr × Value)}, Paired (fun (x : K3 × Addr × Int) (y : K3 × Addr × Value) => x.1 = y.1 ∧ x.2.1 = y.2.1 ∧ ∃ t, y.2.2 = .int x.2.2 t) l m → l.map (·.1) = m.map (·.1) := by
      intro l m q
      induction q with
      | nil => rfl
      | cons r _ ih => rw [List.map_cons, List.map_cons, ih, r.1]
    have R : KnownR X.prog X.w h' d (xs ++ [(kk, a, z)]) := ⟨ob, es, ep, _, g1, g2, g3, g4, ap pr, by rw [keys (ap pr)]; exact g6, by rw [List.length_append, List.length_singleton]; omega, hsm⟩
    have mu : Mut (H3 d) := by rw [hd]; exact True.intro
    exact ⟨σ, _, d_write (t' := s3.toks + (k3Kind X.prog X.w).draws kk) I3 mu hsb ⟨ob, g1⟩ (knownO_ok R), q⟩
  · rw [hz] at h1
    cases h1
theorem pe_knownNew : PE X (.Dict [] [] pos) (tKnownNew X.prog X.w) := ⟨fun pins s σ H Q I h =>
  wpAny_Dict_empty ⟨.ref s.heap.objs.size, _, I.laid (a := s.heap.objs.size) (o := KnownO X.prog X.w s.heap.objs.size []) (t' := s.toks) (fun _ _ q => Heap.get?_push_of_some _ q) (Nat.le_refl _)
    (knownO_ok ⟨_, #[], 0, [], Heap.get?_push_size _ rfl, ⟨rfl, rfl, rfl⟩, rfl, rfl, .nil, List.nodup_nil, Nat.zero_le _, beq_eq_false_iff_ne.mpr (Ne.symm (Nat.ne_of_lt I.big))⟩), rfl, h _ (I.hok.fresh (Nat.le_refl _))⟩⟩
end
end Rf
/-! ## RfR6 -/
namespace Rf
open PySem PySem.Spec PyProof.Rows L2
/-! ### zip of lists and tuples, mixed; the first is a list, none is longer than it is -/
/-- what is walked: a list (false) or a tuple (true) at src, by the iterator at it -/
structure Src where
  src : Nat
  tup : Bool
def Src.Here (x : Src) (vs : Array Value) (h : Heap) : Prop := if x.tup then h.IsTuple x.src vs else h.IsList x.src vs
def Src.At (x : Src) (it k : Nat) (h : Heap) : Prop := if x.tup then h.IsTupleIter it x.src k else h.IsListIter it x.src k
theorem Src.Here.keep {x : Src} {vs : Array Value} {h h' : Heap} (p : x.Here vs h) (k : ∀ o, h.get? x.src = some o → h'.get? x.src = some o) : x.Here vs h' := by
  unfold Src.Here at p ⊢
  split at p
  · rename_i c
    rw [if_pos c]
    exact p.at fun o e => k o e
  · rename_i c
    rw [if_neg c]
    exact p.at fun o e => k o e
theorem Src.At.keep {x : Src} {it n : Nat} {h h' : Heap} (p : x.At it n h) (k1 : ∀ o, h.get? it = some o → h'.get? it = some o) : x.At it n h' := by
  unfold Src.At at p ⊢
  split at p
  · rename_i c
    rw [if_pos c]
    exact p.at fun o e => k1 o e
  · rename_i c
    rw [if_neg c]
    exact p.at fun o e => k1 o e
theorem Src.At.iter {x : Src} {it n : Nat} {h : Heap} (p : x.At it n h) : ∃ o, h.get? it = some o ∧ ∀ v, o.data ≠ .cell v := by
  unfold Src.At at p
  split at p
  · obtain ⟨o, e, _, d⟩ := p
    exact ⟨o, e, fun v z => by rw [d] at z; cases z⟩
  · obtain ⟨o, e, _, d⟩ := p
    exact ⟨o, e, fun v z => by rw [d] at z; cases z⟩
theorem ne_nat {a b : Nat} (h : a ≠ b) : @Ne Addr a b := h
section
variable {P : Program} {w : World} {A : Around} {E : Value → Shared → Prop} {s : Shared}
theorem Src.next {x : Src} {vs : Array Value} {it k : Nat} {v : Value} {Q : Value → Shared → Prop} (p : x.At it k s.heap) (q : x.Here vs s.heap) (hv : vs[k]? = some v)
    (h : ∀ h', x.At it (k + 1) h' → Heap.SameBut it s.heap h' → Q v { s with heap := h' }) : wpAny (model P w) A (Builtin.SmallTypes.nextOf (.ref it)) Q E s := by
  unfold Src.At at p h
  unfold Src.Here at q
  by_cases c : x.tup = true
  · rw [if_pos c] at p q
    exact RZ.nextOf_tuple_item p q hv fun h' a b => h h' (by rw [if_pos c]; exact a) b
  · rw [if_neg c] at p q
    exact wpAny_nextOf_list_item p q hv fun h' a b => h h' (by rw [if_neg c]; exact a) b
/-- the zip object and what it holds: iterators at N .., their tuple at N + m, the tuple that is handed out again at N + m + 1, the object at N + m + 2 -/
structure ZipSt (N : Nat) (xs : List Src) (k : Nat) (f0 : Value) (h : Heap) : Prop where
  obj : h.get? (N + xs.length + 2) = some { cls := .type "zip", dict := none, data := .fields #[f0, .bool false, .bool false, .ref (N + xs.length), .ref (N + xs.length + 1)], slots := #[] }
  its : h.get? (N + xs.length) = some { cls := .type "tuple", data := .seq ((List.range xs.length).map fun j => Value.ref (N + j)).toArray }
  own : ∃ vals : Array Value, vals.size = xs.length ∧ h.get? (N + xs.length + 1) = some { cls := .type "tuple", data := .seq vals }
  at_ : ∀ (j : Nat) (x : Src), xs[j]? = some x → x.At (N + j) k h
theorem upd_seq {T : Nat} {vals : Array Value} {j : Nat} {v : Value} {Q : Unit → Shared → Prop} (hz : vals.size ≤ 1000) (hT : s.heap.get? T = some { cls := .type "tuple", data := .seq vals })
    (h : ∀ h', h'.get? T = some { cls := .type "tuple", data := .seq (vals.setIfInBounds j v) } → Heap.SameBut T s.heap h' → Q () { s with heap := h' }) : wpAny (model P w) A (updateSeq T (·.setIfInBounds j v)) Q E s := by
  have z1 : vals.size ≤ sizeLine := by rw [sizeLine_eq]; omega
  have z2 : (vals.setIfInBounds j v).size ≤ sizeLine + 1 := by rw [Array.size_setIfInBounds, sizeLine_eq]; omega
  refine wpAny_updateSeq hT rfl (h _ ?_ (Heap.SameBut.update ..)) z1 z2
  rw [Heap.get?_update_self _ hT rfl]
  simp [Obj.mapSeq]
theorem zip_step {N : Nat} {xs : List Src} {k : Nat} {vsl : List Value} {Q : Value → Shared → Prop} (hne : xs ≠ []) (Z : ZipSt N xs k .none s.heap) (hlow : ∀ x ∈ xs, x.src < N) (hv : Paired (fun (x : Src) v => ∃ vs, x.Here vs s.heap ∧ vs[k]? = some v) xs vsl)
    (hQ : ∀ h', ZipSt N xs (k + 1) (rawInt s.heap.objs.size) h' → h'.get? s.heap.objs.size = some { cls := .type "tuple", data := .seq vsl.toArray } → h'.objs.size = s.heap.objs.size + 1 →
      (∀ c o, (c < N ∨ N + xs.length + 2 < c ∨ c = N + xs.length) → s.heap.get? c = some o → h'.get? c = some o) → Q (.ref s.heap.objs.size) { s with heap := h' }) (hz : xs.length ≤ 1000) :
    wpAny (model P w) A (Builtin.«zip.__next__» ⟨[.ref (N + xs.length + 2)], []⟩) (fun fin s' => ∃ v, fin = .done (.ret v) ∧ Q v s') E s := by
  have hlv : xs.length = vsl.length := Paired.length hv
  have hzl : N + xs.length + 2 < s.heap.objs.size := Heap.lt_size Z.obj
  obtain ⟨vals, hvs, hT⟩ := Z.own
  show wpAny _ _ (field (.ref (N + xs.length + 2)) 2 >>= _) _ _ _
  refine wpAny_bind (wpAny_field Z.obj rfl (x := .bool false) rfl ?_)
  show wpAny _ _ (field (.ref (N + xs.length + 2)) 3 >>= _) _ _ _
  refine wpAny_bind (wpAny_field Z.obj rfl (x := .ref (N + xs.length)) rfl ?_)
  refine wpAny_bind (wpAny_seqItems Z.its rfl ?_)
  have e0 : ((List.range xs.length).map fun j => Value.ref (N + j)).toArray.isEmpty = false := by
    cases xs with
    | nil => exact absurd rfl hne
    | cons x r =>
      rw [List.isEmpty_toArray, List.length_cons, List.range_succ_eq_map]
      rfl
  simp only [e0, Bool.false_eq_true, if_false]
  show wpAny _ _ (Builtin.SmallTypes.ownedTupleIsFree (.ref (N + xs.length + 2)) >>= _) _ _ _
  refine wpAny_bind ?_
  unfold Builtin.SmallTypes.ownedTupleIsFree
  refine wpAny_bind (wpAny_field Z.obj rfl (x := .none) rfl (wpAny_pure ?_))
  simp only [if_true]
  refine wpAny_bind (wpAny_rule ?_)
  refine wpAny_bind (wpAny_field Z.obj rfl (x := .ref (N + xs.length + 1)) rfl ?_)
  refine wpAny_bind (wpAny_setField_rec Z.obj (by simp) fun h₁ hz₁ hs₁ => ?_)
  refine wpAny_bind ?_
  -- the items, one behind another
  refine wpAny_forIn_list _ (fun left r s' => r.1 = none ∧ ∃ (j : Nat) (vs' : Array Value), left = (((List.range xs.length).map fun j => Value.ref (N + j)).zipIdx).drop j ∧ j ≤ xs.length ∧ s' = { s with heap := s'.heap } ∧ s'.heap.objs.size = s.heap.objs.size ∧
      s'.heap.get? (N + xs.length + 2) = some { cls := .type "zip", dict := none, data := .fields #[.ellipsis, .bool false, .bool false, .ref (N + xs.length), .ref (N + xs.length + 1)], slots := #[] } ∧
      vs'.size = xs.length ∧ vs'.toList.take j = vsl.take j ∧ s'.heap.get? (N + xs.length + 1) = some { cls := .type "tuple", data := .seq vs' } ∧
      (∀ (i : Nat) (x : Src), xs[i]? = some x → x.At (N + i) (if i < j then k + 1 else k) s'.heap) ∧ (∀ (c : Nat) (o : Obj), (c < N ∨ N + xs.length + 2 < c ∨ c = N + xs.length) → s.heap.get? c = some o → s'.heap.get? c = some o)) _ ?turn ?fin _ _ ?start
  case start =>
    refine ⟨rfl, 0, vals, ?_, Nat.zero_le _, rfl, hs₁.1, hz₁, hvs, rfl, ?_, fun i x hx => ?_, fun c o hc e => ?_⟩
    · simp
    · exact (hs₁.2 _ (ne_nat (by omega))).trans hT
    · have := Z.at_ i x hx
      have hi : i < xs.length := (List.getElem?_eq_some_iff.mp hx).1
      have hsrc := hlow x (List.mem_of_getElem? hx)
      rw [if_neg (Nat.not_lt_zero _)]
      exact this.keep (fun o e => (hs₁.2 _ (ne_nat (by omega))).trans e)
    · exact (hs₁.2 c (ne_nat (by omega))).trans e
  case turn =>
    rintro ⟨itv, j⟩ left r s' ⟨hr, j0, vs', hl, hj, hs', hsz, hzo, hvz, htk, hTO, hat, hk⟩
    have hlt : j0 < xs.length := by
      rcases Nat.lt_or_ge j0 xs.length with c | c
      · exact c
      · rw [List.drop_eq_nil_of_le (by rw [List.length_zipIdx, List.length_map, List.length_range]; exact c)] at hl
        cases hl
    have hdrop := List.drop_eq_getElem_cons (l := ((List.range xs.length).map fun j => Value.ref (N + j)).zipIdx) (i := j0) (by rw [List.length_zipIdx, List.length_map, List.length_range]; exact hlt)
    rw [hdrop] at hl
    injection hl with hl1 hl2
    simp only [List.getElem_zipIdx, List.getElem_map, List.getElem_range, Prod.mk.injEq, Nat.zero_add] at hl1
    obtain ⟨ei, ej⟩ := hl1
    subst ei
    subst ej
    have hx : xs[j]? = some xs[j] := List.getElem?_eq_getElem hlt
    have hxa := hat j xs[j] hx
    rw [if_neg (Nat.lt_irrefl _)] at hxa
    obtain ⟨v, hv1, wvs, hv2, hv3⟩ := Paired.at hv j xs[j] hx
    have hsrc : xs[j].src < N := hlow _ (List.getElem_mem hlt)
    obtain ⟨hp', g', d', t', os'⟩ := s'
    have hs2 : (⟨hp', g', d', t', os'⟩ : Shared) = { s with heap := hp' } := hs'
    injection hs2 with _ e1 e2 e3 e4
    subst e1 e2 e3 e4
    simp only at hsz hzo hTO hat hk hxa
    refine wpAny_bind (wpAny_onRaise ?_)
    show wpAny _ _ (Builtin.SmallTypes.nextOf (.ref (N + j)) >>= _) _ _ _
    refine wpAny_bind (Src.next (x := xs[j]) (vs := wvs) (it := N + j) (k := k) hxa (hv2.keep fun o e => hk _ o (.inl hsrc) e) hv3 fun h₂ a₂ b₂ => wpAny_pure ?_)
    have hT₂ : h₂.get? (N + xs.length + 1) = some { cls := .type "tuple", data := .seq vs' } := (b₂.2 _ (ne_nat (by omega))).trans hTO
    refine wpAny_bind (wpAny_seqItems hT₂ rfl ?_)
    refine wpAny_bind (upd_seq (by rw [hvz]; exact hz) hT₂ fun h₃ hT₃ b₃ => ?_)
    refine wpAny_bind (wpAny_letGo (wpAny_pure ?_))
    have same : ∀ c, c ≠ N + j → c ≠ N + xs.length + 1 → h₃.get? c = hp'.get? c := fun c c1 c2 => (b₃.2 c c2).trans (b₂.2 c c1)
    refine ⟨rfl, j + 1, vs'.setIfInBounds j v, hl2, hlt, rfl, by rw [← hsz]; exact b₃.1.trans b₂.1, (same _ (ne_nat (by omega)) (ne_nat (by omega))).trans hzo, by rw [Array.size_setIfInBounds]; exact hvz, ?_, hT₃, fun i x hi => ?_, fun c o hc e => (same c (ne_nat (by omega)) (ne_nat (by omega))).trans (hk c o hc e)⟩
    · rw [Array.toList_setIfInBounds, List.take_succ, List.take_succ, List.take_set_of_le (Nat.le_refl _), htk, hv1, List.getElem?_set_self (by rw [Array.length_toList, hvz]; exact hlt)]
    · have hil : i < xs.length := (List.getElem?_eq_some_iff.mp hi).1
      have hsi := hlow x (List.mem_of_getElem? hi)
      by_cases c : i = j
      · subst c
        rw [hx] at hi
        cases hi
        rw [if_pos (Nat.lt_succ_self _)]
        exact a₂.keep (fun o e => (b₃.2 _ (ne_nat (by omega))).trans e)
      · have q := hat i x hi
        have e : (if i < j + 1 then k + 1 else k) = if i < j then k + 1 else k := by
          by_cases c2 : i < j
          · rw [if_pos c2, if_pos (by omega)]
          · rw [if_neg c2, if_neg (by omega)]
        rw [e]
        exact q.keep (fun o e => (same _ (ne_nat (by omega)) (ne_nat (by omega))).trans e)
  case fin =>
    rintro ⟨r1, r2⟩ s' ⟨hr, j, vs', hl, hj, hs', hsz, hzo, hvz, htk, hTO, hat, hk⟩
    obtain rfl : r1 = none := hr
    have hjm : j = xs.length := by
      have e := congrArg List.length hl
      rw [List.length_drop, List.length_zipIdx, List.length_map, List.length_range, List.length_nil] at e
      omega
    subst hjm
    have evs : vs'.toList = vsl := by
      rw [List.take_of_length_le (by rw [Array.length_toList, hvz]; exact Nat.le_refl _), List.take_of_length_le (by rw [← hlv]; exact Nat.le_refl _)] at htk
      exact htk
    obtain ⟨hp', g', d', t', os'⟩ := s'
    have hs2 : (⟨hp', g', d', t', os'⟩ : Shared) = { s with heap := hp' } := hs'
    injection hs2 with _ e1 e2 e3 e4
    subst e1 e2 e3 e4
    simp only at hsz hzo hTO hat hk
    refine wpAny_bind (wpAny_seqItems hTO rfl ?_)
    show wpAny _ _ (do let result ← newTuple vs'.toList; Builtin.SmallTypes.ownedTupleHandOut (.ref (N + xs.length + 2)) result; ret result) _ _ _
    rw [evs]
    refine wpAny_bind (wpAny_newObj_type ?_ (by show vsl.toArray.size ≤ sizeLine; rw [List.size_toArray, ← hlv, sizeLine_eq]; omega))
    show wpAny _ _ (Builtin.SmallTypes.ownedTupleHandOut (.ref (N + xs.length + 2)) (.ref hp'.objs.size) >>= _) _ _ _
    refine wpAny_bind ?_
    unfold Builtin.SmallTypes.ownedTupleHandOut
    have hz₆ : (hp'.push { cls := .type "tuple", data := .seq vsl.toArray }).get? (N + xs.length + 2) = _ := Heap.get?_push_of_some _ hzo
    refine wpAny_bind (wpAny_setField_rec hz₆ (by simp) fun h₇ hz₇ hs₇ => ?_)
    refine wpAny_setField_rec hz₇ (by simp) fun h₈ hz₈ hs₈ => ?_
    have up : ∀ c o, c ≠ N + xs.length + 2 → hp'.get? c = some o → h₈.get? c = some o := fun c o c1 e => (hs₈.2 c c1).trans ((hs₇.2 c c1).trans (Heap.get?_push_of_some _ e))
    have hnew : h₈.get? hp'.objs.size = some { cls := .type "tuple", data := .seq vsl.toArray } := (hs₈.2 _ (ne_nat (by rw [hsz]; omega))).trans ((hs₇.2 _ (ne_nat (by rw [hsz]; omega))).trans (Heap.get?_push_size _ rfl))
    refine wpAny_pure ⟨_, rfl, ?_⟩
    rw [hsz] at hnew ⊢
    refine hQ h₈ ⟨?_, ?_, ⟨vs', hvz, up _ _ (ne_nat (by omega)) hTO⟩, fun i x hi => ?_⟩ hnew (by rw [hs₈.1, hs₇.1, Heap.size_push, hsz]) fun c o hc e => up c o (ne_nat (by omega)) (hk c o hc e)
    · have z := hz₈
      rw [hsz] at z
      exact z
    · exact up _ _ (ne_nat (by omega)) (hk _ _ (.inr (.inr rfl)) Z.its)
    · have q := hat i x hi
      have hil : i < xs.length := (List.getElem?_eq_some_iff.mp hi).1
      have hsi := hlow x (List.mem_of_getElem? hi)
      rw [if_pos hil] at q
      exact q.keep (fun o e => up _ o (ne_nat (by omega)) e)
theorem zip_over {N : Nat} {x : Src} {rest : List Src} {vs : Array Value} {k : Nat} {Q : PySem.Fin → Shared → Prop} (hh : A.handled = none) (hx : x.tup = false) (here : x.Here vs s.heap) (hend : vs[k]? = none) (Z : ZipSt N (x :: rest) k .none s.heap) (hlow : x.src < N)
    (hE : ∀ h' e, (∀ c o, (c < N ∨ N + (x :: rest).length + 2 < c) → s.heap.get? c = some o → h'.get? c = some o) → (∃ o, h'.get? e = some o ∧ o.cls = .type "StopIteration") → E (.ref e) { s with heap := h' }) :
    wpAny (model P w) A (Builtin.«zip.__next__» ⟨[.ref (N + (x :: rest).length + 2)], []⟩) Q E s := by
  generalize hxs : x :: rest = xs at Z hE ⊢
  show wpAny _ _ (field (.ref (N + xs.length + 2)) 2 >>= _) _ _ _
  refine wpAny_bind (wpAny_field Z.obj rfl (x := .bool false) rfl ?_)
  show wpAny _ _ (field (.ref (N + xs.length + 2)) 3 >>= _) _ _ _
  refine wpAny_bind (wpAny_field Z.obj rfl (x := .ref (N + xs.length)) rfl ?_)
  refine wpAny_bind (wpAny_seqItems Z.its rfl ?_)
  have e0 : ((List.range xs.length).map fun j => Value.ref (N + j)) = .ref (N + 0) :: (((List.range rest.length).map Nat.succ).map fun j => Value.ref (N + j)) := by
    rw [← hxs, List.length_cons, List.range_succ_eq_map]
    rfl
  rw [e0]
  simp only [List.isEmpty_toArray, List.isEmpty_cons, Bool.false_eq_true, if_false]
  show wpAny _ _ (Builtin.SmallTypes.ownedTupleIsFree (.ref (N + xs.length + 2)) >>= _) _ _ _
  refine wpAny_bind ?_
  unfold Builtin.SmallTypes.ownedTupleIsFree
  refine wpAny_bind (wpAny_field Z.obj rfl (x := .none) rfl (wpAny_pure ?_))
  simp only [if_true]
  refine wpAny_bind (wpAny_rule ?_)
  refine wpAny_bind (wpAny_field Z.obj rfl (x := .ref (N + xs.length + 1)) rfl ?_)
  refine wpAny_bind (wpAny_setField_rec Z.obj (by simp) fun h₁ hz₁ hs₁ => ?_)
  refine wpAny_bind ?_
  simp only [List.zipIdx_cons, List.forIn_cons]
  refine wpAny_bind (wpAny_bind (wpAny_onRaise ?_))
  show wpAny _ _ (Builtin.SmallTypes.nextOf (.ref (N + 0)) >>= _) _ _ _
  have hlen : 0 < xs.length := by rw [← hxs]; exact Nat.succ_pos _
  have q := Z.at_ 0 x (by rw [← hxs]; rfl)
  have q1 : h₁.IsListIter (N + 0) x.src k ∧ h₁.IsList x.src vs := by
    have z1 := q.keep (h' := h₁) (fun o e => (hs₁.2 _ (ne_nat (by omega))).trans e)
    have z2 := here.keep (h' := h₁) (fun o e => (hs₁.2 _ (ne_nat (by omega))).trans e)
    unfold Src.At at z1
    unfold Src.Here at z2
    rw [if_neg (by rw [hx]; exact Bool.false_ne_true)] at z1 z2
    exact ⟨z1, z2⟩
  refine wpAny_bind (wpAny_nextOf_list_end hh q1.1 q1.2 hend fun h₂ e hs₂ he => ?_)
  obtain ⟨oe, hoe, hce⟩ := he
  have hz₂ := hs₂ _ _ (ne_nat (show N + xs.length + 2 ≠ N + 0 by omega)) hz₁
  have hez : e ≠ N + xs.length + 2 := fun z => by
    subst z
    rw [hz₂] at hoe
    cases hoe
    simp at hce
  exact wpAny_setField_rec hz₂ (by simp) fun h₃ _ hs₃ => hE h₃ e (fun c o hc z => hs₃.extBut _ _ (ne_nat (by omega)) (hs₂ _ _ (ne_nat (by omega)) (hs₁.extBut _ _ (ne_nat (by omega)) z))) ⟨oe, hs₃.extBut _ _ hez hoe, hce⟩
theorem zip_next {N : Nat} {xs : List Src} {k : Nat} {vsl : List Value} {Q : Option Value → Shared → Prop} (hne : xs ≠ []) (Z : ZipSt N xs k .none s.heap) (hlow : ∀ x ∈ xs, x.src < N) (hv : Paired (fun (x : Src) v => ∃ vs, x.Here vs s.heap ∧ vs[k]? = some v) xs vsl) (hz : xs.length ≤ 1000)
    (hQ : ∀ h', ZipSt N xs (k + 1) (rawInt s.heap.objs.size) h' → h'.get? s.heap.objs.size = some { cls := .type "tuple", data := .seq vsl.toArray } → h'.objs.size = s.heap.objs.size + 1 →
      (∀ c o, (c < N ∨ N + xs.length + 2 < c ∨ c = N + xs.length) → s.heap.get? c = some o → h'.get? c = some o) → Q (some (.ref s.heap.objs.size)) { s with heap := h' }) :
    wpAny (model P w) A (pyNext (.ref (N + xs.length + 2))) Q E s := by
  have hT : s.TypeIs (.ref (N + xs.length + 2)) "zip" := ⟨_, Z.obj, rfl⟩
  unfold pyNext
  exact wpAny_bind (wpAny_attempt (wpAny_callSpecial?_slot (name := Str.ofString "__next__") hT F.slot_zip_next (wpAny_call_entry F.slot_zip_next hT F.entry_zip_next
    (zip_step hne Z hlow hv (fun h' a b c d => wpAny_pure (hQ h' a b c d)) hz) (F.args_zip_next_1 _))))
theorem zip_stop {N : Nat} {x : Src} {rest : List Src} {vs : Array Value} {k : Nat} {Q : Option Value → Shared → Prop} (hh : A.handled = none) (hx : x.tup = false) (here : x.Here vs s.heap) (hend : vs[k]? = none) (Z : ZipSt N (x :: rest) k .none s.heap) (hlow : x.src < N)
    (hQ : ∀ h', (∀ c o, (c < N ∨ N + (x :: rest).length + 2 < c) → s.heap.get? c = some o → h'.get? c = some o) → Q none { s with heap := h' }) : wpAny (model P w) A (pyNext (.ref (N + (x :: rest).length + 2))) Q E s := by
  have hT : s.TypeIs (.ref (N + (x :: rest).length + 2)) "zip" := ⟨_, Z.obj, rfl⟩
  unfold pyNext
  refine wpAny_bind (wpAny_attempt (wpAny_callSpecial?_slot (name := Str.ofString "__next__") hT F.slot_zip_next (wpAny_call_entry F.slot_zip_next hT F.entry_zip_next
    (zip_over hh hx here hend Z hlow fun h' e hk he => ?_) (F.args_zip_next_1 _))))
  obtain ⟨o, ho, hc⟩ := he
  exact wpAny_bind (wpAny_isInstance (T := "StopIteration") (b := true) ⟨o, ho, hc⟩ isSubtype_stop (wpAny_pure (hQ _ hk)))
theorem zip_let {elts : List Expr} {x1 : Nat} {pos : Pos} {N T : Nat} {xs : List Src} {k : Nat} {Q : Unit → Shared → Prop} (Z : ZipSt N xs k (rawInt T) s.heap) (hlow : ∀ x ∈ xs, x.src < N)
    (hQ : ∀ h', ZipSt N xs k .none h' → Heap.SameBut (N + xs.length + 2) s.heap h' → Q () { s with heap := h' }) : wpAny (model P w) A (letOwnedTupleGo (.Tuple elts x1 pos) (.ref (N + xs.length + 2)) (.ref T)) Q E s :=
  wpAny_letOwnedTupleGo_zip Z.obj fun h' hz' hs' => hQ h' ⟨hz', (hs'.2 _ (ne_nat (by omega))).trans Z.its, by
    obtain ⟨vals, h1, h2⟩ := Z.own
    exact ⟨vals, h1, (hs'.2 _ (ne_nat (by omega))).trans h2⟩, fun j x hj => by
    have hjl : j < xs.length := (List.getElem?_eq_some_iff.mp hj).1
    have hs := hlow x (List.mem_of_getElem? hj)
    exact (Z.at_ j x hj).keep (fun o e => (hs'.2 _ (ne_nat (by omega))).trans e)⟩ hs'
end
end Rf
/-! ## RfR6c -/
namespace Rf
open PySem PySem.Spec PyProof.Rows L2
/-! the making of it -/
section
variable {P : Program} {w : World} {A : Around} {E : Value → Shared → Prop} {s : Shared}
theorem typeCall_zip3 (a b c : Value) : checkTypeCall "zip" ⟨[a, b, c], []⟩ = pure () := by kernel_rfl
theorem newCall_zip3 (a b c : Value) : checkBuiltinCall "zip.__new__" ⟨[.type "zip", a, b, c], []⟩ = pure () := by kernel_rfl
theorem args_init4 (a b c d : Value) : argsOk "object.__init__" ⟨[a, b, c, d], []⟩ := by unfold argsOk; kernel_rfl
/-- heap behind zip(list, tuple) -/
@[irreducible] def zipLT (h : Heap) (a b : Addr) : Heap := ((((h.push { cls := .type "list_iterator", data := .fields #[.ref a, .int 0 0] }).push { cls := .type "tuple_iterator", data := .fields #[.ref b, .int 0 0] }).push { cls := .type "tuple", data := .seq #[.ref h.objs.size, .ref (h.objs.size + 1)] }).push
  { cls := .type "tuple", data := .seq #[.none, .none] }).push { cls := .type "zip", data := .fields #[.none, .bool false, .bool false, .ref (h.objs.size + 2), .ref (h.objs.size + 3)] }
/-- .. zip(list, list, tuple) -/
@[irreducible] def zipLLT (h : Heap) (a b c : Addr) : Heap := (((((h.push { cls := .type "list_iterator", data := .fields #[.ref a, .int 0 0] }).push { cls := .type "list_iterator", data := .fields #[.ref b, .int 0 0] }).push { cls := .type "tuple_iterator", data := .fields #[.ref c, .int 0 0] }).push
  { cls := .type "tuple", data := .seq #[.ref h.objs.size, .ref (h.objs.size + 1), .ref (h.objs.size + 2)] }).push { cls := .type "tuple", data := .seq #[.none, .none, .none] }).push { cls := .type "zip", data := .fields #[.none, .bool false, .bool false, .ref (h.objs.size + 3), .ref (h.objs.size + 4)] }
theorem new_zipLT (a b : Addr) (xs ys : Array Value) :
    Meets (Builtin.«zip.__new__» ⟨[.type "zip", .ref a, .ref b], []⟩) (fun _ R s => s.heap.IsList a xs ∧ s.heap.IsTuple b ys ∧ R (.ok (.ret (.ref (s.heap.objs.size + 4)))) { s with heap := zipLT s.heap a b }) :=
  .of_wp fun prog w A R s h => by
    obtain ⟨hp, g, d, tk, os⟩ := s
    obtain ⟨hl1, hl2, h⟩ := h
    have hsub := sub_zip
    have hL1 : Heap.IsList (Shared.heap ⟨hp, g, d, tk, os⟩) a xs := hl1
    have hL2 : Heap.IsTuple (Shared.heap ⟨hp.push { cls := .type "list_iterator", data := .fields #[.ref a, .int 0 0] }, g, d, tk, os⟩) b ys := Heap.IsTuple.push hl2 _
    wp_walk using wpAny_pyIter_list hL1, wpAny_pyIter_tuple hL2
    refine ⟨_, rfl, ?_⟩
    unfold zipLT at h
    simp only [Heap.size_push]
    exact h
theorem new_zipLLT (a b c : Addr) (xs ys zs : Array Value) :
    Meets (Builtin.«zip.__new__» ⟨[.type "zip", .ref a, .ref b, .ref c], []⟩) (fun _ R s => s.heap.IsList a xs ∧ s.heap.IsList b ys ∧ s.heap.IsTuple c zs ∧ R (.ok (.ret (.ref (s.heap.objs.size + 5)))) { s with heap := zipLLT s.heap a b c }) :=
  .of_wp fun prog w A R s h => by
    obtain ⟨hp, g, d, tk, os⟩ := s
    obtain ⟨hl1, hl2, hl3, h⟩ := h
    have hsub := sub_zip
    have hL1 : Heap.IsList (Shared.heap ⟨hp, g, d, tk, os⟩) a xs := hl1
    have hL2 : Heap.IsList (Shared.heap ⟨hp.push { cls := .type "list_iterator", data := .fields #[.ref a, .int 0 0] }, g, d, tk, os⟩) b ys := Heap.IsList.push hl2 _
    have hL3 : Heap.IsTuple (Shared.heap ⟨(hp.push { cls := .type "list_iterator", data := .fields #[.ref a, .int 0 0] }).push { cls := .type "list_iterator", data := .fields #[.ref b, .int 0 0] }, g, d, tk, os⟩) c zs := Heap.IsTuple.push (Heap.IsTuple.push hl3 _) _
    wp_walk using wpAny_pyIter_list hL1, wpAny_pyIter_list hL2, wpAny_pyIter_tuple hL3
    refine ⟨_, rfl, ?_⟩
    unfold zipLLT at h
    simp only [Heap.size_push]
    exact h
end
end Rf
/-! ## RfR6e -/
namespace Rf
open PySem PySem.Spec PyProof.Rows L2
/-! ### the layer's rule -/
/-- at x stands this sequence -/
def SqK (K : PySem.W.Frag) (H : Hp) (x : Src) (xs : List V) : Prop := if x.tup then SqT K H x.src xs else SqL K H x.src xs
/-- the sequences as they stand at each turn, the items in new tuples -/
def ItZ (K : PySem.W.Frag) (ss : List Src) : It :=
  ⟨fun i H => ∃ rows ys, Paired (SqK K H) ss rows ∧ Paired (fun (xs : List V) y => xs[i]? = some y) rows ys,
    fun i H v H' => ∃ T ys, v = .ref T ∧ H T = none ∧ H' = upd H T (.tup ys) ∧ ∀ rows, Paired (SqK K H) ss rows → Paired (fun (xs : List V) y => xs[i]? = some y) rows ys,
    fun i H => ∃ x rest xs, ss = x :: rest ∧ x.tup = false ∧ SqL K H x.src xs ∧ xs.length ≤ i⟩
section
variable {X : Cx} {pins : List (Addr × Obj)} {σ : L2.St} {H : Hp} {s : Shared}
theorem sq_inj (I : Inv X pins σ H s) {x : Src} {xs ys : List V} (a : SqK X.K H x xs) (b : SqK X.K H x ys) : xs = ys := by
  unfold SqK at a b
  by_cases c : x.tup = true
  · rw [if_pos c] at a b
    exact I.tuple_inj a b
  · rw [if_neg c] at a b
    exact I.list_inj a b
theorem sqs_inj (I : Inv X pins σ H s) : ∀ {ss : List Src} {rows rows' : List (List V)}, Paired (SqK X.K H) ss rows → Paired (SqK X.K H) ss rows' → rows = rows'
  | _, _, _, .nil, .nil => rfl
  | _, _, _, .cons r t, .cons r' t' => by rw [sq_inj I r r', sqs_inj I t t']
theorem sq_here (I : Inv X pins σ H s) {x : Src} {xs : List V} (a : SqK X.K H x xs) : ∃ its : List Value, Vals xs its ∧ x.Here its.toArray s.heap := by
  unfold SqK at a
  unfold Src.Here
  by_cases c : x.tup = true
  · rw [if_pos c] at a
    obtain ⟨its, r, t, _⟩ := I.tuple a
    exact ⟨its, r, by rw [if_pos c]; exact t⟩
  · rw [if_neg c] at a
    obtain ⟨its, r, t, _⟩ := I.list a
    exact ⟨its, r, by rw [if_neg c]; exact t.isList⟩
theorem sqs_at (I : Inv X pins σ H s) {i : Nat} : ∀ {ss : List Src} {rows : List (List V)} {ys : List V}, Paired (SqK X.K H) ss rows → Paired (fun (xs : List V) y => xs[i]? = some y) rows ys →
    ∃ vsl, Paired (fun (x : Src) v => ∃ vs : Array Value, x.Here vs s.heap ∧ vs[i]? = some v) ss vsl ∧ Vals ys vsl
  | _, _, _, .nil, .nil => ⟨[], .nil, .nil⟩
  | _, _, _, .cons r t, .cons e f => by
    obtain ⟨vsl, h1, h2⟩ := sqs_at I t f
    obtain ⟨its, rv, hh⟩ := sq_here I r
    obtain ⟨u, hu, ru⟩ := rv.get e
    exact ⟨u :: vsl, .cons ⟨_, hh, by simpa using hu⟩ h1, .cons ru h2⟩
end
theorem mem_fp {N m b : Nat} : b ∈ (List.range m).map (fun j => N + j) ↔ N ≤ b ∧ b < N + m := by
  rw [List.mem_map]
  constructor
  · rintro ⟨j, hj, rfl⟩
    have := List.mem_range.mp hj
    omega
  · rintro ⟨h1, h2⟩
    exact ⟨b - N, List.mem_range.mpr (by omega), by omega⟩
/-- the places that a zip's own things take -/
def zfp (N m : Nat) : List Nat := (List.range (m + 3)).map fun j => N + j
theorem mem_zfp {N m b : Nat} : b ∈ zfp N m ↔ N ≤ b ∧ b < N + (m + 3) := mem_fp
theorem out_zfp {N m b : Nat} (h : b ∉ zfp N m) : b < N ∨ N + m + 2 < b := by
  have z : ¬ (N ≤ b ∧ b < N + (m + 3)) := fun q => h (mem_zfp.mpr q)
  omega
theorem zfp_at {N m b : Nat} (h : b ∈ zfp N m) : ∃ j : Nat, N + j = b ∧ j < m + 3 := by
  have z := mem_zfp.mp h
  exact ⟨b - N, by omega, by omega⟩
theorem zfp_mem {N m : Nat} (j : Nat) (h : j < m + 3) : N + j ∈ zfp N m := mem_zfp.mpr ⟨by omega, by omega⟩
theorem zne {N m b : Nat} (h : b < N ∨ N + m + 2 < b) : b ≠ N + m + 2 := by omega
theorem zne2 {N m b z : Nat} (h : b ∈ zfp N m) (hz : N + m + 2 < z) : b ≠ z := by
  have := mem_zfp.mp h
  omega
theorem turn_Z {P : Program} {w : World} {K : PySem.W.Frag} {elts : List Expr} {kk : Nat} {tpos : Pos} {N : Nat} {ss : List Src} (hne : ss ≠ []) (hlow : ∀ x ∈ ss, x.src < N) (hz : ss.length ≤ 1000) :
    Turn P w K (.Tuple elts kk tpos) (ItZ K ss) (zfp N ss.length) (N + ss.length + 2) (fun i h => ZipSt N ss i .none h) where
  mem := zfp_mem (ss.length + 2) (by omega)
  obj := fun i h Z b hb => by
    obtain ⟨j, rfl, hj'⟩ : ∃ j : Nat, N + j = b ∧ j < ss.length + 3 := zfp_at hb
    by_cases c : j < ss.length
    · exact (Z.at_ j ss[j] (List.getElem?_eq_getElem c)).iter
    · by_cases c1 : j = ss.length
      · subst c1
        exact ⟨_, Z.its, fun v q => nomatch q⟩
      · by_cases c2 : j = ss.length + 1
        · subst c2
          obtain ⟨vals, _, e⟩ := Z.own
          exact ⟨_, e, fun v q => nomatch q⟩
        · have c3 : j = ss.length + 2 := by omega
          subst c3
          exact ⟨_, Z.obj, fun v q => nomatch q⟩
  keep := fun i h h' Z k => by
    refine ⟨k _ (zfp_mem (ss.length + 2) (by omega)) _ Z.obj, k _ (zfp_mem ss.length (by omega)) _ Z.its, ?_, fun j x hj => ?_⟩
    · obtain ⟨vals, e1, e2⟩ := Z.own
      exact ⟨vals, e1, k _ (zfp_mem (ss.length + 1) (by omega)) _ e2⟩
    · have hjl : j < ss.length := (List.getElem?_eq_some_iff.mp hj).1
      exact (Z.at_ j x hj).keep fun o e => k _ (zfp_mem j (by omega)) o e
  item := by
    intro X hP hw hK hc i pins s σ H E I hf Z hg
    subst hP hw hK
    obtain ⟨rows, ys, hr, hy⟩ := hg
    obtain ⟨vsl, hv, rv⟩ := sqs_at I hr hy
    have hzl : N + ss.length + 2 < s.heap.objs.size := Heap.lt_size Z.obj
    refine zip_next hne Z hlow hv hz fun h' Z' hT hsz hk => ?_
    refine ⟨_, rfl, zip_let (s := { s with heap := h' }) Z' hlow fun h2 Z2 sb => ?_⟩
    have hT2 : h2.get? s.heap.objs.size = some { cls := .type "tuple", data := .seq vsl.toArray } := (sb.2 _ (ne_nat (by omega))).trans hT
    have lys : ys.length = ss.length := (Paired.length hy).symm.trans (Paired.length hr).symm
    have new : ObjOk X.prog X.w (upd H s.heap.objs.size (.tup ys)) h2 s.heap.objs.size (.tup ys) := ⟨by rw [lys, sizeLine_eq]; omega, vsl, rv, ⟨_, hT2, rfl, _, rfl⟩⟩
    have kp : ∀ b o, b ∉ zfp N ss.length → s.heap.get? b = some o → h2.get? b = some o := fun b o hb q => by
      have hb' := out_zfp hb
      have c1 : @Ne Nat b (N + ss.length + 2) := zne hb'
      exact (sb.2 b c1).trans (hk b o (hb'.elim .inl fun z => .inr (.inl z)) q)
    have I1 : Inv X pins σ (upd H s.heap.objs.size (.tup ys)) { s with heap := h2 } := I.turnedNew (t' := s.toks) (ch := zfp N ss.length) kp hf (Nat.le_refl _) new
    refine ⟨.ref s.heap.objs.size, _, I1, rfl, ⟨_, ys, rfl, I.hok.fresh (Nat.le_refl _), rfl, fun rows' h' => by rw [sqs_inj I h' hr]; exact hy⟩, Z2, fun b hb => ?_⟩
    rw [upd_ne (zne2 hb hzl)]
    exact (hf _ hb).1
  done := by
    intro X hP hw hK hc i pins s σ H E I hf Z hg
    subst hP hw hK
    obtain ⟨x, rest, xs, rfl, hx, hq, hl⟩ := hg
    obtain ⟨its, rv, pl, _⟩ := I.list hq
    have l1 := rv.length
    have here : x.Here its.toArray s.heap := by
      unfold Src.Here
      rw [if_neg (by rw [hx]; exact Bool.false_ne_true)]
      exact pl.isList
    have hend : its.toArray[i]? = none := by
      rw [Array.getElem?_eq_none_iff, List.size_toArray]
      omega
    refine zip_stop (vs := its.toArray) (I.ok.hd hc) hx here hend Z (hlow x List.mem_cons_self) fun h' hk => ⟨rfl, I.turnedL (t' := s.toks) (ch := zfp N (x :: rest).length) (fun b o hb q => hk b o (out_zfp hb) q) hf⟩
  self := fun A i s Q E Z h => wpAny_pyIter_zip Z.obj h
def iZipLT (K : PySem.W.Frag) (ta : TA) : TI := fun σ H R => ta σ H fun vs H1 => ∃ a b xs ys, vs = [.ref a, .ref b] ∧ SqL K H1 a xs ∧ SqT K H1 b ys ∧ R (ItZ K [⟨a, false⟩, ⟨b, true⟩]) H1
def iZipLLT (K : PySem.W.Frag) (ta : TA) : TI := fun σ H R => ta σ H fun vs H1 => ∃ a b c xs ys zs, vs = [.ref a, .ref b, .ref c] ∧ SqL K H1 a xs ∧ SqL K H1 b ys ∧ SqT K H1 c zs ∧ R (ItZ K [⟨a, false⟩, ⟨b, false⟩, ⟨c, true⟩]) H1
theorem at_new {h : Heap} {cls : Value} {d : Data} {n : Nat} (e : h.objs.size = n) (ho : ({ cls := cls, data := d } : Obj).isFreed = false) : (h.push { cls := cls, data := d }).get? n = some { cls := cls, data := d } := by
  subst e
  exact Heap.get?_push_size _ ho
theorem zipLT_st (h : Heap) (a b : Nat) : ZipSt h.objs.size [⟨a, false⟩, ⟨b, true⟩] 0 .none (zipLT h a b) := by
  unfold zipLT
  refine ⟨at_new (by simp only [Heap.size_push]; rfl) rfl, ?_, ⟨#[.none, .none], rfl, ?_⟩, fun j x hj => ?_⟩
  · exact Heap.get?_push_of_some _ (Heap.get?_push_of_some _ (at_new (by simp only [Heap.size_push]; rfl) rfl))
  · exact Heap.get?_push_of_some _ (at_new (by simp only [Heap.size_push]; rfl) rfl)
  · match j, hj with
    | 0, hj =>
      cases hj
      exact ⟨_, Heap.get?_push_of_some _ (Heap.get?_push_of_some _ (Heap.get?_push_of_some _ (Heap.get?_push_of_some _ (at_new rfl rfl)))), rfl, rfl⟩
    | 1, hj =>
      cases hj
      exact ⟨_, Heap.get?_push_of_some _ (Heap.get?_push_of_some _ (Heap.get?_push_of_some _ (at_new (by simp only [Heap.size_push]) rfl))), rfl, rfl⟩
    | j + 2, hj => simp at hj
theorem zipLT_old (h : Heap) (a b : Nat) : ∀ c o, h.get? c = some o → (zipLT h a b).get? c = some o := fun c o e => by
  unfold zipLT
  exact Heap.get?_push_of_some _ (Heap.get?_push_of_some _ (Heap.get?_push_of_some _ (Heap.get?_push_of_some _ (Heap.get?_push_of_some _ e))))
theorem zipLLT_st (h : Heap) (a b c : Nat) : ZipSt h.objs.size [⟨a, false⟩, ⟨b, false⟩, ⟨c, true⟩] 0 .none (zipLLT h a b c) := by
  unfold zipLLT
  refine ⟨at_new (by simp only [Heap.size_push]; rfl) rfl, ?_, ⟨#[.none, .none, .none], rfl, ?_⟩, fun j x hj => ?_⟩
  · exact Heap.get?_push_of_some _ (Heap.get?_push_of_some _ (at_new (by simp only [Heap.size_push]; rfl) rfl))
  · exact Heap.get?_push_of_some _ (at_new (by simp only [Heap.size_push]; rfl) rfl)
  · match j, hj with
    | 0, hj =>
      cases hj
      exact ⟨_, Heap.get?_push_of_some _ (Heap.get?_push_of_some _ (Heap.get?_push_of_some _ (Heap.get?_push_of_some _ (Heap.get?_push_of_some _ (at_new rfl rfl))))), rfl, rfl⟩
    | 1, hj =>
      cases hj
      exact ⟨_, Heap.get?_push_of_some _ (Heap.get?_push_of_some _ (Heap.get?_push_of_some _ (Heap.get?_push_of_some _ (at_new (by simp only [Heap.size_push]) rfl)))), rfl, rfl⟩
    | 2, hj =>
      cases hj
      exact ⟨_, Heap.get?_push_of_some _ (Heap.get?_push_of_some _ (Heap.get?_push_of_some _ (at_new (by simp only [Heap.size_push]) rfl))), rfl, rfl⟩
    | j + 3, hj => simp at hj
theorem zipLLT_old (h : Heap) (a b c : Nat) : ∀ d o, h.get? d = some o → (zipLLT h a b c).get? d = some o := fun d o e => by
  unfold zipLLT
  exact Heap.get?_push_of_some _ (Heap.get?_push_of_some _ (Heap.get?_push_of_some _ (Heap.get?_push_of_some _ (Heap.get?_push_of_some _ (Heap.get?_push_of_some _ e)))))
section
variable {P : Program} {w : World} {A : Around} {E : Value → Shared → Prop} {s : Shared}
theorem call_zipLT {a b : Nat} {xs ys : Array Value} {Q : Value → Shared → Prop} (h1 : s.heap.IsList a xs) (h2 : s.heap.IsTuple b ys)
    (h : ∀ h', ZipSt s.heap.objs.size [⟨a, false⟩, ⟨b, true⟩] 0 .none h' → (∀ c o, s.heap.get? c = some o → h'.get? c = some o) → Q (.ref (s.heap.objs.size + 4)) { s with heap := h' }) : wpAny (model P w) A (call (.type "zip") [.ref a, .ref b]) Q E s :=
  callType_new F.called_zip (by decide) (F.typeCall_zip_2 _ _) (F.newCall_zip_2 _ _) (fun obj => F.args_object_init_3 obj _ _) F.entry_zip_new (new_zipLT a b xs ys) (by
    refine ⟨h1, h2, ?_⟩
    exact ⟨⟨_, (zipLT_st s.heap a b).obj, rfl⟩, h _ (zipLT_st _ _ _) (zipLT_old _ _ _)⟩)
theorem call_zipLLT {a b c : Nat} {xs ys zs : Array Value} {Q : Value → Shared → Prop} (h1 : s.heap.IsList a xs) (h2 : s.heap.IsList b ys) (h3 : s.heap.IsTuple c zs)
    (h : ∀ h', ZipSt s.heap.objs.size [⟨a, false⟩, ⟨b, false⟩, ⟨c, true⟩] 0 .none h' → (∀ d o, s.heap.get? d = some o → h'.get? d = some o) → Q (.ref (s.heap.objs.size + 5)) { s with heap := h' }) : wpAny (model P w) A (call (.type "zip") [.ref a, .ref b, .ref c]) Q E s :=
  callType_new F.called_zip (by decide) (typeCall_zip3 _ _ _) (newCall_zip3 _ _ _) (fun obj => args_init4 obj _ _ _) F.entry_zip_new (new_zipLLT a b c xs ys zs) (by
    refine ⟨h1, h2, h3, ?_⟩
    exact ⟨⟨_, (zipLLT_st s.heap a b c).obj, rfl⟩, h _ (zipLLT_st _ _ _ _) (zipLLT_old _ _ _ _)⟩)
end
end Rf
/-! ## RfR6g -/
namespace Rf
open PySem PySem.Spec PyProof.Rows L2
section
variable {X : Cx} {e e2 e3 : Expr} {ta : TA} {p pos tpos : Pos} {elts : List Expr} {kk : Nat}
theorem zfp_fresh {pins : List (Addr × Obj)} {σ : L2.St} {H : Hp} {s : Shared} (I : Inv X pins σ H s) (m : Nat) : ∀ c ∈ zfp s.heap.objs.size m, FpOk X pins H c := fun c hc =>
  I.fpOk (mem_zfp.mp hc).1 (I.hok.fresh (mem_zfp.mp hc).1)
theorem pi_zipLT (hg : Gl X "zip") (hm : X.mg "zip" = none) (ha : PA X [e, e2] ta) (hs : starEach [e, e2] X.env = (false, eval e X.env) :: starEach [e2] X.env := by rfl) (hpl : (backTo pos (starEach [e2] X.env)).any (·.1) = false := by rfl) :
    PI X (.Tuple elts kk tpos) (.Call (.Name "zip" p) [e, e2] [] pos) (iZipLT X.K ta) := by
  refine ⟨fun pins s σ H R I h => ?_⟩
  refine Call_ (ld_blt I hg hm PyProof.Rows.boot_zip (PyProof.Rows.callWith_type1 (thn (ha.run pos pins s σ H _ I h) fun us s1 ⟨vs, H1, I1, r1, q1⟩ => ?_) hs hpl))
  obtain ⟨a, b, xs, ys, ex, hqx, hqy, q⟩ := q1
  subst ex
  cases r1 with
  | cons r rr =>
   cases rr with
   | cons r' rr =>
    cases rr
    cases r
    cases r'
    obtain ⟨its, rv, p1, _⟩ := I1.list hqx
    obtain ⟨its2, rv2, p2, _⟩ := I1.tuple hqy
    obtain ⟨o2, ho2, _⟩ := id p2
    have la : a < s1.heap.objs.size := p1.lt
    have lb : b < s1.heap.objs.size := Heap.lt_size ho2
    refine call_zipLT p1.isList p2 fun h' Z hk => wpAny_pyIter_zip Z.obj ?_
    have I2 : Inv X pins σ H1 { s1 with heap := h' } := I1.kept (t' := s1.toks) hk
    refine ⟨s1.heap.objs.size + 4, zfp s1.heap.objs.size 2, _, _, H1, rfl, I2, turn_Z (ss := [⟨a, false⟩, ⟨b, true⟩]) (by simp) (fun x hx => ?_) (Nat.le_of_ble_eq_true rfl), Z, zfp_fresh I1 2, q⟩
    simp only [List.mem_cons, List.not_mem_nil, or_false] at hx
    rcases hx with rfl | rfl
    · exact la
    · exact lb
theorem pi_zipLLT (hg : Gl X "zip") (hm : X.mg "zip" = none) (ha : PA X [e, e2, e3] ta) (hs : starEach [e, e2, e3] X.env = (false, eval e X.env) :: starEach [e2, e3] X.env := by rfl) (hpl : (backTo pos (starEach [e2, e3] X.env)).any (·.1) = false := by rfl) :
    PI X (.Tuple elts kk tpos) (.Call (.Name "zip" p) [e, e2, e3] [] pos) (iZipLLT X.K ta) := by
  refine ⟨fun pins s σ H R I h => ?_⟩
  refine Call_ (ld_blt I hg hm PyProof.Rows.boot_zip (PyProof.Rows.callWith_type1 (thn (ha.run pos pins s σ H _ I h) fun us s1 ⟨vs, H1, I1, r1, q1⟩ => ?_) hs hpl))
  obtain ⟨a, b, c, xs, ys, zs, ex, hqx, hqy, hqz, q⟩ := q1
  subst ex
  cases r1 with
  | cons r rr =>
   cases rr with
   | cons r' rr =>
    cases rr with
    | cons r2 rr =>
     cases rr
     cases r
     cases r'
     cases r2
     obtain ⟨its, rv, p1, _⟩ := I1.list hqx
     obtain ⟨its2, rv2, p2, _⟩ := I1.list hqy
     obtain ⟨its3, rv3, p3, _⟩ := I1.tuple hqz
     obtain ⟨o3, ho3, _⟩ := id p3
     have la : a < s1.heap.objs.size := p1.lt
     have lb : b < s1.heap.objs.size := p2.lt
     have lc : c < s1.heap.objs.size := Heap.lt_size ho3
     refine call_zipLLT p1.isList p2.isList p3 fun h' Z hk => wpAny_pyIter_zip Z.obj ?_
     have I2 : Inv X pins σ H1 { s1 with heap := h' } := I1.kept (t' := s1.toks) hk
     refine ⟨s1.heap.objs.size + 5, zfp s1.heap.objs.size 3, _, _, H1, rfl, I2, turn_Z (ss := [⟨a, false⟩, ⟨b, false⟩, ⟨c, true⟩]) (by simp) (fun x hx => ?_) (Nat.le_of_ble_eq_true rfl), Z, zfp_fresh I1 3, q⟩
     simp only [List.mem_cons, List.not_mem_nil, or_false] at hx
     rcases hx with rfl | rfl | rfl
     · exact la
     · exact lb
     · exact lc
end
end Rf
/-! ## RfR6f -/
namespace Rf
open PySem PySem.Spec PyProof.Rows L2
/-- walks of equal length, the first a list -/
theorem walk_Z {K : PySem.W.Frag} {ss : List Src} {rows : List (List V)} {n : Nat} {x : Src} {rest : List Src} (hs : ss = x :: rest) (hx : x.tup = false) (hn : ∀ r ∈ rows, r.length = n) (hl : rows.length = ss.length) :
    Walk (ItZ K ss) n (fun H => Paired (SqK K H) ss rows) (fun i H v H' => ∃ T ys, v = .ref T ∧ H T = none ∧ H' = upd H T (.tup ys) ∧ Paired (fun (xs : List V) y => xs[i]? = some y) rows ys) := by
  refine ⟨fun i H hi q => ?_, fun H q => ?_, fun i H v H' hi q y => ?_⟩
  · have all : ∀ rows : List (List V), (∀ r ∈ rows, r.length = n) → ∃ ys, Paired (fun (xs : List V) y => xs[i]? = some y) rows ys := by
      intro rows
      induction rows with
      | nil => intro _; exact ⟨[], .nil⟩
      | cons r t ih =>
        intro h
        obtain ⟨ys, hy⟩ := ih fun z hz => h z (List.mem_cons_of_mem _ hz)
        have hr := h r List.mem_cons_self
        exact ⟨r[i]'(by omega) :: ys, .cons (List.getElem?_eq_getElem _) hy⟩
    obtain ⟨ys, hy⟩ := all rows hn
    exact ⟨rows, ys, q, hy⟩
  · subst hs
    cases q with
    | cons r t =>
      rename_i b bs
      refine ⟨x, rest, b, rfl, hx, ?_, ?_⟩
      · unfold SqK at r
        rw [if_neg (by rw [hx]; exact Bool.false_ne_true)] at r
        exact r
      · rw [hn b List.mem_cons_self]
        exact Nat.le_refl _
  · obtain ⟨T, ys, h1, h2, h3, h4⟩ := y
    exact ⟨T, ys, h1, h2, h3, h4 rows q⟩
end Rf
/-! ## RfR10 -/
/-! a list comprehension that an exception leaves -/
namespace Rf
open PySem PySem.Spec PyProof.Rows L2
/-- what the block leaves to the def around it -/
def endX (M : Model) (A : Around) (E : Value → Shared → Prop) (Q : Value → Shared → Prop) (acc : Value) (cenv : Env) : Result → Shared → Prop
  | .ok _, s' => ∃ m, s'.heap.Ns cenv.locals m ∧ ∀ h', Heap.SameBut cenv.locals s'.heap h' → Q acc { s' with heap := h' }
  | .error x, s' => ∃ m, s'.heap.Ns cenv.locals m ∧ ∀ h', Heap.SameBut cenv.locals s'.heap h' → ∀ ce : Env, ce.locals = cenv.locals → ce.frame = cenv.frame → wpAny M A (passOn "comprehension.variables-let-go" x ce : Sem Value) (fun _ _ => False) E { s' with heap := h' }
section
variable {M : Model} {A : Around} {E : Value → Shared → Prop} {s : Shared} {env : Env}
theorem comp_X {e : Expr} {scope : Scope} {pos : Pos} {newAcc first : Sem Value} {g : Comprehension} {gs : List Comprehension} {cl : List (Str × Addr)} {Q : Value → Shared → Prop}
    (hcl : clausesOf e = g :: gs) (hs : ∀ x, foldedSetIterable g.iter env x = pure x) (hclos : closureFor scope env = pure cl)
    (hkind : scope.kind = .function) (hnames : ∀ x ∈ scope.names, x.2 = .local → scope.names.lookup x.1 = some .local)
    (h : wpAny M A first (fun x s₁ => wpAny M A (pyIter x) (fun it s₂ => wpAny M A newAcc (fun acc s₃ =>
      wpAny M A (newFunctionEnv scope env.globals cl [] env.qual none .none (some env)) (fun cenv s₄ =>
        codeAny M A (.compStart e 0 it acc { cenv with scope := relabel scope env }) (endX M A E Q acc cenv) s₄) E s₃) E s₂) E s₁) E s) :
    wpAny M A (comprehension e scope env pos newAcc false first none) Q E s := by
  unfold comprehension
  rw [hclos, hcl]
  refine wpAny_bind (wpAny_mono h (fun x s1 h1 => ?_) fun _ _ y => y)
  refine wpAny_bind (wpAny_standAt (wpAny_bind (wpAny_of_eq (hs x) ?_)))
  refine wpAny_bind (wpAny_holding (wpAny_mono h1 (fun it s2 h2 => ?_) fun _ _ y => y))
  refine wpAny_standIf (wpAny_bind (wpAny_mono h2 (fun acc s3 h3 => ?_) fun _ _ y => y))
  refine wpAny_bind (wpAny_pure (wpAny_bind (wpAny_mono h3 (fun cenv s4 h4 => ?_) fun _ _ y => y)))
  dsimp only
  have names : ∀ x ∈ (scope.names.filter fun x => (x.2 == .local || x.2 == .cell) && x.1 != (".0" : Str)).reverse, x.2 = .local →
      Env.kindOf { cenv with scope := relabel scope env } x.1 = some .local := fun x hx hl =>
    lookup_relabel_local (hnames x (List.mem_filter.mp (List.mem_reverse.mp hx)).1 hl)
  refine wpAny_holding (wpAny_bind (wpAny_attempt (wpAny_holding (wpAny_run (codeAny_mono h4 fun r s' hr => ?_)))))
  cases r with
  | ok f =>
    obtain ⟨m, hn, q⟩ := hr
    exact wpAny_bind (wpAny_holding (wpAny_comp_letGo (cenv := { cenv with scope := relabel scope env }) hkind _ s' m names hn fun h' m' _ sb => wpAny_pure (q h' sb)))
  | error x =>
    obtain ⟨m, hn, q⟩ := hr
    exact wpAny_bind (wpAny_holding (wpAny_comp_letGo (cenv := { cenv with scope := relabel scope env }) hkind _ s' m names hn fun h' m' _ sb => wpAny_mono (q h' sb _ rfl rfl) (fun _ _ f => f.elim) fun _ _ y => y))
end
theorem note_same {e : Value} {a b : Env} (h : a.frame = b.frame) : noteFrame e a = noteFrame e b := by
  unfold noteFrame PySem.frameOf
  rw [h]
theorem frames_on {base B h h2 : Heap} : ∀ {l : List Env}, h.FunFrames base l → (∀ L ∈ frs l, B.get? L = none ∧ ∀ o, h.get? L = some o → h2.get? L = some o) → h2.FunFrames B l
  | [], _, _ => trivial
  | env :: l, h, k => by
    obtain ⟨hk, ⟨L, o, hf, _, ho, hd⟩, hr⟩ := h
    have z := k L (List.mem_filterMap.mpr ⟨env, List.mem_cons_self, hf⟩)
    exact ⟨hk, ⟨L, o, hf, z.1, z.2 o ho, hd⟩, frames_on hr fun b hb => by
      obtain ⟨e, he, q⟩ := List.mem_filterMap.mp hb
      exact k b (List.mem_filterMap.mpr ⟨e, List.mem_cons_of_mem _ he, q⟩)⟩
/-- the block's context with a wish for exceptions -/
abbrev blkX (X : Cx) (s : Shared) (H : Hp) (scope : Scope) (cenv : Env) (fp : List Addr) (xe : Value → Shared → Prop) : Cx := (X.blk s H scope cenv fp).wish xe
section
variable {X : Cx}
/-- an exception that a call lets out within the block reaches the def's own wish -/
theorem blk_passes {W : WX} {E : XK} {pins : List (Addr × Obj)} {σ : L2.St} {H3 : Hp} {s3 : Shared} {scope : Scope} {ce : Env} {fp : List Addr} {Q : Value → Shared → Prop} {acc : Value} {xe : Value → Shared → Prop}
    (hs : X.stack = X.env :: X.outer) (hf : X.env.frame = some X.env.locals) (tk : L2.Takes X W) (hW : ∀ cls d σ H, E cls d H → W cls d σ H)
    (I3 : Inv X pins σ H3 s3) (cL : ce.locals = s3.heap.objs.size) (cF : ce.frame = X.env.frame) (f3 : ∀ b ∈ fp, FpOk X pins H3 b)
    {pins' : List (Addr × Obj)} {σ' : L2.St} {H : Hp} {s s' : Shared} {e : Value} {E1 : Value → Shared → Prop} (I : Inv (blkX X s3 H3 scope ce fp xe) pins' σ' H s) (c : L2.CX X.prog X.w X.stack H s E e s') :
    wpAny (model X.prog X.w) X.A (noteFrame e ce) (fun _ s2 => endX (model X.prog X.w) X.A X.xe Q acc ce (.error e) s2) E1 s' := by
  have hfr : X.A.frames = some (X.env :: X.outer) := by rw [I3.ok.frames, hs]
  obtain ⟨a, B, sI, pins2, σ2, H', cls, d, rfl, J, nb, up, sky, na, os, ag, w⟩ := XE.of_call (X := blkX X s3 H3 scope ce fp xe) (W := fun cls d _ H => E cls d H) I (fun _ _ _ h => h) c
  have nC : s3.heap.objs.size ∉ frs X.stack := fun hm => by
    rcases List.mem_cons.mp (I3.stkSub _ hm) with z | z
    · exact absurd I3.lt (by rw [← z]; exact Nat.lt_irrefl _)
    · exact I3.nofs (Nat.le_refl _) z
  rw [note_same cF]
  have fin : ∀ h1, HandSPX.HeldZ B (X.env :: X.outer) a (Zc cls d) X.env.locals h1 → s'.heap.UpToSlots h1 → endX (model X.prog X.w) X.A X.xe Q acc ce (.error (.ref a)) { s' with heap := h1 } := by
    intro h1 hh up1
    obtain ⟨st, ha, ff, oe, vs, T, oT, ts, he, hz, hd, v1, hnT, hTe, hT, hdT, h3⟩ := hh
    obtain ⟨m, ⟨o, es, ep, ho, r⟩, _⟩ := J.loc
    have ho' : sI.heap.get? s3.heap.objs.size = some o := by rw [← cL]; exact ho
    have hB := nb _ o ho' nC
    refine ⟨m, ⟨o, es, ep, ?_, r⟩, fun h2 sb ce2 e1 e2 => ?_⟩
    · show h1.get? ce.locals = some o
      rw [cL]
      exact st _ _ hB
    · rw [cL] at sb
      have ne : ∀ {b : Addr}, B.get? b = none → b ≠ s3.heap.objs.size := fun {b} z q => by
        rw [q, hB] at z
        cases z
      have same : ∀ {b : Addr} {o : Obj}, b ≠ s3.heap.objs.size → h1.get? b = some o → h2.get? b = some o := fun {b o} z q => (sb.2 b z).trans q
      generalize hB' : PySem.W.hideAll B [s3.heap.objs.size] = B'
      have toB : ∀ {b : Addr} {o : Obj}, B'.get? b = some o → B.get? b = some o ∧ b ≠ s3.heap.objs.size := fun {b o} q => by
        rw [← hB'] at q
        exact ⟨PySem.W.of_hideAll _ q, fun z => by
          rw [z, PySem.W.hideAll_none _ (List.mem_cons_self)] at q
          cases q⟩
      have ofB : ∀ {b : Addr}, B.get? b = none → B'.get? b = none := fun {b} z => by
        cases q : B'.get? b with
        | none => rfl
        | some o =>
          rw [(toB q).1] at z
          cases z
      have st2 : B'.StaysIn h2 := fun b o q => same (toB q).2 (st b o (toB q).1)
      have ff2 : h2.FunFrames B' (X.env :: X.outer) := frames_on ff fun L hL => by
        obtain ⟨hn, _⟩ := ff.mem hL
        exact ⟨ofB hn, fun o q => same (ne hn) q⟩
      have tr2 : HandSPX.TracedZ h2 B' a (Zc cls d) (rawInt X.env.locals) := ⟨oe, vs, T, oT, ts, same (ne ha) he, hz, hd, v1, ofB hnT, hTe, same (ne hnT) hT, hdT, h3⟩
      unfold PySem.passOn
      refine wpAny_bind (wpAny_field (same (ne ha) he) hd v1 ?_)
      rw [if_neg (show ¬ ((Value.ref T == Value.none) = true) from by simp)]
      rw [e2, cF, hf]
      have last : wpAny (model X.prog X.w) X.A (setFlight (.ref a) (some X.env.locals)) (fun _ s4 => wpAny (model X.prog X.w) X.A (throw (.ref a) : Sem Value) (fun _ _ => False) X.xe s4) X.xe { s' with heap := h2 } := by
        refine HandSPX.setFlight_anyZ (s := { s' with heap := h2 }) st2 ff2 tr2 fun h4 k1 k2 k3 k4 => wpAny_throw (tk _ _ ?_)
        have I7 : Inv X pins σ H' sI := I3.call' (ch := fp) J.os J.base J.hok J.bare fun b hb => ⟨(f3 b hb).2.2.2.1, (f3 b hb).2.1, (f3 b hb).2.2.2.2.1, (f3 b hb).2.2.2.2.2⟩
        have zC : H' s3.heap.objs.size = none := by
          have z : H' ce.locals = none := J.free
          rw [cL] at z
          exact z
        obtain ⟨f0, f1, f2, f3', f4, f5⟩ := I3.fpOk (Nat.le_refl _) zC
        have I8 : Inv X pins σ H' { sI with heap := PySem.W.hideAll sI.heap [s3.heap.objs.size] } := I7.turned (t' := sI.toks) (fun b o hb q => PySem.W.hideAll_get _ q fun hm => hb (by simpa using hm)) f0 f1 f3' f4 f5
        have off : ∀ {b : Addr} {o : Obj}, (PySem.W.hideAll sI.heap [s3.heap.objs.size]).get? b = some o → sI.heap.get? b = some o ∧ b ≠ s3.heap.objs.size := fun {b o} q =>
          ⟨PySem.W.of_hideAll _ q, fun z => by
            rw [z, PySem.W.hideAll_none _ (List.mem_cons_self)] at q
            cases q⟩
        refine ⟨a, B', _, pins, σ, H', cls, d, rfl, I8, fun b o q hb => ?_, fun b o q hnf => ?_, .inr (.inr (by rw [hs]; exact ⟨k1, ofB ha, k2, k3⟩)), na, os, ag, hW _ _ _ _ w⟩
        · rw [← hB']
          exact PySem.W.hideAll_get _ (nb b o (off q).1 hb) fun hm => (off q).2 (by simpa using hm)
        · obtain ⟨sl, q1⟩ := up b o (off q).1 hnf
          obtain ⟨sl1, q2⟩ := up1 b _ q1 hnf
          obtain ⟨sl2, q3⟩ := k4 b _ (same (off q).2 q2) hnf
          exact ⟨sl2, q3⟩
      first
        | exact wpAny_bind last
        | exact wpAny_bind (wpAny_pure (wpAny_bind last))
  have sky' : Sky B (X.env :: X.outer) a (Zc cls d) ce.locals s'.heap := by rw [← hs]; exact sky
  rcases sky' with ⟨hB, hn, hl, oe, vs, he, hz, hd, h1⟩ | fl | hh
  · exact HandSPX.look_newZ Zc.steady hfr hl hf he hB hn hd h1 hz fin
  · exact HandSPX.looks_onZ Zc.steady hfr hf fl fin
  · -- a call's exception is not held at the block's own namespace
    obtain ⟨a', B2, _, cls2, d2, ea, fl2, _⟩ := c
    cases ea
    obtain ⟨_, _, _, oe, vs, T, oT, ts, he, hz, hd, v1, _, _, hT, hdT, h3⟩ := hh
    obtain ⟨_, _, _, oe', vs', T', oT', ts', he', hz', hd', v1', _, _, hT', hdT', h3'⟩ := fl2
    rw [he] at he'; cases he'
    rw [hd] at hd'; cases hd'
    rw [v1] at v1'; cases v1'
    rw [hT] at hT'; cases hT'
    rw [hdT] at hdT'; cases hdT'
    rw [h3] at h3'
    cases h3'
end
end Rf
/-! ## RfR11 -/
namespace Rf
open PySem PySem.Spec PyProof.Rows L2
section
variable {X : Cx}
/-- a list comprehension whose element may let a call's exception out -/
theorem pe_lcX {W : WX} {E : XK} {elt tg iter : Expr} {scope : Scope} {own : List (Str × Nat)} {pos : Pos} {wi : TI} {g : TG} {te : TE} (hstk : X.stack = X.env :: X.outer) (hf : X.env.frame = some X.env.locals) (tk : L2.Takes X W) (hW : ∀ cls d σ H, E cls d H → W cls d σ H)
    (hc : X.calm = true) (hN : X.N.Nodup) (hi : PI X tg iter wi) (ok : BlkOk X.N X.env.scope scope own)
    (hg : ∀ (s : Shared) (H : Hp) (C : Addr) (cl : List (Str × Addr)) (fp : List Addr), PG (X.blk s H scope (compEnvC scope cl C X.env) fp) tg g)
    (he : ∀ (s : Shared) (H : Hp) (C : Addr) (cl : List (Str × Addr)) (fp : List Addr) (xe : Value → Shared → Prop), (∀ σ, PassesAt (L2.CX X.prog X.w) (blkX X s H scope (compEnvC scope cl C X.env) fp xe) σ E) → PE (blkX X s H scope (compEnvC scope cl C X.env) fp xe) elt te)
    (hs : ∀ x, foldedSetIterable iter X.env x = pure x := by intro _; rfl) :
    PE X (.ListComp elt [⟨tg, iter, [], 0⟩] scope pos) (tLc wi g tYes te (own.map (·.2))) := by
  refine ⟨fun pins s σ H Q I h => ?_⟩
  rw [eval_ListComp]
  have clo : ∀ y ∈ scope.names, y.2 = .free → ∃ c, X.env.cells.lookup y.1 = some c := fun y hy e => (ok.free y hy e).elim (fun k => I.ok.has _ (.inl k)) fun k => I.ok.has _ (.inr k)
  refine comp_X rfl hs (closure_ok clo) ok.kind (fun y hy e => by rw [ok.uniq y hy, e]) (thn (hi.run pins s σ H _ I h) fun xv s1 hx => thn hx fun itv s2 h2 => ?_)
  obtain ⟨it, fp, tn, J, H2, e, I2, T, st2, f2, q⟩ := h2
  subst e
  refine wpAny_newObj_type (newEnv_comp ?_) (by show 0 ≤ sizeLine; decide)
  generalize hD : s2.heap.objs.size = D
  have hDn : H2 D = none := I2.hok.fresh (Nat.le_of_eq hD)
  obtain ⟨Wt, ⟨m0, w0⟩, turn⟩ := q D hDn
  generalize hs3 : ({ s2 with heap := s2.heap.push { cls := .type "list", data := .seq ([] : List Value).toArray } } : Shared) = s3
  have I3 : Inv X pins σ (upd H2 D (.lst [])) s3 := by
    rw [← hs3]
    refine I2.laid (t' := s2.toks) (fun b o e => Heap.get?_push_of_some _ e) (Nat.le_of_eq hD) ⟨Nat.zero_le _, [], 0, .nil, ?_⟩
    rw [← hD]
    exact Heap.get?_push_size _ rfl
  have h3 : s3.heap = s2.heap.push { cls := .type "list", data := .seq ([] : List Value).toArray } := by rw [← hs3]
  have f3 : ∀ b ∈ fp, FpOk X pins (upd H2 D (.lst [])) b ∧ b < s3.heap.objs.size := fun b hb => by
    obtain ⟨o, eo, _⟩ := T.obj _ _ st2 b hb
    have lt := Heap.lt_size eo
    refine ⟨⟨?_, (f2 b hb).2⟩, by rw [h3, Heap.size_push]; exact Nat.lt_succ_of_lt lt⟩
    rw [upd_ne (by rw [← hD]; exact Nat.ne_of_lt lt)]
    exact (f2 b hb).1
  have st3 : tn 0 s3.heap := T.keep _ _ _ st2 fun b _ o e => by rw [h3]; exact Heap.get?_push_of_some _ e
  have I4 := block_start I3 ok hN f3
  show codeAny _ _ (.compStart (.ListComp elt [⟨tg, iter, [], 0⟩] scope pos) 0 (.ref it) (.ref D) (compEnvC scope (cellsFrom (s3.heap.objs.size + 1) scope.names (cloFrom X.env.cells scope.names [])) s3.heap.objs.size X.env))
    (endX (model X.prog X.w) X.A X.xe (EP X pins σ Q) (.ref D) (newEnv scope s3.heap.objs.size X.env.globals (cellsFrom (s3.heap.objs.size + 1) scope.names (cloFrom X.env.cells scope.names [])) X.env.qual none .none (some X.env) X.env.builtins)) { s3 with heap := pushCells (s3.heap.push { cls := .type "dict", data := .dict #[] }) scope.names }
  have pg := hg s3 (upd H2 D (.lst [])) s3.heap.objs.size (cellsFrom (s3.heap.objs.size + 1) scope.names (cloFrom X.env.cells scope.names [])) fp
  have pe := he s3 (upd H2 D (.lst [])) s3.heap.objs.size (cellsFrom (s3.heap.objs.size + 1) scope.names (cloFrom X.env.cells scope.names [])) fp
  generalize hce : compEnvC scope (cellsFrom (s3.heap.objs.size + 1) scope.names (cloFrom X.env.cells scope.names [])) s3.heap.objs.size X.env = ce at I4 pg pe ⊢
  have cL : ce.locals = s3.heap.objs.size := by subst hce; rfl
  have cF : ce.frame = X.env.frame := by subst hce; rfl
  generalize hcv : newEnv scope s3.heap.objs.size X.env.globals (cellsFrom (s3.heap.objs.size + 1) scope.names (cloFrom X.env.cells scope.names [])) X.env.qual none .none (some X.env) X.env.builtins = cv
  have vL : cv.locals = s3.heap.objs.size := by subst hcv; rfl
  have vF : cv.frame = X.env.frame := by subst hcv; rfl
  have nfp : ∀ b ∈ fp, (upd H2 D (.lst [])) b = none := fun b hb => (f3 b hb).1.1
  generalize hH3 : upd H2 D (.lst []) = H3 at I3 I4 pg pe w0 nfp f3
  generalize hs4 : ({ s3 with heap := pushCells (s3.heap.push { cls := .type "dict", data := .dict #[] }) scope.names } : Shared) = s4 at I4 ⊢
  have st4 : tn 0 s4.heap := T.keep _ _ _ st3 fun b _ o e => by rw [← hs4]; exact pushCells_keeps _ _ _ _ (Heap.get?_push_of_some _ e)
  have stat : ∀ {σ' : L2.St} {H' : Hp} {s' : Shared}, Inv (X.blk s3 H3 scope ce fp) [] σ' H' s' → (∀ b ∈ fp, H' b = none) → ∀ b ∈ fp, FpOk (X.blk s3 H3 scope ce fp) [] H' b := fun {σ' H' s'} I' hn b hb =>
    ⟨hn b hb, (I'.ok.exf b hb).1, I'.ok.exfs b hb, .inl hb, fun x c e => (I'.ok.exf b hb).2 x c e, fun p hp => absurd (show p ∈ ([] : List (Addr × Obj)) ++ [] from hp) (by simp)⟩
  -- the call's exception
  let xe : Value → Shared → Prop := notedBy (model X.prog X.w) X.A ce fun e s' => endX (model X.prog X.w) X.A X.xe (EP X pins σ Q) (.ref D) cv (.error e) s'
  have pass : ∀ σ', PassesAt (L2.CX X.prog X.w) (blkX X s3 H3 scope ce fp xe) σ' E := fun σ' pins' H' s0 e s' I' c => by
    have z := blk_passes (Q := EP X pins σ Q) (acc := .ref D) (E1 := fun e s' => endX (model X.prog X.w) X.A X.xe (EP X pins σ Q) (.ref D) cv (.error e) s') hstk hf tk hW I3 cL cF (fun b hb => (f3 b hb).1) I' c
    refine wpAny_mono z (fun _ s2 k => ?_) fun _ _ y => y
    obtain ⟨m, hn, k⟩ := k
    refine ⟨m, by rw [vL, ← cL]; exact hn, fun h' sb c2 e1 e2 => k h' (by rw [cL, ← vL]; exact sb) c2 (by rw [cL, ← vL]; exact e1) (by rw [cF, ← vF]; exact e2)⟩
  have loop : codeAny (model X.prog X.w) X.A (.compLoop (.ListComp elt [⟨tg, iter, [], 0⟩] scope pos) 0 (.ref it) (.ref D) ce) (endX (model X.prog X.w) X.A X.xe (EP X pins σ Q) (.ref D) cv) s4 := by
    refine compLoop_any (fun n s' => ∃ i H', Inv (X.blk s3 H3 scope ce fp) [] (wipe σ (own.map (·.2))) H' s' ∧ tn i s'.heap ∧ (∀ b ∈ fp, H' b = none) ∧ Wt i n H') ?_ m0 ⟨0, H3, I4, st4, nfp, w0⟩
    rintro n s5 ⟨i, H5, I5, st5, n5, w5⟩
    rcases turn i n H5 w5 with ⟨stop, qq⟩ | ⟨go, Nx, hNx, step⟩
    · refine thnF (T.done (X.blk s3 H3 scope ce fp) rfl rfl rfl hc i [] s5 _ H5 (fun _ _ => False) I5 (stat I5 n5) st5 stop) fun r s6 ⟨hr, I6⟩ => ?_
      subst hr
      have I7 : Inv X pins σ H5 s6 := I3.call' (ch := fp) I6.os I6.base I6.hok I6.bare fun b hb => ⟨(f3 b hb).1.2.2.2.1, (f3 b hb).1.2.1, (f3 b hb).1.2.2.2.2.1, (f3 b hb).1.2.2.2.2.2⟩
      have nC : H5 s3.heap.objs.size = none := by
        have z : H5 ce.locals = none := I6.free
        rw [cL] at z
        exact z
      obtain ⟨m, hn, _⟩ := I6.loc
      have hn : s6.heap.Ns ce.locals m := hn
      rw [cL, ← vL] at hn
      refine ⟨m, hn, fun h' sb => ?_⟩
      rw [vL] at sb
      obtain ⟨f0, f1, f2, f3', f4, f5⟩ := I3.fpOk (Nat.le_refl _) nC
      exact ⟨.ref D, H5, I7.turned (t' := s6.toks) (fun b o hb e => (sb.2 b hb).trans e) f0 f1 f3' f4 f5, rfl, qq⟩
    · refine thnF (T.item (X.blk s3 H3 scope ce fp) rfl rfl rfl hc i [] s5 _ H5 (fun _ _ => False) I5 (stat I5 n5) st5 go) fun r s6 ⟨u, hr, h6⟩ => ?_
      subst hr
      refine thnF h6 fun _ s7 ⟨x, H7, I7, r7, y7, st7, n7⟩ => ?_
      have I7' := I7.pinned (stat I7 n7) (T.obj _ _ st7)
      refine thnF (pg.run _ s7 _ H7 x u _ I7' r7 (step x H7 y7)) fun _ s8 ⟨σ8, H8, I8, hw8, q8⟩ => ?_
      refine wpAny_tests_nil ?_
      rw [if_pos rfl]
      have q8 := q8
      unfold tYes at q8
      dsimp only at q8
      rw [if_pos rfl] at q8
      refine wpAny_mono ((pe xe pass).run _ s8 σ8 H8 _ (I8.wish xe) q8) (fun z s10 hz => ?_) fun _ _ y => y
      obtain ⟨yv, H10, I10', r10, acc, hD10, hz10, nx⟩ := hz
      have I10 : Inv (X.blk s3 H3 scope ce fp) ([] ++ pinsAt fp s7.heap) σ8 H10 s10 := Inv.unwish (X := X.blk s3 H3 scope ce fp) (E := xe) I10'
      refine app_ok (X := X.blk s3 H3 scope ce fp) I10 hD10 hz10 r10 fun s11 I11 => ?_
      obtain ⟨m', hm, w'⟩ := hNx _ nx
      have kept : ∀ b ∈ fp, ∀ o, s7.heap.get? b = some o → s11.heap.get? b = some o ∧ (upd H10 D (.lst (acc ++ [yv]))) b = none := fun b hb o e =>
        let z := I11.pin (b, o) (List.mem_append_right _ (List.mem_append_right _ (mem_pinsAt hb e)))
        ⟨z.1, z.2.1⟩
      refine ⟨m', hm, i + 1, _, (I11.unpinned (pins := [])).weak (by rw [← hw8, wipe_length]) (fun j v e => ?_), T.keep _ _ _ st7 fun b hb o e => (kept b hb o e).1, fun b hb => ?_, w'⟩
      · rw [← hw8] at e
        exact (wipe_some e).1
      · obtain ⟨o, e, _⟩ := T.obj _ _ st7 b hb
        exact (kept b hb o e).2
  exact codeAny_compStart_list loop (T.self X.A 0 _ _ _ st4 loop)
end
end Rf
/-! ## RfW0 -/
/-! Words of the walk: the program's statements, calls of defs, the comprehension that maps, heaps. -/
namespace Rf
open PySem PySem.Spec PyProof.Rows L2
def top (i : Nat) : Stmt := PySem.Challenge.pw_rulesfound_s01_answers.main.body.getD i (.Pass ⟨0, 0, 0, 0⟩)
/-! ### a def that may be called by its name -/
structure Cal (P : Program) (w : World) (K : PySem.W.Frag) (mg : Str → Option Value) (base : Heap) (CX : CXT) (k : Nat) (x : Str) (ps : List Str) (sp : Sp) : Prop where
  ex : ∃ (f : Addr) (fd : FuncData), FnOk P w K mg base CX k f fd ps sp ∧ mg x = some (.ref f) ∧ PySem.W.keepIn K (.ref f) = true ∧ Binds K fd ps []
/-- a def of the top -/
structure GDef (K : PySem.W.Frag) (mg : Str → Option Value) (x : Str) (st : Stmt) (ps : List Str) : Prop where
  ex : ∃ (f : Addr) (fd : FuncData), Fun K x x st f fd ∧ mg x = some (.ref f) ∧ Binds K fd ps []
theorem GDef.cal {P : Program} {w : World} {K : PySem.W.Frag} {mg : Str → Option Value} {base : Heap} {CX : CXT} {k : Nat} {x : Str} {st : Stmt} {ps : List Str} {sp : Sp} (D : GDef K mg x st ps)
    (h : ∀ f fd, Fun K x x st f fd → FnOk P w K mg base CX k f fd ps sp) : Cal P w K mg base CX k x ps sp := by
  obtain ⟨f, fd, F, g, b⟩ := D.ex
  exact ⟨f, fd, h f fd F, g, F.kp, b⟩
section
variable {X : Cx} {j k : Nat} {x : Str} {ps : List Str} {sp : Sp} {e : Expr} {es : List Expr} {t : TA} {p pos : Pos}
theorem pe_c (C : Cal X.prog X.w X.K X.mg X.base CX0 k x ps sp) (hr : Room j X.A) (ha : PA X (e :: es) t) (hk : k ≤ j := by decide) (hg : Gl X x := by rfl)
    (hdb : (x == ("__debug__" : Str)) = false := by decide) (he : starEach (e :: es) X.env = (false, eval e X.env) :: starEach es X.env := by rfl) (hpl : (backTo pos (starEach es X.env)).any (·.1) = false := by rfl) :
    PE X (.Call (.Name x p) (e :: es) [] pos) (tCall sp [] E0 t) := by
  obtain ⟨f, fd, G, g, kp, b⟩ := C.ex
  exact pe_call G (hr.mono hk) hg g kp b .nil pass0 ha hdb he hpl
end
theorem bt_sum : bootBuiltins "sum" = some (.builtin "sum") := by decide +kernel
theorem bt_min : bootBuiltins "min" = some (.builtin "min") := by decide +kernel
theorem bt_max : bootBuiltins "max" = some (.builtin "max") := by decide +kernel
theorem bt_any : bootBuiltins "any" = some (.builtin "any") := by decide +kernel
theorem bt_len : bootBuiltins "len" = some (.builtin "len") := by decide +kernel
theorem bt_sorted : bootBuiltins "sorted" = some (.builtin "sorted") := by decide +kernel
theorem bt_set : bootBuiltins "set" = some (.type "set") := by decide +kernel
theorem bt_tuple : bootBuiltins "tuple" = some (.type "tuple") := by decide +kernel
theorem bt_list : bootBuiltins "list" = some (.type "list") := by decide +kernel
theorem bt_int : bootBuiltins "int" = some (.type "int") := by decide +kernel
theorem bt_dict : bootBuiltins "dict" = some (.type "dict") := by decide +kernel
/-- the built-in names that the program uses, none hidden by a name of the top -/
structure Bts (mg : Str → Option Value) : Prop where
  range : mg "range" = none
  len : mg "len" = none
  min : mg "min" = none
  max : mg "max" = none
  sum : mg "sum" = none
  sorted : mg "sorted" = none
  set : mg "set" = none
  tuple : mg "tuple" = none
  zip : mg "zip" = none
  list : mg "list" = none
  enumerate : mg "enumerate" = none
  int : mg "int" = none
  dict : mg "dict" = none
  any : mg "any" = none
  verr : mg "ValueError" = none
theorem if_true_of {c : Bool} {A B : Prop} (hc : c = true) (h : A) : if c = true then A else B := by
  rw [if_pos hc]
  exact h
theorem if_false_of {c : Bool} {A B : Prop} (hc : c = false) (h : B) : if c = true then A else B := by
  rw [hc, if_neg Bool.false_ne_true]
  exact h
/-! ### heaps -/
section
variable {K : PySem.W.Frag} {H H' H0 : Hp} {D a q : Addr} {o : HO}
theorem _root_.L2.Same.put (s : Same H0 H) (h : H0 D = none) : Same H0 (upd H D o) := fun b u e => by
  rw [upd_ne (ne_of_none e h)]
  exact s b u e
theorem _root_.L2.Same.new (h : H D = none) : Same H (upd H D o) := (Same.refl H).put h
theorem _root_.L2.Same.tup (s : Same H H') {xs : List V} (h : SqT K H a xs) : SqT K H' a xs := by
  rcases h with (h | ⟨o, h⟩) | h
  · exact .inl (.inl (s _ _ h))
  · exact .inl (.inr ⟨o, s _ _ h⟩)
  · exact .inr h
theorem _root_.L2.Same.tups (s : Same H H') : ∀ {ps : List Addr} {rows : List (List Int)}, Tups K H ps rows → Tups K H' ps rows
  | _, _, .nil => .nil
  | _, _, .cons h t => .cons (s.tup h) (s.tups t)
theorem tup_put {xs : List V} {l : List V} (h : SqT K H a xs) (hD : H D = some (.lst l)) : SqT K (upd H D o) a xs := by
  rcases h with (h | ⟨o', h⟩) | h
  · exact .inl (.inl (by rw [upd_ne (fun z => by rw [z, hD] at h; cases h)]; exact h))
  · exact .inl (.inr ⟨o', by rw [upd_ne (fun z => by rw [z, hD] at h; cases h)]; exact h⟩)
  · exact .inr h
theorem tups_put {l : List V} (hD : H D = some (.lst l)) : ∀ {ps : List Addr} {rows : List (List Int)}, Tups K H ps rows → Tups K (upd H D o) ps rows
  | _, _, .nil => .nil
  | _, _, .cons h t => .cons (tup_put h hD) (tups_put hD t)
theorem _root_.L2.Same.lt (s : Same H H') (h : H D = some o) (q0 : H' q = none) : q ≠ D := fun z => by
  rw [z, s _ _ h] at q0
  cases q0
end
/-! ### the comprehension that maps, what does not suit left out -/
section
variable {J : It} {n : Nat} {G : Hp → Prop} {Y : Nat → Hp → V → Hp → Prop}
/-- what is made of an item stays as it is -/
structure Stays (F : Nat → V → Hp → Prop) (D : Addr) : Prop where
  same : ∀ i y H H', Same H H' → F i y H → F i y H'
  put : ∀ i y H l l', H D = some (.lst l) → F i y H → F i y (upd H D (.lst l'))
theorem stays_paired {F : Nat → V → Hp → Prop} {D : Addr} (hF : Stays F D) {H H' : Hp} (s : Same H H') : ∀ {is : List Nat} {acc : List V}, Paired (fun i y => F i y H) is acc → Paired (fun i y => F i y H') is acc
  | _, _, .nil => .nil
  | _, _, .cons h t => .cons (hF.same _ _ _ _ s h) (stays_paired hF s t)
theorem stays_put {F : Nat → V → Hp → Prop} {D : Addr} (hF : Stays F D) {H : Hp} {l l' : List V} (h : H D = some (.lst l)) : ∀ {is : List Nat} {acc : List V}, Paired (fun i y => F i y H) is acc → Paired (fun i y => F i y (upd H D (.lst l'))) is acc
  | _, _, .nil => .nil
  | _, _, .cons q t => .cons (hF.put _ _ _ _ _ h q) (stays_put hF h t)
theorem paired_more {α β : Type} {R : α → β → Prop} {a : α} {b : β} (r : R a b) : ∀ {l : List α} {m : List β}, Paired R l m → Paired R (l ++ [a]) (m ++ [b])
  | _, _, .nil => .cons r .nil
  | _, _, .cons h t => .cons h (paired_more r t)
theorem lc_kept (w : Walk J n G Y) {g : TG} {tt : TT} {te : TE} {vs : List Nat} {σ : L2.St} {H1 : Hp} {D : Addr} {Qd : Hp → Prop} (p : Nat → Bool) (F : Nat → V → Hp → Prop) (hF : Stays F D) (hD : H1 D = none) (hn : n ≤ 100000)
    (hG : ∀ H, Same H1 H → G H)
    (turn : ∀ i x H H', i < n → Same H1 H → Y i H x H' → ∀ (Z : V → Hp → Prop) (Z2 : Hp → Prop), (p i = true → ∀ y H4, Same H H4 → F i y H4 → Z y H4) → (p i = false → ∀ H3, Same H H3 → Z2 H3) →
      g x (wipe σ vs) H' fun σ2 H2 => wipe σ2 vs = wipe σ vs ∧ tt σ2 H2 fun b H3 => if b = true then te σ2 H3 Z else Z2 H3)
    (hd : ∀ H acc, Same H1 H → H D = some (.lst acc) → Paired (fun i y => F i y H) ((List.range n).filter p) acc → Qd H) :
    ∃ W : Nat → Nat → Hp → Prop, (∃ m, W 0 m (upd H1 D (.lst []))) ∧ ∀ i m H, W i m H →
      (J.stop i H ∧ Qd H) ∨ (J.go i H ∧ ∃ Nx : Hp → Prop, (∀ H', Nx H' → ∃ m', m' < m ∧ W (i + 1) m' H') ∧ ∀ x H', J.yld i H x H' → g x (wipe σ vs) H' fun σ2 H2 => wipe σ2 vs = wipe σ vs ∧ tt σ2 H2 fun b H3 =>
        if b = true then te σ2 H3 fun y H4 => ∃ acc, H4 D = some (.lst acc) ∧ acc.length < sizeLine ∧ Nx (upd H4 D (.lst (acc ++ [y]))) else Nx H3) := by
  have small : ∀ {m : Nat}, m ≤ 100000 → m < sizeLine := fun {m} h => Nat.lt_of_le_of_lt h (by decide)
  refine lc_it w (fun i H => Same H1 H ∧ ∃ acc, H D = some (.lst acc) ∧ Paired (fun i y => F i y H) ((List.range i).filter p) acc) ⟨Same.new hD, [], upd_same, .nil⟩ (fun i H _ h => hG H h.1) ?_ ?_
  · rintro i x H H' hi ⟨s, acc, ha, pr⟩ y
    refine turn i x H H' hi s y _ _ (fun hp y H4 s4 f => ?_) (fun hp H3 s3 => ?_)
    · have a4 := s4 _ _ ha
      have lp := Paired.length pr
      have lf : ((List.range i).filter p).length ≤ i := Nat.le_trans (List.length_filter_le _ _) (by rw [List.length_range]; exact Nat.le_refl _)
      refine ⟨acc, a4, small (by omega), (s.trans s4).put hD, acc ++ [y], upd_same, ?_⟩
      rw [List.range_succ, List.filter_append]
      have one : List.filter p [i] = [i] := by simp [List.filter, hp]
      rw [one]
      exact stays_put hF a4 (paired_more (R := fun i y => F i y H4) f (stays_paired hF s4 pr))
    · refine ⟨s.trans s3, acc, s3 _ _ ha, ?_⟩
      rw [List.range_succ, List.filter_append]
      have one : List.filter p [i] = [] := by simp [List.filter, hp]
      rw [one, List.append_nil]
      exact stays_paired hF s3 pr
  · rintro H ⟨s, acc, ha, pr⟩
    exact hd H acc s ha pr
/-- all of them; the new list's place is taken meanwhile -/
theorem lc_mapD (w : Walk J n G Y) {g : TG} {te : TE} {vs : List Nat} {σ : L2.St} {H1 : Hp} {D : Addr} {Qd : Hp → Prop} (F : Nat → V → Hp → Prop) (hF : Stays F D) (hD : H1 D = none) (hn : n ≤ 100000)
    (hG : ∀ H, Same H1 H → G H)
    (turn : ∀ i x H H', i < n → Same H1 H → (∃ acc, H D = some (.lst acc)) → Y i H x H' → ∀ Z : V → Hp → Prop, (∀ y H4, Same H H4 → F i y H4 → Z y H4) →
      g x (wipe σ vs) H' fun σ2 H2 => wipe σ2 vs = wipe σ vs ∧ te σ2 H2 Z)
    (hd : ∀ H acc, Same H1 H → H D = some (.lst acc) → Paired (fun i y => F i y H) (List.range n) acc → Qd H) :
    ∃ W : Nat → Nat → Hp → Prop, (∃ m, W 0 m (upd H1 D (.lst []))) ∧ ∀ i m H, W i m H →
      (J.stop i H ∧ Qd H) ∨ (J.go i H ∧ ∃ Nx : Hp → Prop, (∀ H', Nx H' → ∃ m', m' < m ∧ W (i + 1) m' H') ∧ ∀ x H', J.yld i H x H' → g x (wipe σ vs) H' fun σ2 H2 => wipe σ2 vs = wipe σ vs ∧ tYes σ2 H2 fun b H3 =>
        if b = true then te σ2 H3 fun y H4 => ∃ acc, H4 D = some (.lst acc) ∧ acc.length < sizeLine ∧ Nx (upd H4 D (.lst (acc ++ [y]))) else Nx H3) := by
  have small : ∀ {m : Nat}, m ≤ 100000 → m < sizeLine := fun {m} h => Nat.lt_of_le_of_lt h (by decide)
  refine ⟨fun i m H => m = n - i ∧ i ≤ n ∧ Same H1 H ∧ ∃ acc, H D = some (.lst acc) ∧ Paired (fun i y => F i y H) (List.range i) acc, ⟨n, by simp, Nat.zero_le _, Same.new hD, [], upd_same, .nil⟩, ?_⟩
  rintro i m H ⟨rfl, hi, s, acc, ha, pr⟩
  have q := hG H s
  by_cases hlt : i < n
  · refine .inr ⟨w.goes i H hlt q, fun H' => Same H1 H' ∧ ∃ acc, H' D = some (.lst acc) ∧ Paired (fun i y => F i y H') (List.range (i + 1)) acc, fun H' p' => ⟨n - (i + 1), by omega, rfl, hlt, p'⟩, fun x H' y => ?_⟩
    have z := turn i x H H' hlt s ⟨acc, ha⟩ (w.yields i H x H' hlt q y) (fun y H4 => ∃ acc, H4 D = some (.lst acc) ∧ acc.length < sizeLine ∧ (Same H1 (upd H4 D (.lst (acc ++ [y]))) ∧ ∃ acc', (upd H4 D (.lst (acc ++ [y]))) D = some (.lst acc') ∧ Paired (fun i y' => F i y' (upd H4 D (.lst (acc ++ [y])))) (List.range (i + 1)) acc')) fun y H4 s4 f => by
      have a4 := s4 _ _ ha
      have lp := Paired.length pr
      rw [List.length_range] at lp
      refine ⟨acc, a4, small (by omega), (s.trans s4).put hD, acc ++ [y], upd_same, ?_⟩
      rw [List.range_succ]
      exact stays_put hF a4 (paired_more (R := fun i y => F i y H4) f (stays_paired hF s4 pr))
    exact z
  · have e : i = n := by omega
    subst e
    exact .inl ⟨w.stops H q, hd H acc s ha pr⟩
/-- all of them -/
theorem lc_map (w : Walk J n G Y) {g : TG} {te : TE} {vs : List Nat} {σ : L2.St} {H1 : Hp} {D : Addr} {Qd : Hp → Prop} (F : Nat → V → Hp → Prop) (hF : Stays F D) (hD : H1 D = none) (hn : n ≤ 100000)
    (hG : ∀ H, Same H1 H → G H)
    (turn : ∀ i x H H', i < n → Same H1 H → Y i H x H' → ∀ Z : V → Hp → Prop, (∀ y H4, Same H H4 → F i y H4 → Z y H4) →
      g x (wipe σ vs) H' fun σ2 H2 => wipe σ2 vs = wipe σ vs ∧ te σ2 H2 Z)
    (hd : ∀ H acc, Same H1 H → H D = some (.lst acc) → Paired (fun i y => F i y H) (List.range n) acc → Qd H) :
    ∃ W : Nat → Nat → Hp → Prop, (∃ m, W 0 m (upd H1 D (.lst []))) ∧ ∀ i m H, W i m H →
      (J.stop i H ∧ Qd H) ∨ (J.go i H ∧ ∃ Nx : Hp → Prop, (∀ H', Nx H' → ∃ m', m' < m ∧ W (i + 1) m' H') ∧ ∀ x H', J.yld i H x H' → g x (wipe σ vs) H' fun σ2 H2 => wipe σ2 vs = wipe σ vs ∧ tYes σ2 H2 fun b H3 =>
        if b = true then te σ2 H3 fun y H4 => ∃ acc, H4 D = some (.lst acc) ∧ acc.length < sizeLine ∧ Nx (upd H4 D (.lst (acc ++ [y]))) else Nx H3) := lc_mapD w F hF hD hn hG (fun i x H H' hi s _ y Z hz => turn i x H H' hi s y Z hz) hd
theorem walk_rg {m : Nat} : Walk (Itr 0 m) m (fun _ => True) (YFn fun i => .int (i : Nat)) :=
  (walk_range (lo := 0) (n := m)).mono (fun _ h => h) fun i H x H' _ _ y => ⟨y.1, by rw [y.2]; show V.int (0 + (i : Int)) = V.int i; rw [Int.zero_add]⟩
/-! what is made -/
def FInt (f : Nat → Int) : Nat → V → Hp → Prop := fun i y _ => y = .int (f i)
theorem stays_int {f : Nat → Int} {D : Addr} : Stays (FInt f) D := ⟨fun _ _ _ _ _ h => h, fun _ _ _ _ _ _ h => h⟩
def FTup (K : PySem.W.Frag) (f : Nat → List Int) : Nat → V → Hp → Prop := fun i y H => ∃ q, y = .ref q ∧ SqT K H q (tI (f i))
theorem stays_tup {K : PySem.W.Frag} {f : Nat → List Int} {D : Addr} : Stays (FTup K f) D :=
  ⟨fun _ _ _ _ s ⟨q, e, h⟩ => ⟨q, e, s.tup h⟩, fun _ _ _ _ _ hD ⟨q, e, h⟩ => ⟨q, e, tup_put h hD⟩⟩
theorem ints_of {f : Nat → Int} {H : Hp} : ∀ {is : List Nat} {acc : List V}, Paired (fun i y => FInt f i y H) is acc → acc = tI (is.map f)
  | _, _, .nil => rfl
  | _, _, .cons h t => by
    rw [ints_of t, h]
    rfl
theorem tups_of {K : PySem.W.Frag} {f : Nat → List Int} {H : Hp} : ∀ {is : List Nat} {acc : List V}, Paired (fun i y => FTup K f i y H) is acc → ∃ ps : List Addr, acc = ps.map V.ref ∧ Tups K H ps (is.map f)
  | _, _, .nil => ⟨[], rfl, .nil⟩
  | _, _, .cons ⟨q, e, h⟩ t => by
    obtain ⟨ps, e2, h2⟩ := tups_of t
    exact ⟨q :: ps, by rw [e, e2]; rfl, .cons h h2⟩
end
theorem no_part {σ : L2.St} {H : Hp} {Q : Option Int → Hp → Prop} (h : Q none H) : tNoPart σ H Q := h
theorem tups_app {K : PySem.W.Frag} {H : Hp} {qs : List Addr} {rows' : List (List Int)} (h : Tups K H qs rows') : ∀ {ps : List Addr} {rows : List (List Int)}, Tups K H ps rows → Tups K H (ps ++ qs) (rows ++ rows')
  | _, _, .nil => h
  | _, _, .cons a t => .cons a (tups_app h t)
/-! ### tuples of ints: cut and joined -/
section
variable {K : PySem.W.Frag} {H : Hp} {Q : VK} {a b : Addr} {r s : List Int}
theorem tI_len (r : List Int) : (tI r).length = r.length := by unfold tI; rw [List.length_map]
def cutI (r : List Int) (lo hi : Option Int) : List Int := (r.drop (HT.sIx r.length 0 lo)).take (HT.sIx r.length r.length hi - HT.sIx r.length 0 lo)
theorem cutI_tI (r : List Int) (lo hi : Option Int) : cutV (tI r) lo hi = tI (cutI r lo hi) := by
  unfold cutV cutI
  rw [tI_len]
  unfold tI
  rw [List.map_take, List.map_drop]
theorem cutI_from (r : List Int) (k : Nat) : cutI r (some (k : Int)) none = r.drop k := by
  unfold cutI
  rw [HT.sIx_nat, HT.sIx_none]
  by_cases h : k ≤ r.length
  · rw [Nat.min_eq_left h, List.take_of_length_le (by rw [List.length_drop]; omega)]
  · rw [Nat.min_eq_right (by omega), List.drop_of_length_le (Nat.le_refl _), List.drop_of_length_le (by omega), List.take_nil]
theorem cutI_to (r : List Int) (k : Nat) : cutI r none (some (k : Int)) = r.take k := by
  unfold cutI
  rw [HT.sIx_nat, HT.sIx_none, List.drop_zero, Nat.sub_zero]
  by_cases h : k ≤ r.length
  · rw [Nat.min_eq_left h]
  · rw [Nat.min_eq_right (by omega), List.take_of_length_le (by omega), List.take_of_length_le (by omega)]
theorem cut_tI {lo hi : Option Int} (h : SqT K H a (tI r)) (k : ∀ H' q, Same H H' → SqT K H' q (tI (cutI r lo hi)) → Q (.ref q) H') : rSlA K (.ref a) lo hi H Q := by
  refine ⟨a, tI r, rfl, h, fun e => ?_, fun _ p hp => k _ p (Same.new hp) (by rw [← cutI_tI]; exact SqT.of upd_same)⟩
  refine k H a (Same.refl H) ?_
  rw [tI_len] at e
  unfold cutI
  rw [e.1, e.2, List.drop_zero, Nat.sub_zero, List.take_length]
  exact h
theorem cat_tI (h1 : SqT K H a (tI r)) (h2 : SqT K H b (tI s)) (hz : r.length + s.length ≤ 100000) (k : ∀ H' q, Same H H' → SqT K H' q (tI (r ++ s)) → Q (.ref q) H') : rCatA K (.ref a) (.ref b) H Q := by
  have e : tI (r ++ s) = tI r ++ tI s := List.map_append
  refine ⟨a, b, tI r, tI s, rfl, rfl, h1, h2, ?_, fun z => k H b (Same.refl H) ?_, fun _ z => k H a (Same.refl H) ?_, fun _ _ p hp => k _ p (Same.new hp) (by rw [e]; exact SqT.of upd_same)⟩
  · rw [tI_len, tI_len]
    exact Nat.le_trans hz (by decide)
  · rw [e, z, List.nil_append]
    exact h2
  · rw [e, z, List.append_nil]
    exact h1
end
end Rf
/-! ## RfW1 -/
/-! looks: turned .. all_views -/
namespace Rf
open PySem PySem.Spec PyProof.Rows L2
section
variable {P : Program} {w : World} {K : PySem.W.Frag} {mg : Str → Option Value} {base : Heap}
def spTurned (K : PySem.W.Frag) : Sp := fun vs H Q _ => ∃ (p : Addr) (r : List Int) (k : Nat), vs = [.ref p, .int k] ∧ SqT K H p (tI r) ∧ r.length ≤ 50 ∧
  ∀ H' q, Same H H' → SqT K H' q (tI (turned r k)) → Q (.ref q) H'
theorem sc_turned : FnScope ["ring", "k"] ["ring", "k"] (defScope (top 1)) := ⟨rfl, rfl, rfl, by decide +kernel, rfl, by decide +kernel, by decide +kernel⟩
theorem ok_turned (D : GDef K mg "turned" (top 1) ["ring", "k"]) : Cal P w K mg base CX0 1 "turned" ["ring", "k"] (spTurned K) := by
  refine D.cal fun f fd F => F.ok sc_turned (fun vs H Q E h => ?_) (fun cdv A outer s H vs Q E hr h => ?_)
  · obtain ⟨p, r, k, rfl, _⟩ := h
    rfl
  · refine ⟨_, pss_one (ps_ret (pe_op op_catA (pe_slice sl_tupA (pv 0) (po_some (pv 1)) po_none) (pe_slice sl_tupA (pv 0) po_none (po_some (pv 1))))), ?_⟩
    obtain ⟨p, r, k, rfl, hp, hl, z⟩ := h
    refine ⟨_, rfl, _, rfl, _, rfl, no_part (cut_tI hp fun H1 q1 s1 t1 => ?_)⟩
    refine ⟨_, rfl, no_part ⟨_, rfl, _, rfl, cut_tI (s1.tup hp) fun H2 q2 s2 t2 => ?_⟩⟩
    rw [cutI_from] at t1
    rw [cutI_to] at t2
    refine cat_tI (s2.tup t1) t2 ?_ fun H3 q s3 t3 => z H3 q ((s1.trans s2).trans s3) t3
    rw [List.length_drop, List.length_take]
    omega
def spName (K : PySem.W.Frag) : Sp := fun vs H Q _ => ∃ (p : Addr) (r : List Int), vs = [.ref p] ∧ SqT K H p (tI r) ∧ r ≠ [] ∧ r.length ≤ 50 ∧
  ∀ H' q, Same H H' → SqT K H' q (tI (nameOf r)) → Q (.ref q) H'
theorem sc_name : FnScope ["ring", "mirrored", "both", "k"] ["ring"] (defScope (top 2)) := ⟨rfl, rfl, rfl, by decide +kernel, rfl, by decide +kernel, by decide +kernel⟩
theorem ok_name (B : Bts mg) (D : GDef K mg "name_of" (top 2) ["ring"]) (Ct : Cal P w K mg base CX0 1 "turned" ["ring", "k"] (spTurned K)) : Cal P w K mg base CX0 2 "name_of" ["ring"] (spName K) := by
  refine D.cal fun f fd F => F.ok sc_name (fun vs H Q E h => ?_) (fun cdv A outer s H vs Q E hr h => ?_)
  · obtain ⟨p, r, rfl, _⟩ := h
    rfl
  · have nd := sc_name.nd
    refine ⟨_, pss_cons (ps_set (i := 1) nd rfl (Or.inr rfl) (pe_back (pv 0) (po_some (pe_un un_neg pe_int))))
      (pss_cons (ps_set (i := 2) nd rfl (Or.inl rfl) (pe_op op_cat
        (pe_lc (own := [("k", 3)]) (g := gName 3) (tt := tYes) rfl nd (pi_range1 rfl B.range (pa_cons (pe_callB call_len_seq rfl B.len bt_len (pa_cons (pv 0) pa_nil)) pa_nil)) (blkOk_by (own := [("k", 3)]) (N := ["ring", "mirrored", "both", "k"]) (sc := defScope (top 2)) (by decide +kernel))
          (fun _ _ _ _ _ => pg_name (i := 3) nd rfl (Or.inl rfl)) (fun _ _ _ _ _ => pts_nil) (fun _ _ _ _ _ => pe_c Ct hr (pa_cons (pv 0) (pa_cons (pv 3) pa_nil))))
        (pe_lc (own := [("k", 3)]) (g := gName 3) (tt := tYes) rfl nd (pi_range1 rfl B.range (pa_cons (pe_callB call_len_seq rfl B.len bt_len (pa_cons (pv 0) pa_nil)) pa_nil)) (blkOk_by (own := [("k", 3)]) (N := ["ring", "mirrored", "both", "k"]) (sc := defScope (top 2)) (by decide +kernel))
          (fun _ _ _ _ _ => pg_name (i := 3) nd rfl (Or.inl rfl)) (fun _ _ _ _ _ => pts_nil) (fun _ _ _ _ _ => pe_c Ct hr (pa_cons (pv 1) (pa_cons (pv 3) pa_nil))))))
      (pss_one (ps_ret (pe_callB (cr_minRows rfl hr) rfl B.min bt_min (pa_cons (pv 2) pa_nil))))), ?_⟩
    obtain ⟨p, r, rfl, hp, hne, hl, z⟩ := h
    have pos : 0 < r.length := List.length_pos_iff.mpr hne
    have lr : (tI r).length = r.length := tI_len r
    refine ⟨_, rfl, _, rfl, _, rfl, p, tI r, rfl, rfl, hp, fun m hm => ?_⟩
    have s1 : Same H (upd H m (.tup (tI r).reverse)) := Same.new hm
    have hmr : SqT K (upd H m (.tup (tI r).reverse)) m (tI r.reverse) := by
      have e : tI r.reverse = (tI r).reverse := List.map_reverse
      rw [e]
      exact SqT.of upd_same
    refine ⟨_, rfl, p, tI r, rfl, .inr (s1.tup hp), _, rfl, by omega, by rw [lr]; omega, fun D hD => ?_⟩
    refine lc_map walk_rg (FTup K fun i => turned r i) stays_tup hD (by rw [lr]; omega) (fun _ _ => trivial) ?_ ?_
    · rintro i x H2 H3 hi s2 ⟨rfl, rfl⟩ Z hz
      exact ⟨rfl, _, rfl, _, rfl, p, r, i, rfl, s2.tup (s1.tup hp), hl, fun H4 q s4 h4 => hz _ H4 s4 ⟨q, rfl, h4⟩⟩
    · intro H2 acc s2 ha pr
      obtain ⟨ps, rfl, hps⟩ := tups_of pr
      refine ⟨_, rfl, p, tI r, rfl, .inr ((s1.trans s2).tup hp), _, rfl, by omega, by rw [lr]; omega, fun D2 hD2 => ?_⟩
      refine lc_map walk_rg (FTup K fun i => turned r.reverse i) stays_tup hD2 (by rw [lr]; omega) (fun _ _ => trivial) ?_ ?_
      · rintro i x H3 H4 hi s3 ⟨rfl, rfl⟩ Z hz
        exact ⟨rfl, _, rfl, _, rfl, m, r.reverse, i, rfl, s3.tup (s2.tup hmr), by rw [List.length_reverse]; exact hl, fun H5 q s5 h5 => hz _ H5 s5 ⟨q, rfl, h5⟩⟩
      · intro H3 acc2 s3 ha2 pr2
        obtain ⟨ps2, rfl, hps2⟩ := tups_of pr2
        have l1 : ps.length = r.length := by rw [hps.length, List.length_map, List.length_range, lr]; rfl
        have l2 : ps2.length = r.length := by rw [hps2.length, List.length_map, List.length_range, lr]; rfl
        refine ⟨_, _, _, _, rfl, rfl, s3 _ _ ha, ha2, ?_, fun b hb => ?_⟩
        · rw [List.length_map, List.length_map, l1, l2]
          exact Nat.le_trans (by omega : r.length + r.length ≤ 100000) (by decide)
        · have e : Rf.both r = (List.range r.length).map (fun i => turned r i) ++ (List.range r.length).map fun i => turned r.reverse i := rfl
          have s4 := Same.new (o := .lst (ps.map V.ref ++ ps2.map V.ref)) hb
          have hall : Tups K (upd H3 b (.lst (ps.map V.ref ++ ps2.map V.ref))) (ps ++ ps2) (Rf.both r) := by
            rw [e]
            rw [lr] at hps hps2
            exact tups_app (s4.tups hps2) (s4.tups (s3.tups hps))
          have hnm : nameOf r = match Rf.both r with | [] => [] | x :: l => leastOf l x := rfl
          cases hb2 : Rf.both r with
          | nil =>
            rw [hb2] at hall
            cases ps with
            | nil => simp at l1; omega
            | cons _ _ => cases hall
          | cons x rest =>
            rw [hb2] at hall hnm
            refine ⟨_, rfl, b, ps ++ ps2, x, rest, rfl, .of (by rw [List.map_append]; exact upd_same), hall, fun q hq hqt => ?_⟩
            exact z _ q (((s1.trans s2).trans s3).trans s4) (by rw [hnm]; exact hqt)
end
end Rf
/-! ## RfM1 -/
namespace Rf
/-! ### rings -/
theorem range_getD {α : Type} (d : α) : ∀ l : List α, (List.range l.length).map (fun i => l.getD i d) = l := by
  intro l
  apply List.ext_getElem
  · simp
  · intro i h1 h2
    simp [List.getD_eq_getElem?_getD, h2]
theorem range_filter {α : Type} (d : α) (P : α → Bool) (l : List α) : ((List.range l.length).filter fun i => P (l.getD i d)).map (fun i => l.getD i d) = l.filter P := by
  have h := List.filter_map (f := fun i => l.getD i d) (p := P) (l := List.range l.length)
  rw [range_getD] at h
  rw [h]
  rfl
theorem getD_of {α : Type} {l : List α} {i : Nat} {x d : α} (h : l[i]? = some x) : l.getD i d = x := by
  rw [List.getD_eq_getElem?_getD, h]
  rfl
theorem take_more {α : Type} {l : List α} {i : Nat} {x : α} (h : l[i]? = some x) : l.take (i + 1) = l.take i ++ [x] := by
  rw [List.take_add_one, h]
  rfl
theorem longer_app (k : Nat) (a b : List (List Int)) : longerRings k (a ++ b) = longerRings k a ++ longerRings k b := by
  unfold longerRings
  rw [List.flatMap_append]
theorem longer_one (k : Nat) (r : List Int) : longerRings k [r] = (List.range (k - r.sum.toNat + 1)).map fun (m : Nat) => r ++ [(m : Int)] := by
  unfold longerRings
  simp
structure RingOk (k n : Nat) (r : List Int) : Prop where
  len : r.length = n
  lo : 0 ≤ r.sum
  hi : r.sum ≤ k
  each : ∀ x ∈ r, 0 ≤ x ∧ x ≤ k
theorem ringsUp_ok (k : Nat) : ∀ n r, r ∈ ringsUp k n → RingOk k n r
  | 0, r, h => by
    have e : r = [] := by simpa [ringsUp] using h
    subst e
    exact ⟨rfl, by simp, by simp, by simp⟩
  | n + 1, r, h => by
    unfold ringsUp longerRings at h
    rw [List.mem_flatMap] at h
    obtain ⟨r0, h0, h⟩ := h
    rw [List.mem_map] at h
    obtain ⟨m, hm, rfl⟩ := h
    have ok := ringsUp_ok k n r0 h0
    have hm := List.mem_range.mp hm
    have := ok.lo
    have := ok.hi
    refine ⟨by rw [List.length_append, ok.len]; rfl, ?_, ?_, fun x hx => ?_⟩
    · rw [List.sum_append]; simp; omega
    · rw [List.sum_append]; simp; omega
    · rcases List.mem_append.mp hx with h | h
      · exact ok.each x h
      · have e : x = (m : Int) := by simpa using h
        subst e
        omega
theorem longer_len (k : Nat) : ∀ found : List (List Int), (longerRings k found).length ≤ (k + 1) * found.length
  | [] => by simp [longerRings]
  | r :: l => by
    have ih := longer_len k l
    have e : longerRings k (r :: l) = longerRings k [r] ++ longerRings k l := longer_app k [r] l
    rw [e, List.length_append, longer_one, List.length_map, List.length_range, List.length_cons]
    have : k - r.sum.toNat + 1 ≤ k + 1 := by omega
    rw [Nat.mul_add, Nat.mul_one]
    omega
theorem ringsUp_len (k : Nat) : ∀ n, (ringsUp k n).length ≤ (k + 1) ^ n
  | 0 => by simp [ringsUp]
  | n + 1 => by
    have ih := ringsUp_len k n
    have h := longer_len k (ringsUp k n)
    show (longerRings k (ringsUp k n)).length ≤ _
    refine Nat.le_trans h ?_
    rw [Nat.pow_succ, Nat.mul_comm ((k + 1) ^ n)]
    exact Nat.mul_le_mul_left _ ih
theorem pow_small {k n : Nat} (hk : k ≤ 3) (hn : n ≤ 7) : (k + 1) ^ n ≤ 16384 := by
  have h1 : (k + 1) ^ n ≤ 4 ^ n := Nat.pow_le_pow_left (by omega) n
  have h2 : (4 : Nat) ^ n ≤ 4 ^ 7 := Nat.pow_le_pow_right (by omega) hn
  exact Nat.le_trans h1 (Nat.le_trans h2 (by decide))
theorem ringsUp_small {k n : Nat} (hk : k ≤ 3) (hn : n ≤ 7) : (ringsUp k n).length ≤ 16384 := Nat.le_trans (ringsUp_len k n) (pow_small hk hn)
theorem allRings_ok {n k : Nat} {r : List Int} (h : r ∈ allRings n k) : RingOk k n r := ringsUp_ok k n r (List.mem_filter.mp h).1
end Rf
/-! ## RfW2 -/
namespace Rf
open PySem PySem.Spec PyProof.Rows L2
/-- a list, new or not, of tuples that hold these rows -/
def LsT (K : PySem.W.Frag) (H : Hp) (q : Addr) (rows : List (List Int)) : Prop := ∃ ps : List Addr, H q = some (.lst (ps.map V.ref)) ∧ Tups K H ps rows
theorem ref_at {ps : List Addr} {i : Nat} {y : V} (h : (ps.map V.ref)[i]? = some y) : ∃ p, ps[i]? = some p ∧ y = .ref p := by
  rw [List.getElem?_map] at h
  cases e : ps[i]? with
  | none =>
    rw [e] at h
    cases h
  | some p =>
    rw [e] at h
    exact ⟨p, rfl, (Option.some.inj h).symm⟩
theorem small_line {n : Nat} (h : n ≤ 1000000) : n ≤ sizeLine := Nat.le_trans h (by decide)
section
variable {P : Program} {w : World} {K : PySem.W.Frag} {mg : Str → Option Value} {base : Heap}
def spRings (K : PySem.W.Frag) : Sp := fun vs H Q _ => ∃ n k : Nat, vs = [.int n, .int k] ∧ n ≤ 7 ∧ k ≤ 3 ∧
  ∀ H' q, Same H H' → H q = none → LsT K H' q (allRings n k) → Q (.ref q) H'
abbrev nRings : List Str := ["places", "robots", "found", "place", "longer", "ring", "many"]
theorem sc_rings : FnScope nRings ["places", "robots"] (defScope (top 3)) := ⟨rfl, rfl, rfl, by decide +kernel, rfl, by decide +kernel, by decide +kernel⟩
theorem ok_rings (B : Bts mg) (D : GDef K mg "all_rings" (top 3) ["places", "robots"]) : Cal P w K mg base CX0 1 "all_rings" ["places", "robots"] (spRings K) := by
  refine D.cal fun f fd F => F.ok sc_rings (fun vs H Q E h => ?_) (fun cdv A outer s H vs Q E hr h => ?_)
  · obtain ⟨n, k, rfl, _⟩ := h
    rfl
  · have nd := sc_rings.nd
    refine ⟨_, pss_cons (ps_set (i := 2) nd rfl (Or.inl rfl) (pe_lst (pa_cons (pe_tup pa_nil) pa_nil)))
      (pss_cons (ps_for PassesOwn.never rfl (pi_range1 rfl B.range (pa_cons (pv 0) pa_nil)) (pg_name (i := 3) nd rfl (Or.inl rfl))
        (pss_cons (ps_set (i := 4) nd rfl (Or.inl rfl) (pe_lst pa_nil))
        (pss_cons (ps_for PassesOwn.never rfl (pi_list (pv 2)) (pg_name (i := 5) nd rfl (Or.inr rfl))
          (pss_one (ps_expr (pe_bm PySem.F.plainAttrs_list PySem.F.slot_list_extend PySem.F.type_list_extend mt_extend (pv 4) (pa_cons
            (pe_lc (own := [("many", 6)]) (g := gName 6) (tt := tYes) (te := tOp (rCatA K) (tVar 5) (tTup (tCons (tVar 6) tNil))) rfl nd (pi_range1 rfl B.range (pa_cons (pe_op op_add (pe_op op_sub (pv 1) (pe_callB (cr_sumT rfl) rfl B.sum bt_sum (pa_cons (pv 5) pa_nil))) pe_int) pa_nil)) (blkOk_by (own := [("many", 6)]) (N := nRings) (sc := defScope (top 3)) (by decide +kernel))
              (fun _ _ _ _ _ => pg_name (i := 6) nd rfl (Or.inl rfl)) (fun _ _ _ _ _ => pts_nil) (fun _ _ _ _ _ => pe_op op_catA (pv 5) (pe_tup (pa_cons (pv 6) pa_nil)))) pa_nil)))))
        (pss_one (ps_set (i := 2) nd rfl (Or.inl rfl) (pv 4))))))
      (pss_one (ps_ret (pe_lc (own := [("ring", 5)]) (g := gName 5) (tt := tTest (tOp rEq (tCB (rSumT K) (tCons (tVar 5) tNil)) (tVar 1))) rfl nd (pi_list (pv 2)) (blkOk_by (own := [("ring", 5)]) (N := nRings) (sc := defScope (top 3)) (by decide +kernel))
              (fun _ _ _ _ _ => pg_name (i := 5) nd rfl (Or.inl rfl)) (fun _ _ _ _ _ => pts_one (pt_cmpR op_eq (pe_callB (cr_sumT rfl) rfl B.sum bt_sum (pa_cons (pv 5) pa_nil)) (pv 1) (nomark _))) (fun _ _ _ _ _ => pv 5))))), ?_⟩
    obtain ⟨n, k, rfl, hn, hk, z⟩ := h
    refine ⟨(by show 0 ≤ sizeLine; decide), fun t ht => ⟨(by show 1 ≤ sizeLine; decide), fun f0 hf0 => ?_⟩⟩
    refine ⟨_, rfl, n, rfl, by omega, by omega, ?_⟩
    have s0 : Same H (upd (upd H t (.tup [])) f0 (.lst [.ref t])) := (Same.new ht).put ((Same.new ht).free hf0)
    refine for_it walk_rg (fun i σ H' => ∃ (fa : Addr) (v3 v4 v5 : Option V), σ = [some (.int n), some (.int k), some (.ref fa), v3, v4, v5, none] ∧ Same H H' ∧ H fa = none ∧ LsT K H' fa (ringsUp k i)) ?_ (fun _ _ _ _ _ => trivial) ?_ ?_
    · refine ⟨f0, none, none, none, rfl, s0, (Same.new ht).free hf0, [t], upd_same, .cons ?_ .nil⟩
      exact (Same.new hf0).tup (SqT.of upd_same)
    · rintro i x σ H2 H1 hi ⟨fa, v3, v4, v5, rfl, s1, hfa, ps, hl, hps⟩ ⟨rfl, rfl⟩
      refine ⟨(by show 0 ≤ sizeLine; decide), fun g hg => ?_⟩
      refine ⟨_, rfl, fa, rfl, ⟨_, .of ((Same.new hg) _ _ hl)⟩, ?_⟩
      have hin : i ≤ 7 := by
        have e : (n : Int).toNat = n := Int.toNat_natCast n
        omega
      have hrows := hps.length
      have hsm := ringsUp_small hk hin
      have pg := (Same.new (o := .lst []) hg)
      refine for_it (walk_list (K := K) (a := fa) (xs := ps.map V.ref)) (fun j σ H' => ∃ (v5 : Option V), σ = [some (.int n), some (.int k), some (.ref fa), some (.int i), some (.ref g), v5, none] ∧ Same H1 H' ∧ LsT K H' g (longerRings k ((ringsUp k i).take j))) ?_ ?_ ?_ ?_
      · exact ⟨v5, rfl, pg, [], upd_same, .nil⟩
      · rintro j σ H3 _ ⟨v, _, s3, _⟩
        exact .of (s3 _ _ hl)
      · rintro j y σ H4 H3 hj ⟨v, rfl, s3, ps2, hl2, hps2⟩ ⟨rfl, hy⟩
        obtain ⟨p, hp, rfl⟩ := ref_at hy
        obtain ⟨row, hrow, hpt⟩ := Paired.at hps j p hp
        have ok := ringsUp_ok k i row (List.mem_of_getElem? hrow)
        have := ok.lo
        have := ok.hi
        refine ⟨_, rfl, .inl ⟨rfl, _, .of hl2⟩, ?_⟩
        refine ⟨_, rfl, _, rfl, p, row, rfl, s3.tup hpt, _, _, rfl, rfl, _, _, rfl, rfl, _, rfl, by omega, by omega, fun b hb => ?_⟩
        refine lc_map walk_rg (FTup K fun m => row ++ [(m : Int)]) stays_tup hb ?_ (fun _ _ => trivial) ?_ ?_
        · omega
        · rintro m x H4 H5 hm s4 ⟨rfl, rfl⟩ Z hz
          refine ⟨rfl, _, rfl, _, rfl, (by show 1 ≤ sizeLine; decide), fun u hu => ?_⟩
          have s5 := (Same.new (o := .tup [V.int (m : Int)]) hu)
          refine cat_tI (r := row) (s := [(m : Int)]) (s5.tup (s4.tup (s3.tup hpt))) (SqT.of upd_same) ?_ fun H6 q s6 h6 => hz _ H6 (s5.trans s6) ⟨q, rfl, h6⟩
          rw [ok.len]
          show i + 1 ≤ 100000
          omega
        · intro H4 acc s4 ha pr
          obtain ⟨qs, rfl, hqs⟩ := tups_of pr
          have e : ((k : Int) - row.sum + 1).toNat = k - row.sum.toNat + 1 := by omega
          rw [e] at hqs
          have l1 : qs.length = k - row.sum.toNat + 1 := by rw [hqs.length, List.length_map, List.length_range]
          have l2 : ps2.length ≤ 4 * 16384 := by
            rw [hps2.length]
            refine Nat.le_trans (longer_len k _) ?_
            rw [List.length_take]
            exact Nat.mul_le_mul (by omega) (by omega)
          refine ⟨g, b, _, _, rfl, rfl, s4 _ _ hl2, ha, ?_, ?_⟩
          · rw [List.length_map, List.length_map]
            exact small_line (by omega)
          · have hl4 := s4 _ _ hl2
            have hg3 : H1 g = none := hg
            refine ⟨_, rfl, (s3.trans s4).put hg3, ps2 ++ qs, by rw [List.map_append]; exact upd_same, ?_⟩
            rw [take_more hrow, longer_app, longer_one]
            exact tups_app (tups_put hl4 hqs) (tups_put hl4 (s4.tups hps2))
      · rintro σ H3 ⟨v, rfl, s3, h3⟩
        have e : (ringsUp k i).take (ps.map V.ref).length = ringsUp k i := by
          rw [List.length_map, hrows, List.take_length]
        rw [e] at h3
        exact ⟨_, rfl, g, _, _, _, rfl, s1.trans s3, s1.free hg, h3⟩
    · rintro σ H1 ⟨fa, v3, v4, v5, rfl, s1, hfa, ps, hl, hps⟩
      have en : (n : Int).toNat = n := Int.toNat_natCast n
      rw [en] at hps
      refine ⟨_, rfl, fa, rfl, ⟨_, .of hl⟩, fun b hb => ?_⟩
      have hrows := hps.length
      have hsm := ringsUp_small hk hn
      refine lc_kept (walk_list (K := K) (a := fa) (xs := ps.map V.ref)) (fun i => decide (((ringsUp k n).getD i []).sum = (k : Int))) (FTup K fun i => (ringsUp k n).getD i []) stays_tup hb ?_ (fun H' s' => .of (s' _ _ hl)) ?_ ?_
      · rw [List.length_map]
        omega
      · rintro i x H2 H3 hi s2 ⟨rfl, hy⟩ Z Z2 z1 z2
        obtain ⟨p, hp, rfl⟩ := ref_at hy
        obtain ⟨row, hrow, hpt⟩ := Paired.at hps i p hp
        have hd := getD_of (d := []) hrow
        rw [hd] at z1 z2
        refine ⟨rfl, _, rfl, p, row, rfl, s2.tup hpt, _, rfl, rfl, _, rfl, ?_⟩
        rw [show decide (V.int row.sum = V.int (k : Int)) = decide (row.sum = (k : Int)) from by simp]
        cases c : decide (row.sum = (k : Int)) with
        | true => exact iteT ⟨_, rfl, z1 c _ _ (Same.refl _) ⟨p, rfl, by show SqT K _ p (tI ((ringsUp k n).getD i [])); rw [hd]; exact s2.tup hpt⟩⟩
        | false => exact iteF (z2 c _ (Same.refl _))
      · intro H2 acc s2 ha pr
        obtain ⟨qs, rfl, hqs⟩ := tups_of pr
        refine z H2 b (s1.trans s2) (s1.free hb) ⟨qs, ha, ?_⟩
        rw [List.length_map, hrows, range_filter [] (fun r => decide (r.sum = (k : Int)))] at hqs
        exact hqs
end
end Rf
/-! ## RfM2 -/
namespace Rf
/-! ### the order of rows -/
theorem lt_irrefl : ∀ a : List Int, ltI a a = false
  | [] => rfl
  | x :: l => by
    unfold ltI
    rw [if_pos rfl]
    exact lt_irrefl l
theorem lt_trans : ∀ {a b c : List Int}, ltI a b = true → ltI b c = true → ltI a c = true
  | [], _, [], _, h2 => by unfold ltI at h2; cases h2
  | [], _, _ :: _, _, _ => rfl
  | x :: a, [], _, h1, _ => by unfold ltI at h1; cases h1
  | x :: a, y :: b, [], _, h2 => by unfold ltI at h2; cases h2
  | x :: a, y :: b, z :: c, h1, h2 => by
    unfold ltI at h1 h2 ⊢
    by_cases e1 : x = y
    · rw [if_pos e1] at h1
      by_cases e2 : y = z
      · rw [if_pos e2] at h2
        rw [if_pos (e1.trans e2)]
        exact lt_trans h1 h2
      · rw [if_neg e2] at h2
        rw [if_neg (by rw [e1]; exact e2), e1]
        exact h2
    · rw [if_neg e1] at h1
      have h1 := of_decide_eq_true h1
      by_cases e2 : y = z
      · rw [if_pos e2] at h2
        rw [if_neg (by rw [← e2]; exact e1), ← e2]
        exact decide_eq_true h1
      · rw [if_neg e2] at h2
        have h2 := of_decide_eq_true h2
        rw [if_neg (by omega)]
        exact decide_eq_true (by omega)
theorem lt_total : ∀ {a b : List Int}, a ≠ b → ltI a b = false → ltI b a = true
  | [], [], h, _ => absurd rfl h
  | [], _ :: _, _, h => by unfold ltI at h; cases h
  | x :: a, [], _, _ => rfl
  | x :: a, y :: b, h, h1 => by
    unfold ltI at h1 ⊢
    by_cases e : x = y
    · rw [if_pos e] at h1
      rw [if_pos e.symm]
      exact lt_total (fun z => h (by rw [e, z])) h1
    · rw [if_neg e] at h1
      rw [if_neg (fun z => e z.symm)]
      have h1 := of_decide_eq_false h1
      exact decide_eq_true (by omega)
theorem mem_putIn {x : List Int} : ∀ {l : List (List Int)} {y : List Int}, y ∈ putIn x l ↔ y = x ∨ y ∈ l
  | [], y => by simp [putIn]
  | z :: l, y => by
    unfold putIn
    split
    · rename_i e
      subst e
      simp
    · split
      · simp
      · rw [List.mem_cons, mem_putIn (l := l), List.mem_cons]
        constructor
        · rintro (h | h | h) <;> simp [h]
        · rintro (h | h | h) <;> simp [h]
theorem mem_inOrder : ∀ {l : List (List Int)} {y : List Int}, y ∈ inOrder l ↔ y ∈ l
  | [], _ => Iff.rfl
  | x :: l, y => by
    show y ∈ putIn x (inOrder l) ↔ _
    rw [mem_putIn, mem_inOrder, List.mem_cons]
abbrev Rising (l : List (List Int)) : Prop := l.Pairwise fun a b => ltI a b = true
theorem rising_putIn {x : List Int} : ∀ {l : List (List Int)}, Rising l → Rising (putIn x l)
  | [], _ => List.pairwise_singleton _ _
  | z :: l, h => by
    unfold putIn
    split
    · exact h
    · rename_i hne
      have hp := List.pairwise_cons.mp h
      split
      · rename_i hlt
        refine List.pairwise_cons.mpr ⟨fun b hb => ?_, h⟩
        rcases List.mem_cons.mp hb with e | hb
        · rw [e]; exact hlt
        · exact lt_trans hlt (hp.1 b hb)
      · rename_i hnl
        refine List.pairwise_cons.mpr ⟨fun b hb => ?_, rising_putIn hp.2⟩
        rcases mem_putIn.mp hb with e | hb
        · rw [e]
          exact lt_total hne (by simpa using hnl)
        · exact hp.1 b hb
theorem rising_inOrder : ∀ l : List (List Int), Rising (inOrder l)
  | [] => List.Pairwise.nil
  | _ :: l => rising_putIn (rising_inOrder l)
theorem rising_same : ∀ {l m : List (List Int)}, Rising l → Rising m → (∀ x, x ∈ l ↔ x ∈ m) → l = m
  | [], [], _, _, _ => rfl
  | [], y :: m, _, _, h => absurd ((h y).mpr List.mem_cons_self) (by simp)
  | x :: l, [], _, _, h => absurd ((h x).mp List.mem_cons_self) (by simp)
  | x :: l, y :: m, hl, hm, h => by
    have pl := List.pairwise_cons.mp hl
    have pm := List.pairwise_cons.mp hm
    have e : x = y := by
      rcases List.mem_cons.mp ((h x).mp List.mem_cons_self) with e | h1
      · exact e
      · rcases List.mem_cons.mp ((h y).mpr List.mem_cons_self) with e | h2
        · exact e.symm
        · have z := lt_trans (pl.1 y h2) (pm.1 x h1)
          rw [lt_irrefl] at z
          cases z
    subst e
    congr 1
    refine rising_same pl.2 pm.2 fun z => ⟨fun hz => ?_, fun hz => ?_⟩
    · rcases List.mem_cons.mp ((h z).mp (List.mem_cons_of_mem _ hz)) with e | h1
      · have q := pl.1 z hz
        rw [e, lt_irrefl] at q
        cases q
      · exact h1
    · rcases List.mem_cons.mp ((h z).mpr (List.mem_cons_of_mem _ hz)) with e | h1
      · have q := pm.1 z hz
        rw [e, lt_irrefl] at q
        cases q
      · exact h1
end Rf
/-! ## RfM3 -/
namespace Rf
theorem leastOf_mem : ∀ (l : List (List Int)) (m : List Int), leastOf l m = m ∨ leastOf l m ∈ l
  | [], m => .inl rfl
  | x :: l, m => by
    unfold leastOf
    rcases leastOf_mem l (if ltI x m then x else m) with e | h
    · rw [e]
      split
      · exact .inr List.mem_cons_self
      · exact .inl rfl
    · exact .inr (List.mem_cons_of_mem _ h)
theorem nameOf_mem {r : List Int} (h : r ≠ []) : nameOf r ∈ Rf.both r := by
  unfold nameOf
  cases e : Rf.both r with
  | nil =>
    have l : (Rf.both r).length = r.length + r.length := by simp [Rf.both]
    rw [e] at l
    have := List.length_pos_iff.mpr h
    simp at l
    omega
  | cons x l =>
    show leastOf l x ∈ x :: l
    rcases leastOf_mem l x with e | h
    · rw [e]; exact List.mem_cons_self
    · exact List.mem_cons_of_mem _ h
theorem turned_ok {k n i : Nat} {r : List Int} (h : RingOk k n r) : RingOk k n (turned r i) := by
  have hs : (turned r i).sum = r.sum := by
    unfold turned
    rw [List.sum_append, Int.add_comm, ← List.sum_append, List.take_append_drop]
  refine ⟨?_, by rw [hs]; exact h.lo, by rw [hs]; exact h.hi, fun x hx => ?_⟩
  · unfold turned
    rw [List.length_append, List.length_drop, List.length_take, ← h.len]
    omega
  · unfold turned at hx
    rcases List.mem_append.mp hx with z | z
    · exact h.each x (List.mem_of_mem_drop z)
    · exact h.each x (List.mem_of_mem_take z)
theorem reverse_ok {k n : Nat} {r : List Int} (h : RingOk k n r) : RingOk k n r.reverse := by
  have hs : r.reverse.sum = r.sum := by rw [List.sum_reverse]
  exact ⟨by rw [List.length_reverse]; exact h.len, by rw [hs]; exact h.lo, by rw [hs]; exact h.hi, fun x hx => h.each x (List.mem_reverse.mp hx)⟩
theorem both_ok {k n : Nat} {r x : List Int} (h : RingOk k n r) (hx : x ∈ Rf.both r) : RingOk k n x := by
  unfold Rf.both at hx
  rcases List.mem_append.mp hx with z | z
  · obtain ⟨i, _, rfl⟩ := List.mem_map.mp z
    exact turned_ok h
  · obtain ⟨i, _, rfl⟩ := List.mem_map.mp z
    exact turned_ok (reverse_ok h)
theorem nameOf_ok {k n : Nat} {r : List Int} (h : RingOk k n r) (hn : 0 < n) : RingOk k n (nameOf r) :=
  both_ok h (nameOf_mem fun z => by have := h.len; rw [z] at this; simp at this; omega)
/-- the numbers that a case may have -/
structure Good (n k : Nat) : Prop where
  n3 : 3 ≤ n
  n7 : n ≤ 7
  k1 : 1 ≤ k
  k3 : k ≤ 3
theorem names_ok {n k : Nat} (g : Good n k) {x : List Int} (h : x ∈ allNames n k) : RingOk k n x := by
  obtain ⟨r, hr, rfl⟩ := List.mem_map.mp (mem_inOrder.mp h)
  exact nameOf_ok (allRings_ok hr) (by have := g.n3; omega)
def goodAll (p : Nat → Nat → Bool) : Bool := [3, 4, 5, 6, 7].all fun n => [1, 2, 3].all fun k => p n k
theorem good_all {p : Nat → Nat → Bool} (h : goodAll p = true) {n k : Nat} (g : Good n k) : p n k = true := by
  unfold goodAll at h
  rw [List.all_eq_true] at h
  have h1 := h n (by have := g.n3; have := g.n7; simp; omega)
  rw [List.all_eq_true] at h1
  exact h1 k (by have := g.k1; have := g.k3; simp; omega)
theorem names_few0 : goodAll (fun n k => decide (allNames n k ≠ [] ∧ (allNames n k).length ≤ 8)) = true := by decide +kernel
theorem names_few {n k : Nat} (g : Good n k) : allNames n k ≠ [] ∧ (allNames n k).length ≤ 8 := of_decide_eq_true (good_all names_few0 g)
end Rf
/-! ## RfW3 -/
namespace Rf
open PySem PySem.Spec PyProof.Rows L2
/-! ### sorted(set(rows)) -/
theorem code_lt_iff {B : Int} : ∀ {a b : List Int}, a.length = b.length → TS.Bd B a → TS.Bd B b → ltI a b = true → TS.code B a < TS.code B b
  | [], [], _, _, _, h => by unfold ltI at h; cases h
  | [], _ :: _, hl, _, _, _ => by simp at hl
  | _ :: _, [], hl, _, _, _ => by simp at hl
  | x :: a, y :: b, hl, h1, h2, h => by
    have hl' : a.length = b.length := by simpa using hl
    unfold ltI at h
    by_cases e : x = y
    · rw [if_pos e] at h
      subst e
      exact (TS.code_same hl').mpr (code_lt_iff hl' h1.tail h2.tail h)
    · rw [if_neg e] at h
      exact TS.code_lt hl' h1.tail h2.tail (of_decide_eq_true h)
theorem rising_of_code {B : Int} {d : Nat} : ∀ {l : List (Addr × List Int)}, (∀ p ∈ l, p.2.length = d ∧ TS.Bd B p.2) → (l.map (·.2)).Nodup → l.Pairwise (fun q r => TS.code B q.2 ≤ TS.code B r.2) → Rising (l.map (·.2))
  | [], _, _, _ => List.Pairwise.nil
  | p :: l, hb, nd, pw => by
    have nd' := List.nodup_cons.mp nd
    have pw' := List.pairwise_cons.mp pw
    refine List.pairwise_cons.mpr ⟨fun x hx => ?_, rising_of_code (fun q hq => hb q (List.mem_cons_of_mem _ hq)) nd'.2 pw'.2⟩
    obtain ⟨q, hq, rfl⟩ := List.mem_map.mp hx
    have h1 := hb p List.mem_cons_self
    have h2 := hb q (List.mem_cons_of_mem _ hq)
    have hle := pw'.1 q hq
    cases c : ltI p.2 q.2 with
    | true => rfl
    | false =>
      have z := code_lt_iff (h2.1.trans h1.1.symm) h2.2 h1.2 (lt_total (fun e => nd'.1 (by show p.2 ∈ _; rw [e]; exact hx)) c)
      omega
theorem tups_pairs {K : PySem.W.Frag} {H : Hp} : ∀ {ps : List Addr} {rows : List (List Int)}, Tups K H ps rows → (ps.zip rows).map (·.1) = ps ∧ (ps.zip rows).map (·.2) = rows ∧ ∀ p ∈ ps.zip rows, SqT K H p.1 (tI p.2)
  | _, _, .nil => ⟨rfl, rfl, fun _ h => nomatch h⟩
  | _, _, .cons h t => by
    obtain ⟨e1, e2, e3⟩ := tups_pairs t
    refine ⟨by simp [e1], by simp [e2], fun p hp => ?_⟩
    rcases List.mem_cons.mp hp with e | hp
    · rw [e]; exact h
    · exact e3 p hp
theorem tups_of_pairs {K : PySem.W.Frag} {H : Hp} : ∀ {l : List (Addr × List Int)}, (∀ p ∈ l, SqT K H p.1 (tI p.2)) → Tups K H (l.map (·.1)) (l.map (·.2))
  | [], _ => .nil
  | p :: l, h => .cons (h p List.mem_cons_self) (tups_of_pairs fun q hq => h q (List.mem_cons_of_mem _ hq))
/-- sorted(set(xs)), xs a list of tuples of ints of one length, few unlike ones -/
theorem sorted_rows {K : PySem.W.Frag} {P : Program} {w : World} {H : Hp} {l : Addr} {rows : List (List Int)} {Q : VK} {d : Nat} {B : Int} (D : List (List Int)) (hl : LsT K H l rows) (hd : 1 ≤ d) (hb : ∀ r ∈ rows, r.length = d ∧ TS.Bd B r) (hD : ∀ r ∈ rows, r ∈ D) (hDl : D.length ≤ 62)
    (k : ∀ H' p, Same H H' → H p = none → LsT K H' p (inOrder rows) → Q (.ref p) H') : rSetTups K P w [.ref l] H fun x H1 => rSortedT K P w [x] H1 Q := by
  obtain ⟨ps, hl, hps⟩ := hl
  obtain ⟨e1, e2, e3⟩ := tups_pairs hps
  have inr : ∀ p ∈ ps.zip rows, p.2 ∈ rows := fun p hp => by
    rw [← e2]
    exact List.mem_map.mpr ⟨p, hp, rfl⟩
  refine ⟨l, ps.zip rows, D, rfl, ?_, e3, fun p hp => hD _ (inr p hp), hDl, fun a L ha sub all => ?_⟩
  · have e : (ps.zip rows).map (fun p => V.ref p.1) = ps.map V.ref := by
      rw [← e1, List.map_map, e1]
      rfl
    rw [e]
    exact .of hl
  · have s1 := Same.new (o := SetTO P w a L) ha
    refine ⟨a, L, d, B, rfl, upd_same, fun p hp => s1.tup (e3 p (sub p hp)), hd, fun p hp => hb _ (inr p (sub p hp)), fun L' p perm nd _ pw hp => ?_⟩
    have s2 := Same.new (o := .lst (L'.map fun q => V.ref q.1)) hp
    refine k _ p (s1.trans s2) (s1.free hp) ⟨L'.map (·.1), by rw [upd_same, List.map_map]; rfl, ?_⟩
    have e : L'.map (·.2) = inOrder rows := by
      refine rising_same (rising_of_code (B := B) (d := d) (fun q hq => hb _ (inr q (sub q (perm.mem_iff.mp hq)))) nd pw) (rising_inOrder _) fun x => ?_
      rw [mem_inOrder]
      constructor
      · intro hx
        obtain ⟨q, hq, rfl⟩ := List.mem_map.mp hx
        exact inr q (sub q (perm.mem_iff.mp hq))
      · intro hx
        rw [← e2] at hx
        obtain ⟨q, hq, rfl⟩ := List.mem_map.mp hx
        obtain ⟨q', hq', e'⟩ := List.mem_map.mp (all q hq)
        exact List.mem_map.mpr ⟨q', perm.mem_iff.mpr hq', e'⟩
    rw [← e]
    exact tups_of_pairs fun q hq => s2.tup (s1.tup (e3 q (sub q (perm.mem_iff.mp hq))))
section
variable {P : Program} {w : World} {K : PySem.W.Frag} {mg : Str → Option Value} {base : Heap}
/-! ### all_names -/
def spNames (K : PySem.W.Frag) : Sp := fun vs H Q _ => ∃ n k : Nat, vs = [.int n, .int k] ∧ Good n k ∧
  ∀ H' q, Same H H' → H q = none → LsT K H' q (allNames n k) → Q (.ref q) H'
abbrev nNames : List Str := ["places", "robots", "ring"]
theorem sc_names : FnScope nNames ["places", "robots"] (defScope (top 4)) := ⟨rfl, rfl, rfl, by decide +kernel, rfl, by decide +kernel, by decide +kernel⟩
theorem ringOk_bd {k n : Nat} {r : List Int} (h : RingOk k n r) (hk : k ≤ 3) : r.length = n ∧ TS.Bd 4 r := ⟨h.len, fun m hm => by have := h.each m hm; omega⟩
theorem ok_names (B : Bts mg) (D : GDef K mg "all_names" (top 4) ["places", "robots"]) (Cn : Cal P w K mg base CX0 2 "name_of" ["ring"] (spName K)) (Cr : Cal P w K mg base CX0 1 "all_rings" ["places", "robots"] (spRings K)) :
    Cal P w K mg base CX0 3 "all_names" ["places", "robots"] (spNames K) := by
  refine D.cal fun f fd F => F.ok sc_names (fun vs H Q E h => ?_) (fun cdv A outer s H vs Q E hr h => ?_)
  · obtain ⟨n, k, rfl, _⟩ := h
    rfl
  · have nd := sc_names.nd
    refine ⟨_, pss_one (ps_ret (pe_callB (cr_sortedT rfl) rfl B.sorted bt_sorted (pa_cons (pe_callTy (cr_setTups rfl hr) rfl B.set bt_set (pa_cons
      (pe_lc (own := [("ring", 2)]) (g := gName 2) (tt := tYes) rfl nd (pi_list (pe_c Cr hr (pa_cons (pv 0) (pa_cons (pv 1) pa_nil)))) (blkOk_by (own := [("ring", 2)]) (N := nNames) (sc := defScope (top 4)) (by decide +kernel))
        (fun _ _ _ _ _ => pg_name (i := 2) nd rfl (Or.inl rfl)) (fun _ _ _ _ _ => pts_nil) (fun _ _ _ _ _ => pe_c Cn hr (pa_cons (pv 2) pa_nil))) pa_nil)) pa_nil))), ?_⟩
    obtain ⟨n, k, rfl, g, z⟩ := h
    have hn3 := g.n3
    have hn7 := g.n7
    have hk3 := g.k3
    refine ⟨_, rfl, _, rfl, n, k, rfl, hn7, hk3, fun H1 q1 s1 f1 l1 => ?_⟩
    obtain ⟨ps, hl, hps⟩ := l1
    have hrows := hps.length
    have hsm : (allRings n k).length ≤ 16384 := Nat.le_trans (List.length_filter_le _ _) (ringsUp_small (n := n) hk3 hn7)
    refine ⟨q1, rfl, ⟨_, .of hl⟩, fun b hb => ?_⟩
    refine lc_map (walk_list (K := K) (a := q1) (xs := ps.map V.ref)) (FTup K fun i => nameOf ((allRings n k).getD i [])) stays_tup hb ?_ (fun H' s' => .of (s' _ _ hl)) ?_ ?_
    · rw [List.length_map, hrows]
      exact Nat.le_trans hsm (by decide)
    · rintro i x H2 H3 hi s2 ⟨rfl, hy⟩ Z hz
      obtain ⟨p, hp, rfl⟩ := ref_at hy
      obtain ⟨row, hrow, hpt⟩ := Paired.at hps i p hp
      have ok := allRings_ok (List.mem_of_getElem? hrow)
      have hd := getD_of (d := []) hrow
      refine ⟨rfl, _, rfl, p, row, rfl, s2.tup hpt, fun e => by have := ok.len; rw [e] at this; simp at this; omega, by have := ok.len; omega, fun H4 q s4 h4 => hz _ H4 s4 ⟨q, rfl, ?_⟩⟩
      show SqT K H4 q (tI (nameOf ((allRings n k).getD i [])))
      rw [hd]
      exact h4
    · intro H2 acc s2 ha pr
      obtain ⟨qs, rfl, hqs⟩ := tups_of pr
      have e : (List.range (ps.map V.ref).length).map (fun i => nameOf ((allRings n k).getD i [])) = (allRings n k).map nameOf := by
        rw [List.length_map, hrows]
        have h := congrArg (List.map nameOf) (range_getD ([] : List Int) (allRings n k))
        rw [List.map_map] at h
        exact h
      rw [e] at hqs
      refine sorted_rows (B := 4) (d := n) (allNames n k) ⟨qs, ha, hqs⟩ (by omega) (fun r hr => ?_) (fun r hr => mem_inOrder.mpr hr) (Nat.le_trans (names_few g).2 (by decide)) fun H3 p s3 f3 l3 => z H3 p ((s1.trans s2).trans s3) (s1.free (s2.free f3)) l3
      exact ringOk_bd (names_ok g (mem_inOrder.mpr hr)) hk3
/-! ### seen, row_from -/
def spSeen (K : PySem.W.Frag) : Sp := fun vs H Q _ => ∃ (x : Int) (e : Nat), vs = [.int x, .int e] ∧ e ≤ 2 ∧ ∀ H', Same H H' → Q (.int (seenI x e)) H'
theorem sc_seen : FnScope ["many", "eyes"] ["many", "eyes"] (defScope (top 5)) := ⟨rfl, rfl, rfl, by decide +kernel, rfl, by decide +kernel, by decide +kernel⟩
theorem ok_seen (B : Bts mg) (D : GDef K mg "seen" (top 5) ["many", "eyes"]) : Cal P w K mg base CX0 1 "seen" ["many", "eyes"] (spSeen K) := by
  refine D.cal fun f fd F => F.ok sc_seen (fun vs H Q E h => ?_) (fun cdv A outer s H vs Q E hr h => ?_)
  · obtain ⟨x, e, rfl, _⟩ := h
    rfl
  · have nd := sc_seen.nd
    refine ⟨_, pss_one (ps_ret (pe_callB (call_min2 rfl) rfl B.min bt_min (pa_cons (pv 0) (pa_cons (pe_ix ix_list (pe_lst (pa_cons (pv 0) (pa_cons pe_int (pa_cons pe_int pa_nil)))) (pv 1) (fun _ _ => rfl)) pa_nil)))), ?_⟩
    obtain ⟨x, e, rfl, he, z⟩ := h
    refine ⟨_, rfl, _, rfl, (by show 3 ≤ sizeLine; decide), fun p hp => ⟨_, rfl, ?_⟩⟩
    have s1 := Same.new (o := .lst [V.int x, V.int 2, V.int 1]) hp
    match e, he with
    | 0, _ =>
      refine ⟨p, _, 0, _, rfl, rfl, .of upd_same, rfl, x, x, rfl, ?_⟩
      have e : (if x < x then x else x) = seenI x 0 := by simp [seenI]
      rw [e]
      exact z _ s1
    | 1, _ =>
      refine ⟨p, _, 1, _, rfl, rfl, .of upd_same, rfl, x, 2, rfl, ?_⟩
      have e : (if (2 : Int) < x then 2 else x) = seenI x 1 := by
        show _ = min x 2
        omega
      rw [e]
      exact z _ s1
    | 2, _ =>
      refine ⟨p, _, 2, _, rfl, rfl, .of upd_same, rfl, x, 1, rfl, ?_⟩
      have e : (if (1 : Int) < x then 1 else x) = seenI x 2 := by
        show _ = min x 1
        omega
      rw [e]
      exact z _ s1
end
end Rf
/-! ## RfW4 -/
namespace Rf
open PySem PySem.Spec PyProof.Rows L2
abbrev rAdd : R2 := rI0 fun i j => .int (i + j)
abbrev rSub : R2 := rI0 fun i j => .int (i - j)
abbrev rMul : R2 := rI CMul fun i j => .int (i * j)
abbrev rMod : R2 := rI (fun _ j => j ≠ 0) fun i j => .int (i.fmod j)
abbrev rLt : R2 := rI0 fun i j => .bl (decide (i < j))
abbrev rLe : R2 := rI0 fun i j => .bl (decide (i ≤ j))
abbrev rGt : R2 := rI0 fun i j => .bl (decide (j < i))
abbrev rGe : R2 := rI0 fun i j => .bl (decide (j ≤ i))
abbrev rLen (K : PySem.W.Frag) : List V → Hp → VK → Prop := fun xs H Q => ∃ p ys, xs = [.ref p] ∧ (SqL K H p ys ∨ SqT K H p ys) ∧ Q (.int ys.length) H
/-! ### equal lists and tuples of ints -/
def dI (ns : List Int) : List PyData := ns.map PyData.int
theorem dI_lay : ∀ ns : List Int, PyData.canLayAll0 (dI ns) = true
  | [] => by simp [dI, PyData.canLayAll0]
  | n :: ns => by
    have h := dI_lay ns
    unfold dI at h ⊢
    simp only [List.map_cons, PyData.canLayAll0, PyData.canLay0, h, Bool.and_true]
theorem dI_depth : ∀ ns : List Int, PyData.depthAll (dI ns) = 0
  | [] => by simp [dI, PyData.depthAll]
  | n :: ns => by
    have h := dI_depth ns
    unfold dI at h ⊢
    simp only [List.map_cons, PyData.depthAll, PyData.depth, h]
    rfl
theorem dI_eqv : ∀ ns ms : List Int, PyData.eqvAll (dI ns) (dI ms) = decide (ns = ms)
  | [], [] => by simp [dI, PyData.eqvAll]
  | [], m :: ms => by simp [dI, PyData.eqvAll]
  | n :: ns, [] => by simp [dI, PyData.eqvAll]
  | n :: ns, m :: ms => by
    have h := dI_eqv ns ms
    unfold dI at h ⊢
    simp only [List.map_cons, PyData.eqvAll, PyData.eqv, h]
    rw [Bool.eq_iff_iff]
    simp
theorem dI_shapedT (ns : List Int) : SeqAt.shaped (.tuple (dI ns)) = true := by
  show (PyData.canLay0 (.tuple (dI ns)) && decide (PyData.depth (.tuple (dI ns)) ≤ 64)) = true
  rw [Bool.and_eq_true]
  exact ⟨by simp only [PyData.canLay0]; exact dI_lay ns, decide_eq_true (by simp only [PyData.depth, dI_depth]; decide)⟩
theorem dI_shapedL (ns : List Int) : SeqAt.shaped (.list (dI ns)) = true := by
  show (PyData.canLay0 (.list (dI ns)) && decide (PyData.depth (.list (dI ns)) ≤ 64)) = true
  rw [Bool.and_eq_true]
  exact ⟨by simp only [PyData.canLay0]; exact dI_lay ns, decide_eq_true (by simp only [PyData.depth, dI_depth]; decide)⟩
theorem dpAll_I {K : PySem.W.Frag} {H : Hp} : ∀ ns : List Int, DpAll K H (tI ns) (dI ns)
  | [] => .nil
  | n :: ns => .cons (.int n) (dpAll_I ns)
section
variable {K : PySem.W.Frag} {H : Hp} {Q : VK} {a b : Addr} {r s : List Int}
theorem eq_tups (h1 : SqT K H a (tI r)) (h2 : SqT K H b (tI s)) (q : Q (.bl (decide (r = s))) H) : rEqD K (.ref a) (.ref b) H Q := by
  refine ⟨_, _, .tup h1 (dpAll_I r), .tup h2 (dpAll_I s), dI_shapedT r, dI_shapedT s, ?_⟩
  have e : PyData.eqv (.tuple (dI r)) (.tuple (dI s)) = decide (r = s) := by
    simp only [PyData.eqv]
    exact dI_eqv r s
  rw [e]
  exact q
theorem eq_lists (h1 : SqL K H a (tI r)) (h2 : SqL K H b (tI s)) (q : Q (.bl (decide (r = s))) H) : rEqD K (.ref a) (.ref b) H Q := by
  refine ⟨_, _, .lst h1 (dpAll_I r), .lst h2 (dpAll_I s), dI_shapedL r, dI_shapedL s, ?_⟩
  have e : PyData.eqv (.list (dI r)) (.list (dI s)) = decide (r = s) := by
    simp only [PyData.eqv]
    exact dI_eqv r s
  rw [e]
  exact q
theorem ne_lists (h1 : SqL K H a (tI r)) (h2 : SqL K H b (tI s)) (q : Q (.bl (!decide (r = s))) H) : rNeD K (.ref a) (.ref b) H Q := by
  refine ⟨_, _, .lst h1 (dpAll_I r), .lst h2 (dpAll_I s), dI_shapedL r, dI_shapedL s, ?_⟩
  have e : PyData.eqv (.list (dI r)) (.list (dI s)) = decide (r = s) := by
    simp only [PyData.eqv]
    exact dI_eqv r s
  rw [e]
  exact q
theorem lt_tups (h1 : SqT K H a (tI r)) (h2 : SqT K H b (tI s)) (q : Q (.bl (ltI r s)) H) : rLtT K (.ref a) (.ref b) H Q :=
  ⟨a, b, r, s, rfl, rfl, h1, h2, by rw [lexLt_is]; exact q⟩
theorem ints_at {ns : List Int} {i : Nat} (h : i < ns.length) : atI (tI ns) (i : Int) = some (.int (ns.getD i 0)) := by
  apply atI_nat
  unfold tI
  rw [List.getElem?_map, List.getD_eq_getElem?_getD, List.getElem?_eq_getElem h]
  rfl
end
theorem fmod_fwd {p k n : Nat} (hn : 0 < n) : ((p : Int) + 1 * (k : Int)).fmod (n : Int) = (((p + k) % n : Nat) : Int) := by
  rw [Int.one_mul, Int.fmod_eq_emod_of_nonneg _ (by omega), ← Int.natCast_add]
  exact (Int.natCast_emod (p + k) n).symm
theorem fmod_back {p k n : Nat} (hn : 0 < n) (hk : k ≤ n) : ((p : Int) + -1 * (k : Int)).fmod (n : Int) = (((p + (n - k)) % n : Nat) : Int) := by
  rw [Int.fmod_eq_emod_of_nonneg _ (by omega)]
  have e : (p : Int) + -1 * (k : Int) = ((p + (n - k) : Nat) : Int) + (n : Int) * -1 := by omega
  rw [e, Int.add_mul_emod_self_left]
  exact (Int.natCast_emod (p + (n - k)) n).symm
section
variable {P : Program} {w : World} {K : PySem.W.Frag} {mg : Str → Option Value} {base : Heap}
/-! ### row_from, side_of, view_of, is_even_handed -/
def rowBy (b : Bool) (r : List Int) (p e : Nat) : List Int := if b = true then rowF r p e else rowB r p e
def spRow (K : PySem.W.Frag) : Sp := fun vs H Q _ => ∃ (q : Addr) (r : List Int) (p e : Nat) (b : Bool), vs = [.ref q, .int p, .int e, .int (if b = true then 1 else -1)] ∧ SqT K H q (tI r) ∧ r.length ≤ 50 ∧ p < r.length ∧ e ≤ 2 ∧
  ∀ H' q, Same H H' → SqT K H' q (tI (rowBy b r p e)) → Q (.ref q) H'
abbrev nRow : List Str := ["ring", "place", "eyes", "way", "k"]
theorem sc_row : FnScope nRow ["ring", "place", "eyes", "way"] (defScope (top 6)) := ⟨rfl, rfl, rfl, by decide +kernel, rfl, by decide +kernel, by decide +kernel⟩
theorem ok_row (B : Bts mg) (D : GDef K mg "row_from" (top 6) ["ring", "place", "eyes", "way"]) (Cs : Cal P w K mg base CX0 1 "seen" ["many", "eyes"] (spSeen K)) : Cal P w K mg base CX0 2 "row_from" ["ring", "place", "eyes", "way"] (spRow K) := by
  refine D.cal fun f fd F => F.ok sc_row (fun vs H Q E h => ?_) (fun cdv A outer s H vs Q E hr h => ?_)
  · obtain ⟨q, r, p, e, b, rfl, _⟩ := h
    rfl
  · have nd := sc_row.nd
    refine ⟨_, pss_one (ps_ret (pe_callTy call_tuple_of rfl B.tuple bt_tuple (pa_cons
      (pe_lc (own := [("k", 4)]) (g := gName 4) (tt := tYes) (te := tCall (spSeen K) [] E0 (tCons (tOp (rIxT K) (tVar 0) (tOp rMod (tOp rAdd (tVar 1) (tOp rMul (tVar 3) (tVar 4))) (tCB (rLen K) (tCons (tVar 0) tNil)))) (tCons (tVar 2) tNil))) rfl nd
        (pi_range1 rfl B.range (pa_cons (pe_callB call_len_seq rfl B.len bt_len (pa_cons (pv 0) pa_nil)) pa_nil)) (blkOk_by (own := [("k", 4)]) (N := nRow) (sc := defScope (top 6)) (by decide +kernel))
        (fun _ _ _ _ _ => pg_name (i := 4) nd rfl (Or.inl rfl)) (fun _ _ _ _ _ => pts_nil)
        (fun _ _ _ _ _ => pe_c Cs hr (pa_cons (pe_ix ix_tup (pv 0) (pe_op op_modN (pe_op op_add (pv 1) (pe_op op_mul (pv 3) (pv 4))) (pe_callB call_len_seq rfl B.len bt_len (pa_cons (pv 0) pa_nil))) (fun _ _ => rfl)) (pa_cons (pv 2) pa_nil)))) pa_nil))), ?_⟩
    obtain ⟨q, r, p, e, b, rfl, hq, hl, hp, he, z⟩ := h
    have lr : (tI r).length = r.length := tI_len r
    refine ⟨_, rfl, q, tI r, rfl, .inr hq, _, rfl, by omega, by rw [lr]; omega, fun D hD => ?_⟩
    refine lc_map walk_rg (FInt fun k => seenI (r.getD (if b = true then (p + k) % r.length else (p + (r.length - k)) % r.length) 0) e) stays_int hD (by omega) (fun _ _ => trivial) ?_ ?_
    · rintro i x H2 H3 hi s2 ⟨rfl, rfl⟩ Z hz
      have hi' : i < r.length := by omega
      have lp : 0 < r.length := by omega
      refine ⟨rfl, _, rfl, _, rfl, _, rfl, _, rfl, _, _, rfl, rfl, ?_, _, _, rfl, rfl, _, rfl, q, tI r, rfl, .inr (s2.tup hq), _, _, rfl, rfl, by rw [lr]; omega, q, tI r, _, _, rfl, rfl, s2.tup hq, ?_, _, rfl, _, e, rfl, he, fun H4 s4 => hz _ H4 s4 rfl⟩
      · refine .inr ⟨by omega, by omega⟩
      · have hm1 : (p + i) % r.length < r.length := Nat.mod_lt _ lp
        have hm2 : (p + (r.length - i)) % r.length < r.length := Nat.mod_lt _ lp
        cases b with
        | true =>
          show atI (tI r) (((p : Int) + 1 * (i : Int)).fmod ((tI r).length : Int)) = some (.int (r.getD ((p + i) % r.length) 0))
          rw [lr, fmod_fwd lp]
          exact ints_at hm1
        | false =>
          show atI (tI r) (((p : Int) + -1 * (i : Int)).fmod ((tI r).length : Int)) = some (.int (r.getD ((p + (r.length - i)) % r.length) 0))
          rw [lr, fmod_back lp (by omega)]
          exact ints_at hm2
    · intro H2 acc s2 ha pr
      have ea := ints_of pr
      rw [lr] at ea
      have en : ((r.length : Int)).toNat = r.length := Int.toNat_natCast _
      rw [en] at ea
      refine ⟨D, _, rfl, .inl ⟨.of ha, fun u hu => z _ u (s2.trans (Same.new hu)) ?_⟩⟩
      have e2 : acc = tI (rowBy b r p e) := by
        rw [ea]
        cases b <;> rfl
      rw [e2]
      exact SqT.of upd_same
def spSide (K : PySem.W.Frag) : Sp := fun vs H Q _ => ∃ (q : Addr) (r : List Int) (p e : Nat), vs = [.ref q, .int p, .int e] ∧ SqT K H q (tI r) ∧ r.length ≤ 50 ∧ p < r.length ∧ e ≤ 2 ∧
  ∀ H', Same H H' → Q (.int (sideOf r p e)) H'
abbrev nSide : List Str := ["ring", "place", "eyes", "one", "other"]
theorem sc_side : FnScope nSide ["ring", "place", "eyes"] (defScope (top 7)) := ⟨rfl, rfl, rfl, by decide +kernel, rfl, by decide +kernel, by decide +kernel⟩
theorem ok_side (D : GDef K mg "side_of" (top 7) ["ring", "place", "eyes"]) (Cr : Cal P w K mg base CX0 2 "row_from" ["ring", "place", "eyes", "way"] (spRow K)) : Cal P w K mg base CX0 3 "side_of" ["ring", "place", "eyes"] (spSide K) := by
  refine D.cal fun f fd F => F.ok sc_side (fun vs H Q E h => ?_) (fun cdv A outer s H vs Q E hr h => ?_)
  · obtain ⟨q, r, p, e, rfl, _⟩ := h
    rfl
  · have nd := sc_side.nd
    refine ⟨_, pss_cons (ps_par (i := 3) (j := 4) (by rfl) nd rfl rfl (by decide) rfl rfl (pa_cons (pe_c Cr hr (pa_cons (pv 0) (pa_cons (pv 1) (pa_cons (pv 2) (pa_cons pe_int pa_nil))))) (pa_cons (pe_c Cr hr (pa_cons (pv 0) (pa_cons (pv 1) (pa_cons (pv 2) (pa_cons (pe_un un_neg pe_int) pa_nil))))) pa_nil)) (by rfl))
      (pss_cons (ps_if (pt_cmpR (op_eqD hr.units) (pv 3) (pv 4) (nomark _)) (pss_one (ps_ret pe_int)) pss_nil)
      (pss_cons (ps_if (pt_cmpR (op_ltT hr.units0) (pv 3) (pv 4) (nomark _)) (pss_one (ps_ret pe_int)) pss_nil)
      (pss_one (ps_ret (pe_un un_neg pe_int))))), ?_⟩
    obtain ⟨q, r, p, e, rfl, hq, hl, hp, he, z⟩ := h
    refine ⟨_, rfl, _, rfl, _, rfl, q, r, p, e, true, rfl, hq, hl, hp, he, fun H1 q1 s1 t1 => ?_⟩
    refine ⟨_, rfl, _, rfl, _, rfl, _, rfl, q, r, p, e, false, rfl, s1.tup hq, hl, hp, he, fun H2 q2 s2 t2 => ⟨_, _, rfl, ?_⟩⟩
    have t1 := s2.tup t1
    have s := s1.trans s2
    refine ⟨_, rfl, _, rfl, eq_tups t1 t2 ⟨_, rfl, ?_⟩⟩
    unfold rowBy at t1 t2 ⊢
    rw [if_pos rfl] at t1 ⊢
    rw [if_neg Bool.false_ne_true] at t2 ⊢
    have z := z H2 s
    unfold sideOf at z
    by_cases c : rowF r p e = rowB r p e
    · rw [if_pos c] at z
      exact if_true_of (decide_eq_true c) z
    · rw [if_neg c] at z
      refine if_false_of (decide_eq_false c) ?_
      refine ⟨_, rfl, _, rfl, lt_tups t1 t2 ⟨_, rfl, ?_⟩⟩
      cases c2 : ltI (rowF r p e) (rowB r p e) with
      | true =>
        rw [c2, if_pos rfl] at z
        exact iteT z
      | false =>
        rw [c2, if_neg Bool.false_ne_true] at z
        exact iteF ⟨_, rfl, z⟩
def spView (K : PySem.W.Frag) : Sp := fun vs H Q _ => ∃ (q : Addr) (r : List Int) (p e : Nat), vs = [.ref q, .int p, .int e] ∧ SqT K H q (tI r) ∧ r.length ≤ 50 ∧ p < r.length ∧ e ≤ 2 ∧
  ∀ H' q, Same H H' → SqT K H' q (tI (viewOf r p e)) → Q (.ref q) H'
abbrev nView : List Str := ["ring", "place", "eyes"]
theorem sc_view : FnScope nView ["ring", "place", "eyes"] (defScope (top 8)) := ⟨rfl, rfl, rfl, by decide +kernel, rfl, by decide +kernel, by decide +kernel⟩
theorem ok_view (B : Bts mg) (D : GDef K mg "view_of" (top 8) ["ring", "place", "eyes"]) (Cr : Cal P w K mg base CX0 2 "row_from" ["ring", "place", "eyes", "way"] (spRow K)) : Cal P w K mg base CX0 3 "view_of" ["ring", "place", "eyes"] (spView K) := by
  refine D.cal fun f fd F => F.ok sc_view (fun vs H Q E h => ?_) (fun cdv A outer s H vs Q E hr h => ?_)
  · obtain ⟨q, r, p, e, rfl, _⟩ := h
    rfl
  · have nd := sc_view.nd
    refine ⟨_, pss_one (ps_ret (pe_callB (cr_min2 rfl hr) rfl B.min bt_min (pa_cons (pe_c Cr hr (pa_cons (pv 0) (pa_cons (pv 1) (pa_cons (pv 2) (pa_cons pe_int pa_nil))))) (pa_cons (pe_c Cr hr (pa_cons (pv 0) (pa_cons (pv 1) (pa_cons (pv 2) (pa_cons (pe_un un_neg pe_int) pa_nil))))) pa_nil)))), ?_⟩
    obtain ⟨q, r, p, e, rfl, hq, hl, hp, he, z⟩ := h
    refine ⟨_, rfl, _, rfl, _, rfl, q, r, p, e, true, rfl, hq, hl, hp, he, fun H1 q1 s1 t1 => ?_⟩
    refine ⟨_, rfl, _, rfl, _, rfl, _, rfl, q, r, p, e, false, rfl, s1.tup hq, hl, hp, he, fun H2 q2 s2 t2 => ?_⟩
    have t1 := s2.tup t1
    have s := s1.trans s2
    unfold rowBy at t1 t2
    rw [if_pos rfl] at t1
    rw [if_neg Bool.false_ne_true] at t2
    refine ⟨q1, q2, _, _, rfl, t1, t2, ?_⟩
    by_cases c : ltI (rowB r p e) (rowF r p e) = true
    · rw [if_pos c]
      refine z H2 q2 s ?_
      unfold viewOf
      rw [if_pos c]
      exact t2
    · rw [if_neg c]
      refine z H2 q1 s ?_
      unfold viewOf
      rw [if_neg c]
      exact t1
def spEven (K : PySem.W.Frag) : Sp := fun vs H Q _ => ∃ (q : Addr) (v : List Int), vs = [.ref q] ∧ SqT K H q (tI v) ∧ v.length ≤ 50 ∧ ∀ H', Same H H' → Q (.bl (isEven v)) H'
theorem sc_even : FnScope ["row"] ["row"] (defScope (top 9)) := ⟨rfl, rfl, rfl, by decide +kernel, rfl, by decide +kernel, by decide +kernel⟩
theorem ok_even (D : GDef K mg "is_even_handed" (top 9) ["row"]) : Cal P w K mg base CX0 1 "is_even_handed" ["row"] (spEven K) := by
  refine D.cal fun f fd F => F.ok sc_even (fun vs H Q E h => ?_) (fun cdv A outer s H vs Q E hr h => ?_)
  · obtain ⟨q, v, rfl, _⟩ := h
    rfl
  · have nd := sc_even.nd
    refine ⟨_, pss_one (ps_ret (pe_cmpR (op_eqD hr.units) (pe_slice sl_tupA (pv 0) (po_some pe_int) po_none) (pe_back (pe_slice sl_tupA (pv 0) (po_some pe_int) po_none) (po_some (pe_un un_neg pe_int))) (nomark _))), ?_⟩
    obtain ⟨q, v, rfl, hq, hl, z⟩ := h
    refine ⟨_, rfl, _, rfl, no_part (cut_tI hq fun H1 q1 s1 t1 => ?_)⟩
    refine ⟨_, rfl, _, rfl, no_part (cut_tI (s1.tup hq) fun H2 q2 s2 t2 => ?_)⟩
    refine ⟨_, rfl, _, rfl, q2, _, rfl, rfl, t2, fun p hp => ?_⟩
    have e : (tI (cutI v (some 1) none)).reverse = tI (cutI v (some 1) none).reverse := List.map_reverse.symm
    rw [e]
    have s3 := Same.new (o := .tup (tI (cutI v (some 1) none).reverse)) hp
    refine eq_tups (s3.tup (s2.tup t1)) (SqT.of upd_same) ?_
    have e2 : decide (cutI v (some 1) none = (cutI v (some 1) none).reverse) = isEven v := by
      have h := cutI_from v 1
      have h : cutI v (some 1) none = v.drop 1 := h
      unfold isEven
      rw [h]
    rw [e2]
    exact z _ ((s1.trans s2).trans s3)
def spHad (K : PySem.W.Frag) : Sp := fun vs H Q _ => ∃ (q : Addr) (r : List Int), vs = [.ref q] ∧ SqT K H q (tI r) ∧ r.length ≤ 50 ∧
  ∀ H' q, Same H H' → H q = none → H' q = some (.lst (tI ((hadPlaces r).map fun (i : Nat) => (i : Int)))) → Q (.ref q) H'
theorem sc_had : FnScope ["ring", "place"] ["ring"] (defScope (top 10)) := ⟨rfl, rfl, rfl, by decide +kernel, rfl, by decide +kernel, by decide +kernel⟩
theorem ok_had (B : Bts mg) (D : GDef K mg "had_places" (top 10) ["ring"]) : Cal P w K mg base CX0 1 "had_places" ["ring"] (spHad K) := by
  refine D.cal fun f fd F => F.ok sc_had (fun vs H Q E h => ?_) (fun cdv A outer s H vs Q E hr h => ?_)
  · obtain ⟨q, r, rfl, _⟩ := h
    rfl
  · have nd := sc_had.nd
    refine ⟨_, pss_one (ps_ret (pe_lc (own := [("place", 1)]) (g := gName 1) (tt := tTest (tOp rGt (tOp (rIxT K) (tVar 0) (tVar 1)) (tC (.int 0)))) rfl nd
        (pi_range1 rfl B.range (pa_cons (pe_callB call_len_seq rfl B.len bt_len (pa_cons (pv 0) pa_nil)) pa_nil)) (blkOk_by (own := [("place", 1)]) (N := ["ring", "place"]) (sc := defScope (top 10)) (by decide +kernel))
        (fun _ _ _ _ _ => pg_name (i := 1) nd rfl (Or.inl rfl)) (fun _ _ _ _ _ => pts_one (pt_cmpR op_gt (pe_ix ix_tup (pv 0) (pv 1) (fun _ _ => rfl)) pe_int (nomark _)))
        (fun _ _ _ _ _ => pv 1))), ?_⟩
    obtain ⟨q, r, rfl, hq, hl, z⟩ := h
    have lr : (tI r).length = r.length := tI_len r
    refine ⟨_, rfl, q, tI r, rfl, .inr hq, _, rfl, by omega, by rw [lr]; omega, fun D hD => ?_⟩
    refine lc_kept walk_rg (fun i => decide (0 < r.getD i 0)) (FInt fun i => (i : Int)) stays_int hD (by omega) (fun _ _ => trivial) ?_ ?_
    · rintro i x H2 H3 hi s2 ⟨rfl, rfl⟩ Z Z2 z1 z2
      have hi' : i < r.length := by omega
      refine ⟨rfl, _, rfl, _, rfl, q, tI r, _, _, rfl, rfl, s2.tup hq, ints_at hi', _, _, rfl, rfl, _, rfl, ?_⟩
      cases c : decide (0 < r.getD i 0) with
      | true => exact iteT ⟨_, rfl, z1 c _ _ (Same.refl _) rfl⟩
      | false => exact iteF (z2 c _ (Same.refl _))
    · intro H2 acc s2 ha pr
      have ea := ints_of pr
      rw [lr] at ea
      have en : ((r.length : Int)).toNat = r.length := Int.toNat_natCast _
      rw [en] at ea
      subst ea
      exact z H2 D s2 hD ha
end
end Rf
/-! ## RfM4 -/
namespace Rf
/-! ### views -/
structure RowOk (k n : Nat) (r : List Int) : Prop where
  len : r.length = n
  each : ∀ x ∈ r, 0 ≤ x ∧ x ≤ k
theorem seen_ok {x : Int} {k e : Nat} (h : 0 ≤ x ∧ x ≤ k) : 0 ≤ seenI x e ∧ seenI x e ≤ k := by
  unfold seenI
  split
  · exact h
  · split <;> omega
theorem getD_ok {k n : Nat} {r : List Int} (h : RingOk k n r) (i : Nat) : 0 ≤ r.getD i 0 ∧ r.getD i 0 ≤ k := by
  rw [List.getD_eq_getElem?_getD]
  cases e : r[i]? with
  | none => simp
  | some x => exact h.each x (List.mem_of_getElem? e)
theorem rowF_ok {k n : Nat} {r : List Int} (h : RingOk k n r) (p e : Nat) : RowOk k n (rowF r p e) := by
  unfold rowF
  refine ⟨by rw [List.length_map, List.length_range, h.len], fun x hx => ?_⟩
  obtain ⟨i, _, rfl⟩ := List.mem_map.mp hx
  exact seen_ok (getD_ok h _)
theorem rowB_ok {k n : Nat} {r : List Int} (h : RingOk k n r) (p e : Nat) : RowOk k n (rowB r p e) := by
  unfold rowB
  refine ⟨by rw [List.length_map, List.length_range, h.len], fun x hx => ?_⟩
  obtain ⟨i, _, rfl⟩ := List.mem_map.mp hx
  exact seen_ok (getD_ok h _)
theorem viewOf_ok {k n : Nat} {r : List Int} (h : RingOk k n r) (p e : Nat) : RowOk k n (viewOf r p e) := by
  unfold viewOf
  split
  · exact rowB_ok h p e
  · exact rowF_ok h p e
theorem mem_had {r : List Int} {p : Nat} (h : p ∈ hadPlaces r) : p < r.length := List.mem_range.mp (List.mem_filter.mp h).1
theorem had_len (r : List Int) : (hadPlaces r).length ≤ r.length := by
  have h := List.length_filter_le (fun p => decide (0 < r.getD p 0)) (List.range r.length)
  rw [List.length_range] at h
  exact h
theorem views_flat {names : List (List Int)} {e k n : Nat} (h : ∀ r ∈ names, RingOk k n r) {x : List Int} (hx : x ∈ names.flatMap fun r => viewsIn r e) : RowOk k n x := by
  obtain ⟨r, hr, hx⟩ := List.mem_flatMap.mp hx
  obtain ⟨p, _, rfl⟩ := List.mem_map.mp hx
  exact viewOf_ok (h r hr) p e
theorem flat_len : ∀ (l : List (List Int)) (e j : Nat), (∀ r ∈ l, (hadPlaces r).length ≤ 7) → ((l.take j).flatMap fun r => viewsIn r e).length ≤ 7 * j
  | [], e, j, _ => by simp
  | r :: l, e, 0, _ => by simp
  | r :: l, e, j + 1, h => by
    have ih := flat_len l e j fun x hx => h x (List.mem_cons_of_mem _ hx)
    have h1 := h r List.mem_cons_self
    rw [List.take_succ_cons, List.flatMap_cons, List.length_append]
    have : (viewsIn r e).length = (hadPlaces r).length := by unfold viewsIn; rw [List.length_map]
    omega
theorem views_few0 : goodAll (fun n k => [0, 1, 2].all fun e => decide (allViews (allNames n k) e ≠ [] ∧ (allViews (allNames n k) e).length ≤ 16)) = true := by decide +kernel
theorem views_few {n k e : Nat} (g : Good n k) (he : e ≤ 2) : allViews (allNames n k) e ≠ [] ∧ (allViews (allNames n k) e).length ≤ 16 := by
  have h := good_all views_few0 g
  rw [List.all_eq_true] at h
  exact of_decide_eq_true (h e (by simp; omega))
end Rf
/-! ## RfW5 -/
namespace Rf
open PySem PySem.Spec PyProof.Rows L2
abbrev tN (l : List Nat) : List V := tI (l.map fun (i : Nat) => (i : Int))
theorem tN_len (l : List Nat) : (tN l).length = l.length := by unfold tN tI; rw [List.length_map, List.length_map]
theorem nat_at {l : List Nat} {i : Nat} {y : V} (h : (tN l)[i]? = some y) : ∃ p, l[i]? = some p ∧ y = .int (p : Nat) := by
  unfold tN tI at h
  rw [List.getElem?_map, List.getElem?_map] at h
  cases e : l[i]? with
  | none =>
    rw [e] at h
    cases h
  | some p =>
    rw [e] at h
    exact ⟨p, rfl, (Option.some.inj h).symm⟩
theorem nat_at' {l : List Nat} {i p : Nat} (h : l[i]? = some p) : (tN l)[i]? = some (.int (p : Nat)) := by
  unfold tN tI
  rw [List.getElem?_map, List.getElem?_map, h]
  rfl
section
variable {P : Program} {w : World} {K : PySem.W.Frag} {mg : Str → Option Value} {base : Heap}
def spViews (K : PySem.W.Frag) : Sp := fun vs H Q _ => ∃ (q : Addr) (n k e : Nat), vs = [.ref q, .int e] ∧ LsT K H q (allNames n k) ∧ Good n k ∧ e ≤ 2 ∧
  ∀ H' q, Same H H' → H q = none → LsT K H' q (allViews (allNames n k) e) → Q (.ref q) H'
abbrev nViews : List Str := ["names", "eyes", "found", "ring", "place"]
theorem sc_views : FnScope nViews ["names", "eyes"] (defScope (top 11)) := ⟨rfl, rfl, rfl, by decide +kernel, rfl, by decide +kernel, by decide +kernel⟩
theorem ok_views (B : Bts mg) (D : GDef K mg "all_views" (top 11) ["names", "eyes"]) (Ch : Cal P w K mg base CX0 1 "had_places" ["ring"] (spHad K)) (Cv : Cal P w K mg base CX0 3 "view_of" ["ring", "place", "eyes"] (spView K)) :
    Cal P w K mg base CX0 4 "all_views" ["names", "eyes"] (spViews K) := by
  refine D.cal fun f fd F => F.ok sc_views (fun vs H Q E h => ?_) (fun cdv A outer s H vs Q E hr h => ?_)
  · obtain ⟨q, n, k, e, rfl, _⟩ := h
    rfl
  · have nd := sc_views.nd
    refine ⟨_, pss_cons (ps_set (i := 2) nd rfl (Or.inl rfl) (pe_lst pa_nil))
      (pss_cons (ps_for PassesOwn.never rfl (pi_list (pv 0)) (pg_name (i := 3) nd rfl (Or.inr rfl))
        (pss_one (ps_expr (pe_bm PySem.F.plainAttrs_list PySem.F.slot_list_extend PySem.F.type_list_extend mt_extend (pv 2) (pa_cons
          (pe_lc (own := [("place", 4)]) (g := gName 4) (tt := tYes) rfl nd (pi_list (pe_c Ch hr (pa_cons (pv 3) pa_nil))) (blkOk_by (own := [("place", 4)]) (N := nViews) (sc := defScope (top 11)) (by decide +kernel))
            (fun _ _ _ _ _ => pg_name (i := 4) nd rfl (Or.inl rfl)) (fun _ _ _ _ _ => pts_nil) (fun _ _ _ _ _ => pe_c Cv hr (pa_cons (pv 3) (pa_cons (pv 4) (pa_cons (pv 1) pa_nil))))) pa_nil)))))
      (pss_one (ps_ret (pe_callB (cr_sortedT rfl) rfl B.sorted bt_sorted (pa_cons (pe_callTy (cr_setTups rfl hr) rfl B.set bt_set (pa_cons (pv 2) pa_nil)) pa_nil))))), ?_⟩
    obtain ⟨q, n, k, e, rfl, ⟨ps, hl, hps⟩, g, he, z⟩ := h
    have hn3 := g.n3
    have hn7 := g.n7
    have hk3 := g.k3
    have hrows := hps.length
    have hsm := (names_few g).2
    refine ⟨(by show 0 ≤ sizeLine; decide), fun u hu => ?_⟩
    have s0 := Same.new (o := .lst []) hu
    refine ⟨_, rfl, q, rfl, ⟨_, .of (s0 _ _ hl)⟩, ?_⟩
    refine for_it (walk_list (K := K) (a := q) (xs := ps.map V.ref)) (fun j σ H' => ∃ (v3 : Option V), σ = [some (.ref q), some (.int e), some (.ref u), v3, none] ∧ Same H H' ∧ LsT K H' u (((allNames n k).take j).flatMap fun r => viewsIn r e)) ?_ ?_ ?_ ?_
    · exact ⟨none, rfl, s0, [], upd_same, .nil⟩
    · rintro j σ H3 _ ⟨v, _, s3, _⟩
      exact .of (s3 _ _ hl)
    · rintro j y σ H4 H3 hj ⟨v, rfl, s3, ps2, hl2, hps2⟩ ⟨rfl, hy⟩
      obtain ⟨p, hp, rfl⟩ := ref_at hy
      obtain ⟨row, hrow, hpt⟩ := Paired.at hps j p hp
      have hmem := List.mem_of_getElem? hrow
      have ok := names_ok g hmem
      have lrow := ok.len
      have hj8 : j < 8 := by
        have := (List.getElem?_eq_some_iff.mp hrow).1
        omega
      refine ⟨_, rfl, .inl ⟨rfl, _, .of hl2⟩, ?_⟩
      refine ⟨_, rfl, p, row, rfl, s3.tup hpt, by omega, fun H4 c s4 fc hc => ?_⟩
      have hlen := had_len row
      refine ⟨c, rfl, ⟨_, .of hc⟩, fun b hb => ?_⟩
      refine lc_map (walk_list (K := K) (a := c) (xs := tN (hadPlaces row))) (FTup K fun i => viewOf row ((hadPlaces row).getD i 0) e) stays_tup hb ?_ (fun H' s' => .of (s' _ _ hc)) ?_ ?_
      · rw [tN_len]
        omega
      · rintro i x H5 H6 hi s5 ⟨rfl, hx⟩ Z hz
        obtain ⟨pl, hpl, rfl⟩ := nat_at hx
        have hlt := mem_had (List.mem_of_getElem? hpl)
        refine ⟨rfl, _, rfl, _, rfl, _, rfl, p, row, pl, e, rfl, s5.tup (s4.tup (s3.tup hpt)), by omega, hlt, he, fun H7 q7 s7 h7 => hz _ H7 s7 ⟨q7, rfl, ?_⟩⟩
        show SqT K H7 q7 (tI (viewOf row ((hadPlaces row).getD i 0) e))
        rw [getD_of hpl]
        exact h7
      · intro H5 acc s5 ha pr
        obtain ⟨qs, rfl, hqs⟩ := tups_of pr
        have e1 : (List.range (tN (hadPlaces row)).length).map (fun i => viewOf row ((hadPlaces row).getD i 0) e) = viewsIn row e := by
          rw [tN_len]
          have h := congrArg (List.map fun p => viewOf row p e) (range_getD 0 (hadPlaces row))
          rw [List.map_map] at h
          exact h
        rw [e1] at hqs
        have l1 : qs.length ≤ 7 := by
          rw [hqs.length]
          unfold viewsIn
          rw [List.length_map]
          omega
        have l2 : ps2.length ≤ 7 * 8 := by
          rw [hps2.length]
          have := flat_len (allNames n k) e j fun r hr => by have := (names_ok g hr).len; have := had_len r; omega
          omega
        have hl5 := (s4.trans s5) _ _ hl2
        refine ⟨u, b, _, _, rfl, rfl, hl5, ha, ?_, _, rfl, ((s3.trans s4).trans s5).put hu, ps2 ++ qs, by rw [List.map_append]; exact upd_same, ?_⟩
        · rw [List.length_map, List.length_map]
          exact small_line (by omega)
        · rw [take_more hrow, List.flatMap_append]
          have e2 : (List.flatMap (fun r => viewsIn r e) [row]) = viewsIn row e := by simp
          rw [e2]
          exact tups_app (tups_put hl5 hqs) (tups_put hl5 ((s4.trans s5).tups hps2))
    · rintro σ H3 ⟨v, rfl, s3, h3⟩
      have e1 : (allNames n k).take (ps.map V.ref).length = allNames n k := by
        rw [List.length_map, hrows, List.take_length]
      rw [e1] at h3
      have okf : ∀ r ∈ allNames n k, RingOk k n r := fun r hr => names_ok g hr
      refine ⟨_, rfl, sorted_rows (B := 4) (d := n) (allViews (allNames n k) e) h3 (by omega) (fun r hr => ?_) (fun r hr => mem_inOrder.mpr hr) (Nat.le_trans (views_few g he).2 (by decide)) fun H4 p s4 f4 l4 => z H4 p (s3.trans s4) (s3.free f4) l4⟩
      have := views_flat okf hr
      exact ⟨this.len, fun m hm => by have := this.each m hm; omega⟩
end
end Rf
/-! ## RfM5 -/
namespace Rf
/-! ### moves -/
def gOne (m : Int) (side : Int) (done f : Nat) : List (Int × Int) :=
  if side = 0 then (List.range (m.toNat - f + 1)).map fun (s : Nat) => ((f : Int), (s : Int))
  else if decide (side = 1) = decide (done = 1) then [((f : Int), 0)] else [(0, (f : Int))]
theorem goings_is (m side : Int) (done : Nat) : goings m side done = if done = 0 then [(0, 0)] else (List.range (m.toNat + 1)).flatMap (gOne m side done) := rfl
theorem gOne_len (m side : Int) (done f : Nat) : (gOne m side done f).length ≤ m.toNat + 1 := by
  unfold gOne
  split
  · rw [List.length_map, List.length_range]
    omega
  · split
    · simp
    · simp
theorem gMany_len (m side : Int) (done : Nat) : ∀ j, ((List.range j).flatMap (gOne m side done)).length ≤ (m.toNat + 1) * j
  | 0 => by simp
  | j + 1 => by
    have ih := gMany_len m side done j
    have h := gOne_len m side done j
    rw [List.range_succ, List.flatMap_append, List.length_append, Nat.mul_succ]
    have e : (List.flatMap (gOne m side done) [j]) = gOne m side done j := by simp
    rw [e]
    omega
abbrev pI (q : Int × Int) : List Int := [q.1, q.2]
theorem goings_len {m side : Int} {done : Nat} (hm : m ≤ 3) : (goings m side done).length ≤ 16 := by
  rw [goings_is]
  split
  · simp
  · refine Nat.le_trans (gMany_len m side done _) ?_
    have : m.toNat + 1 ≤ 4 := by omega
    exact Nat.le_trans (Nat.mul_le_mul this this) (by decide)
end Rf
namespace Rf
theorem had_few {k n : Nat} {r : List Int} (h : RingOk k n r) : (hadPlaces r).length ≤ k := by
  have h1 : (hadPlaces r).length = (r.filter fun x => decide (0 < x)).length := by
    have e := congrArg List.length (range_filter (0 : Int) (fun x => decide (0 < x)) r)
    rw [List.length_map] at e
    exact e
  have h2 : ∀ l : List Int, (∀ x ∈ l, 0 ≤ x) → ((l.filter fun x => decide (0 < x)).length : Int) ≤ l.sum := by
    intro l
    induction l with
    | nil => intro _; simp
    | cons x l ih =>
      intro hx
      have ih := ih fun y hy => hx y (List.mem_cons_of_mem _ hy)
      have h0 := hx x List.mem_cons_self
      rw [List.filter_cons, List.sum_cons]
      split
      · rename_i c
        have c := of_decide_eq_true c
        rw [List.length_cons]
        omega
      · omega
  have h3 := h2 r fun x hx => (h.each x hx).1
  have := h.hi
  omega
def gStep (r : List Int) (x : Nat × Int × Nat) (found : List (List (Int × Int))) : List (List (Int × Int)) := found.flatMap fun row => (goings (r.getD x.1 0) x.2.1 x.2.2).map fun pair => row ++ [pair]
theorem goingsUp_more (r : List Int) (x : Nat × Int × Nat) : ∀ (l : List (Nat × Int × Nat)) (found : List (List (Int × Int))), goingsUp r (l ++ [x]) found = gStep r x (goingsUp r l found)
  | [], _ => rfl
  | (_, _, _) :: l, _ => goingsUp_more r x l _
theorem gStep_app (r : List Int) (x : Nat × Int × Nat) (a b : List (List (Int × Int))) : gStep r x (a ++ b) = gStep r x a ++ gStep r x b := List.flatMap_append
theorem gStep_one (r : List Int) (x : Nat × Int × Nat) (row : List (Int × Int)) : gStep r x [row] = (goings (r.getD x.1 0) x.2.1 x.2.2).map fun pair => row ++ [pair] := by
  unfold gStep
  simp
theorem gStep_len {r : List Int} {k n : Nat} (h : RingOk k n r) (hk : k ≤ 3) (x : Nat × Int × Nat) : ∀ found : List (List (Int × Int)), (gStep r x found).length ≤ 16 * found.length
  | [] => by simp [gStep]
  | row :: l => by
    have ih := gStep_len h hk x l
    have e : gStep r x (row :: l) = gStep r x [row] ++ gStep r x l := gStep_app r x [row] l
    have g : (goings (r.getD x.1 0) x.2.1 x.2.2).length ≤ 16 := goings_len (by have := getD_ok h x.1; omega)
    rw [e, List.length_append, gStep_one, List.length_map, List.length_cons]
    omega
theorem goingsUp_len {r : List Int} {k n : Nat} (h : RingOk k n r) (hk : k ≤ 3) : ∀ (l : List (Nat × Int × Nat)) (found : List (List (Int × Int))), (goingsUp r l found).length ≤ 16 ^ l.length * found.length
  | [], found => by simp [goingsUp]
  | x :: l, found => by
    have ih := goingsUp_len h hk l (gStep r x found)
    have h1 := gStep_len h hk x found
    have e : goingsUp r (x :: l) found = goingsUp r l (gStep r x found) := rfl
    rw [e]
    refine Nat.le_trans ih ?_
    rw [List.length_cons, Nat.pow_succ, Nat.mul_assoc]
    exact Nat.mul_le_mul_left _ h1
theorem goingsUp_small {r : List Int} {k n : Nat} (h : RingOk k n r) (hk : k ≤ 3) {l : List (Nat × Int × Nat)} (hl : l.length ≤ 3) : (goingsUp r l [[]]).length ≤ 4096 := by
  refine Nat.le_trans (goingsUp_len h hk l [[]]) ?_
  have : (16 : Nat) ^ l.length ≤ 16 ^ 3 := Nat.pow_le_pow_right (by decide) hl
  simp
  omega
theorem goingsRow_len (r : List Int) : ∀ (l : List (Nat × Int × Nat)) {row : List (Int × Int)}, row ∈ goingsUp r l [[]] → row.length ≤ l.length := by
  have gen : ∀ (l : List (Nat × Int × Nat)) (found : List (List (Int × Int))) (c : Nat), (∀ x ∈ found, x.length ≤ c) → ∀ row ∈ goingsUp r l found, row.length ≤ c + l.length := by
    intro l
    induction l with
    | nil => intro found c h row hr; exact h row hr
    | cons x l ih =>
      intro found c h row hr
      have z := ih (gStep r x found) (c + 1) (fun y hy => by
        unfold gStep at hy
        obtain ⟨y0, h0, hy⟩ := List.mem_flatMap.mp hy
        obtain ⟨pr, _, rfl⟩ := List.mem_map.mp hy
        rw [List.length_append]
        have := h y0 h0
        simp
        omega) row hr
      rw [List.length_cons]
      omega
  intro l row h
  have z := gen l [[]] 0 (by simp) row h
  omega
end Rf
namespace Rf
def gnStep (n : Nat) (x : Nat × Int × Int) (f : List Int) : List Int :=
  let f1 := f.set x.1 (f.getD x.1 0 - x.2.1 - x.2.2)
  let f2 := f1.set ((x.1 + 1) % n) (f1.getD ((x.1 + 1) % n) 0 + x.2.1)
  f2.set ((x.1 + (n - 1)) % n) (f2.getD ((x.1 + (n - 1)) % n) 0 + x.2.2)
theorem goneUp_more (n : Nat) (x : Nat × Int × Int) : ∀ (l : List (Nat × Int × Int)) (f : List Int), goneUp n (l ++ [x]) f = gnStep n x (goneUp n l f)
  | [], _ => rfl
  | (_, _, _) :: l, _ => goneUp_more n x l _
theorem goneUp_len (n : Nat) : ∀ (l : List (Nat × Int × Int)) (f : List Int), (goneUp n l f).length = f.length
  | [], _ => rfl
  | (p, a, b) :: l, f => by
    have e : goneUp n ((p, a, b) :: l) f = goneUp n l (gnStep n (p, a, b) f) := rfl
    rw [e, goneUp_len n l]
    unfold gnStep
    simp
theorem filter_map_range {α β : Type} (d : α) (P : α → Bool) (G : α → β) (l : List α) : ((List.range l.length).filter fun i => P (l.getD i d)).map (fun i => G (l.getD i d)) = (l.filter P).map G := by
  rw [← range_filter d P l, List.map_map]
  rfl
end Rf
/-! ## RfW6 -/
namespace Rf
open PySem PySem.Spec PyProof.Rows L2
/-- the constants of the top -/
structure Csts (mg : Str → Option Value) : Prop where
  one : ∃ t, mg "ONE_GOES" = some (.int 0 t)
  sgo : ∃ t, mg "SOME_GO" = some (.int 1 t)
  stay : ∃ t, mg "STAY" = some (.int 0 t)
  less : ∃ t, mg "BY_LESSER" = some (.int 1 t)
  rules : ∃ t, mg "MOST_RULES" = some (.int 6000 t)
  such : ∃ t, mg "NO_SUCH" = some (.int (-2) t)
  unm : ∃ t, mg "NOT_MARKED" = some (.int (-6) t)
  begun : ∃ t, mg "NOT_BEGUN" = some (.int (-11) t)
  mark : ∃ t, mg "MARKED" = some (.int (-17) t)
  num : ∃ t, mg "NO_NUMBER" = some (.int (-22) t)
  many : ∃ t, mg "TOO_MANY" = some (.int (-28) t)
  norule : ∃ t, mg "NO_RULE" = some (.int (-33) t)
  moves : ∃ t, mg "MOST_MOVES" = some (.int 2 t)
theorem pe_gi {X : Cx} {x : Str} {i : Int} {pos : Pos} (hm : ∃ t, X.mg x = some (.int i t)) (hg : Gl X x := by rfl) (hd : (x == ("__debug__" : Str)) = false := by decide) : PE X (.Name x pos) (tC (.int i)) := by
  obtain ⟨t, hm⟩ := hm
  exact pe_glob hg hm ⟨t, rfl⟩ hd
theorem dec_eq {i j : Int} : decide (V.int i = V.int j) = decide (i = j) := by simp
theorem dec_bl2 {a b : Bool} : decide (V.bl a = V.bl b) = decide (a = b) := by simp
section
variable {P : Program} {w : World} {K : PySem.W.Frag} {mg : Str → Option Value} {base : Heap}
def spGoings (K : PySem.W.Frag) : Sp := fun vs H Q _ => ∃ (m side : Int) (done : Nat), vs = [.int m, .int side, .int done] ∧ 0 ≤ m ∧ m ≤ 3 ∧
  ∀ H' q, Same H H' → H q = none → LsT K H' q ((goings m side done).map pI) → Q (.ref q) H'
abbrev nGoings : List Str := ["many", "side", "done", "found", "first", "second"]
theorem sc_goings : FnScope nGoings ["many", "side", "done"] (defScope (top 17)) := ⟨rfl, rfl, rfl, by decide +kernel, rfl, by decide +kernel, by decide +kernel⟩
theorem ok_goings (B : Bts mg) (Cc : Csts mg) (D : GDef K mg "goings" (top 17) ["many", "side", "done"]) : Cal P w K mg base CX0 1 "goings" ["many", "side", "done"] (spGoings K) := by
  refine D.cal fun f fd F => F.ok sc_goings (fun vs H Q E h => ?_) (fun cdv A outer s H vs Q E hr h => ?_)
  · obtain ⟨m, side, done, rfl, _⟩ := h
    rfl
  · have nd := sc_goings.nd
    refine ⟨_, pss_cons (ps_if (pt_cmpR op_eq (pv 2) (pe_gi Cc.stay) (nomark _)) (pss_one (ps_ret (pe_lst (pa_cons (pe_tup (pa_cons pe_int (pa_cons pe_int pa_nil))) pa_nil)))) pss_nil)
      (pss_cons (ps_set (i := 3) nd rfl (Or.inl rfl) (pe_lst pa_nil))
      (pss_cons (ps_for PassesOwn.never rfl (pi_range1 rfl B.range (pa_cons (pe_op op_add (pv 0) pe_int) pa_nil)) (pg_name (i := 4) nd rfl (Or.inr rfl))
        (pss_one (ps_if (pt_cmpR op_eq (pv 1) pe_int (nomark _))
          (pss_one (ps_expr (pe_bm PySem.F.plainAttrs_list PySem.F.slot_list_extend PySem.F.type_list_extend mt_extend (pv 3) (pa_cons
            (pe_lc (own := [("second", 5)]) (g := gName 5) (tt := tYes) rfl nd (pi_range1 rfl B.range (pa_cons (pe_op op_add (pe_op op_sub (pv 0) (pv 4)) pe_int) pa_nil)) (blkOk_by (own := [("second", 5)]) (N := nGoings) (sc := defScope (top 17)) (by decide +kernel))
              (fun _ _ _ _ _ => pg_name (i := 5) nd rfl (Or.inl rfl)) (fun _ _ _ _ _ => pts_nil) (fun _ _ _ _ _ => pe_tup (pa_cons (pv 4) (pa_cons (pv 5) pa_nil)))) pa_nil))))
          (pss_one (ps_if (pt_cmpR op_eq (pe_cmpR op_eq (pv 1) pe_int (nomark _)) (pe_cmpR op_eq (pv 2) (pe_gi Cc.less) (nomark _)) (nomark _))
            (pss_one (ps_expr (pe_bm PySem.F.plainAttrs_list PySem.F.slot_list_append PySem.F.type_list_append mt_append (pv 3) (pa_cons (pe_tup (pa_cons (pv 4) (pa_cons pe_int pa_nil))) pa_nil))))
            (pss_one (ps_expr (pe_bm PySem.F.plainAttrs_list PySem.F.slot_list_append PySem.F.type_list_append mt_append (pv 3) (pa_cons (pe_tup (pa_cons pe_int (pa_cons (pv 4) pa_nil))) pa_nil)))))))))
      (pss_one (ps_ret (pv 3))))), ?_⟩
    obtain ⟨m, side, done, rfl, hm0, hm3, z⟩ := h
    refine ⟨_, rfl, rfl, _, rfl, ?_⟩
    rw [dec_eq]
    rw [goings_is] at z
    by_cases c : done = 0
    · refine if_true_of (decide_eq_true (by omega)) ?_
      refine ⟨(by show 2 ≤ sizeLine; decide), fun t ht => ⟨(by show 1 ≤ sizeLine; decide), fun u hu => ?_⟩⟩
      rw [if_pos c] at z
      refine z _ u ((Same.new ht).put ((Same.new ht).free hu)) ((Same.new ht).free hu) ⟨[t], upd_same, .cons ((Same.new hu).tup (SqT.of upd_same)) .nil⟩
    · refine if_false_of (decide_eq_false (by omega)) ?_
      rw [if_neg c] at z
      refine ⟨(by show 0 ≤ sizeLine; decide), fun u hu => ?_⟩
      refine ⟨_, rfl, _, _, rfl, rfl, _, rfl, by omega, by omega, ?_⟩
      have e1 : (m + 1).toNat = m.toNat + 1 := by omega
      refine for_it walk_rg (fun j σ H' => ∃ (v4 : Option V), σ = [some (.int m), some (.int side), some (.int done), some (.ref u), v4, none] ∧ Same H H' ∧ LsT K H' u (((List.range j).flatMap (gOne m side done)).map pI)) ?_ (fun _ _ _ _ _ => trivial) ?_ ?_
      · exact ⟨none, rfl, Same.new hu, [], upd_same, .nil⟩
      · rintro j x σ H2 H1 hj ⟨v4, rfl, s1, ps, hl, hps⟩ ⟨rfl, rfl⟩
        have hj4 : j ≤ 3 := by omega
        have lps : ps.length ≤ 16 := by
          rw [hps.length, List.length_map]
          refine Nat.le_trans (gMany_len m side done j) ?_
          exact Nat.le_trans (Nat.mul_le_mul (by omega : m.toNat + 1 ≤ 4) hj4) (by decide)
        have more : ∀ {rows : List (Int × Int)}, gOne m side done j = rows → ((List.range (j + 1)).flatMap (gOne m side done)).map pI = ((List.range j).flatMap (gOne m side done)).map pI ++ rows.map pI := fun {rows} e => by
          rw [List.range_succ, List.flatMap_append, List.map_append]
          congr 2
          simp [e]
        refine ⟨_, rfl, rfl, _, rfl, ?_⟩
        rw [dec_eq]
        by_cases c0 : side = 0
        · refine if_true_of (decide_eq_true c0) ?_
          refine ⟨_, rfl, .inl ⟨rfl, _, .of hl⟩, ?_⟩
          refine ⟨_, rfl, _, rfl, _, _, rfl, rfl, _, _, rfl, rfl, _, rfl, by omega, by omega, fun b hb => ?_⟩
          have e2 : (m - (j : Int) + 1).toNat = m.toNat - j + 1 := by omega
          refine lc_map walk_rg (FTup K fun (i : Nat) => [(j : Int), (i : Int)]) stays_tup hb (by omega) (fun _ _ => trivial) ?_ ?_
          · rintro i x H3 H4 hi s2 ⟨rfl, rfl⟩ Z hz
            exact ⟨rfl, _, rfl, _, rfl, (by show 2 ≤ sizeLine; decide), fun t ht => hz _ _ (Same.new ht) ⟨t, rfl, SqT.of upd_same⟩⟩
          · intro H3 acc s2 ha pr
            obtain ⟨qs, rfl, hqs⟩ := tups_of pr
            rw [e2] at hqs
            have l1 : qs.length ≤ 4 := by
              rw [hqs.length, List.length_map, List.length_range]
              omega
            have hl3 := s2 _ _ hl
            refine ⟨u, b, _, _, rfl, rfl, hl3, ha, ?_, _, rfl, (s1.trans s2).put hu, ps ++ qs, by rw [List.map_append]; exact upd_same, ?_⟩
            · rw [List.length_map, List.length_map]
              exact small_line (by omega)
            · rw [more (rows := (List.range (m.toNat - j + 1)).map fun (s : Nat) => ((j : Int), (s : Int))) (by unfold gOne; rw [if_pos c0])]
              refine tups_app (tups_put hl3 ?_) (tups_put hl3 (s2.tups hps))
              rw [List.map_map]
              exact hqs
        · refine if_false_of (decide_eq_false c0) ?_
          refine ⟨_, rfl, rfl, _, rfl, rfl, rfl, _, rfl, ?_⟩
          rw [dec_eq, dec_eq, dec_bl2]
          have ed : decide ((done : Int) = 1) = decide (done = 1) := by
            rw [Bool.eq_iff_iff]
            simp only [decide_eq_true_eq]
            omega
          rw [ed]
          have app : ∀ {H3 : Hp} {t : Addr} {q : Int × Int}, Same H1 H3 → SqT K H3 t (tI (pI q)) → gOne m side done j = [q] → LsT K (upd H3 u (.lst (ps.map V.ref ++ [V.ref t]))) u (((List.range (j + 1)).flatMap (gOne m side done)).map pI) := fun {H3 t q} s3 ht e => by
            refine ⟨ps ++ [t], by rw [List.map_append]; exact upd_same, ?_⟩
            rw [more e]
            exact tups_app (tups_put (s3 _ _ hl) (.cons ht .nil)) (tups_put (s3 _ _ hl) (s3.tups hps))
          by_cases c1 : decide (side = 1) = decide (done = 1)
          · refine if_true_of (decide_eq_true c1) ?_
            refine ⟨_, rfl, .inl ⟨rfl, _, .of hl⟩, _, rfl, (by show 2 ≤ sizeLine; decide), fun t ht => ?_⟩
            have s3 := Same.new (o := .tup [V.int (j : Int), V.int 0]) ht
            refine ⟨u, _, _, rfl, rfl, s3 _ _ hl, ?_, _, rfl, (s1.trans s3).put hu, app s3 (q := ((j : Int), 0)) (SqT.of upd_same) ?_⟩
            · rw [List.length_map]
              exact Nat.lt_of_le_of_lt lps (by decide)
            · unfold gOne
              rw [if_neg c0, if_pos c1]
          · refine if_false_of (decide_eq_false c1) ?_
            refine ⟨_, rfl, .inl ⟨rfl, _, .of hl⟩, _, rfl, (by show 2 ≤ sizeLine; decide), fun t ht => ?_⟩
            have s3 := Same.new (o := .tup [V.int 0, V.int (j : Int)]) ht
            refine ⟨u, _, _, rfl, rfl, s3 _ _ hl, ?_, _, rfl, (s1.trans s3).put hu, app s3 (q := (0, (j : Int))) (SqT.of upd_same) ?_⟩
            · rw [List.length_map]
              exact Nat.lt_of_le_of_lt lps (by decide)
            · unfold gOne
              rw [if_neg c0, if_neg c1]
      · rintro σ H1 ⟨v4, rfl, s1, h1⟩
        rw [e1] at h1
        exact ⟨_, rfl, z H1 u s1 hu h1⟩
end
end Rf
/-! ## RfW7 -/
namespace Rf
open PySem PySem.Spec PyProof.Rows L2
/-! ### lists of lists of pairs -/
section
variable {K : PySem.W.Frag} {H H' : Hp} {q D : Addr}
theorem lsT_same {rows : List (List Int)} (s : Same H H') (h : LsT K H q rows) : LsT K H' q rows := by
  obtain ⟨ps, h1, h2⟩ := h
  exact ⟨ps, s _ _ h1, s.tups h2⟩
theorem lsT_put {rows : List (List Int)} {l l' : List V} (n : q ≠ D) (hD : H D = some (.lst l)) (h : LsT K H q rows) : LsT K (upd H D (.lst l')) q rows := by
  obtain ⟨ps, h1, h2⟩ := h
  exact ⟨ps, by rw [upd_ne n]; exact h1, tups_put hD h2⟩
abbrev Lls (K : PySem.W.Frag) (H : Hp) (fs : List Addr) (rows : List (List (List Int))) : Prop := Paired (fun f r => LsT K H f r) fs rows
theorem lls_same (s : Same H H') : ∀ {fs : List Addr} {rows : List (List (List Int))}, Lls K H fs rows → Lls K H' fs rows
  | _, _, .nil => .nil
  | _, _, .cons h t => .cons (lsT_same s h) (lls_same s t)
theorem lls_put {l l' : List V} (hD : H D = some (.lst l)) : ∀ {fs : List Addr} {rows : List (List (List Int))}, (∀ f ∈ fs, f ≠ D) → Lls K H fs rows → Lls K (upd H D (.lst l')) fs rows
  | _, _, _, .nil => .nil
  | _, _, n, .cons h t => .cons (lsT_put (n _ List.mem_cons_self) hD h) (lls_put hD (fun f hf => n f (List.mem_cons_of_mem _ hf)) t)
theorem lls_app {fs' : List Addr} {rows' : List (List (List Int))} (h' : Lls K H fs' rows') : ∀ {fs : List Addr} {rows : List (List (List Int))}, Lls K H fs rows → Lls K H (fs ++ fs') (rows ++ rows')
  | _, _, .nil => h'
  | _, _, .cons h t => .cons h (lls_app h' t)
def LlsT (K : PySem.W.Frag) (H : Hp) (q : Addr) (rows : List (List (List Int))) : Prop := ∃ fs : List Addr, H q = some (.lst (fs.map V.ref)) ∧ (∀ f ∈ fs, f ≠ q) ∧ Lls K H fs rows
/-- new lists, none at the places that are kept free of them -/
def FLs (K : PySem.W.Frag) (av : List Addr) (f : Nat → List (List Int)) : Nat → V → Hp → Prop := fun i y H => ∃ q, y = .ref q ∧ (∀ a ∈ av, q ≠ a) ∧ LsT K H q (f i)
theorem stays_ls {av : List Addr} {f : Nat → List (List Int)} (hD : D ∈ av) : Stays (FLs K av f) D :=
  ⟨fun _ _ _ _ s ⟨q, e, n, h⟩ => ⟨q, e, n, lsT_same s h⟩, fun _ _ _ _ _ h0 ⟨q, e, n, h⟩ => ⟨q, e, n, lsT_put (n D hD) h0 h⟩⟩
theorem ls_of {av : List Addr} {f : Nat → List (List Int)} : ∀ {is : List Nat} {acc : List V}, Paired (fun i y => FLs K av f i y H) is acc → ∃ qs : List Addr, acc = qs.map V.ref ∧ (∀ q ∈ qs, ∀ a ∈ av, q ≠ a) ∧ Lls K H qs (is.map f)
  | _, _, .nil => ⟨[], rfl, (fun _ h => nomatch h), .nil⟩
  | _, _, .cons ⟨q, e, n, h⟩ t => by
    obtain ⟨qs, e2, n2, h2⟩ := ls_of t
    refine ⟨q :: qs, by rw [e, e2]; rfl, fun p hp => ?_, .cons h h2⟩
    rcases List.mem_cons.mp hp with z | z
    · rw [z]; exact n
    · exact n2 p z
theorem sqk_l {xs : List V} (h : SqL K H q xs) : SqK K H ⟨q, false⟩ xs := by
  unfold SqK
  rw [if_neg Bool.false_ne_true]
  exact h
theorem sqk_t {xs : List V} (h : SqT K H q xs) : SqK K H ⟨q, true⟩ xs := by
  unfold SqK
  rw [if_pos rfl]
  exact h
end
section
variable {P : Program} {w : World} {K : PySem.W.Frag} {mg : Str → Option Value} {base : Heap}
def spAllG (K : PySem.W.Frag) : Sp := fun vs H Q _ => ∃ (p sd dd : Addr) (r sides : List Int) (deeds : List Nat) (k n : Nat), vs = [.ref p, .ref sd, .ref dd] ∧ SqT K H p (tI r) ∧ SqL K H sd (tI sides) ∧ SqT K H dd (tN deeds) ∧
  RingOk k n r ∧ k ≤ 3 ∧ n ≤ 7 ∧ sides.length = (hadPlaces r).length ∧ deeds.length = (hadPlaces r).length ∧
  ∀ H' q, Same H H' → H q = none → LlsT K H' q ((allGoings r sides deeds).map (·.map pI)) → Q (.ref q) H'
abbrev nAllG : List Str := ["ring", "sides", "deeds", "found", "place", "side", "done", "longer", "row", "pair"]
theorem sc_allG : FnScope nAllG ["ring", "sides", "deeds"] (defScope (top 18)) := ⟨rfl, rfl, rfl, by decide +kernel, rfl, by decide +kernel, by decide +kernel⟩
theorem ok_allG (B : Bts mg) (D : GDef K mg "all_goings" (top 18) ["ring", "sides", "deeds"]) (Ch : Cal P w K mg base CX0 1 "had_places" ["ring"] (spHad K)) (Cg : Cal P w K mg base CX0 1 "goings" ["many", "side", "done"] (spGoings K)) :
    Cal P w K mg base CX0 2 "all_goings" ["ring", "sides", "deeds"] (spAllG K) := by
  refine D.cal fun f fd F => F.ok sc_allG (fun vs H Q E h => ?_) (fun cdv A outer s H vs Q E hr h => ?_)
  · obtain ⟨p, sd, dd, r, sides, deeds, k, n, rfl, _⟩ := h
    rfl
  · have nd := sc_allG.nd
    refine ⟨_, pss_cons (ps_set (i := 3) nd rfl (Or.inl rfl) (pe_lst (pa_cons (pe_lst pa_nil) pa_nil)))
      (pss_cons (ps_for PassesOwn.never rfl (pi_zipLLT rfl B.zip (pa_cons (pe_c Ch hr (pa_cons (pv 0) pa_nil)) (pa_cons (pv 1) (pa_cons (pv 2) pa_nil))))
          (pg_tup rfl (pgs_cons (pg_name (i := 4) nd rfl (Or.inl rfl)) (pgs_cons (pg_name (i := 5) nd rfl (Or.inl rfl)) (pgs_cons (pg_name (i := 6) nd rfl (Or.inl rfl)) pgs_nil))))
        (pss_cons (ps_set (i := 7) nd rfl (Or.inl rfl) (pe_lst pa_nil))
        (pss_cons (ps_for PassesOwn.never rfl (pi_list (pv 3)) (pg_name (i := 8) nd rfl (Or.inr rfl))
          (pss_one (ps_expr (pe_bm PySem.F.plainAttrs_list PySem.F.slot_list_extend PySem.F.type_list_extend mt_extend (pv 7) (pa_cons
            (pe_lc (own := [("pair", 9)]) (g := gName 9) (tt := tYes) rfl nd (pi_list (pe_c Cg hr (pa_cons (pe_ix ix_tup (pv 0) (pv 4) (fun _ _ => rfl)) (pa_cons (pv 5) (pa_cons (pv 6) pa_nil))))) (blkOk_by (own := [("pair", 9)]) (N := nAllG) (sc := defScope (top 18)) (by decide +kernel))
              (fun _ _ _ _ _ => pg_name (i := 9) nd rfl (Or.inl rfl)) (fun _ _ _ _ _ => pts_nil) (fun _ _ _ _ _ => pe_op op_cat (pv 8) (pe_lst (pa_cons (pv 9) pa_nil)))) pa_nil)))))
        (pss_one (ps_set (i := 3) nd rfl (Or.inl rfl) (pv 7))))))
      (pss_one (ps_ret (pv 3)))), ?_⟩
    obtain ⟨p, sd, dd, r, sides, deeds, k, n, rfl, hp, hsd, hdd, ok, hk, hn, ls, ld, z⟩ := h
    have lrow := ok.len
    have hfew := had_few ok
    refine ⟨(by show 0 ≤ sizeLine; decide), fun e0 he0 => ⟨(by show 1 ≤ sizeLine; decide), fun f0 hf0 => ?_⟩⟩
    have s0 : Same H (upd (upd H e0 (.lst [])) f0 (.lst [.ref e0])) := (Same.new he0).put ((Same.new he0).free hf0)
    have ef : e0 ≠ f0 := (Same.refl (upd H e0 (.lst []))).lt upd_same hf0 |>.symm
    refine ⟨_, rfl, p, r, rfl, s0.tup hp, by omega, fun H1 c s1 fc hc => ⟨_, rfl, _, rfl, c, sd, dd, tN (hadPlaces r), tI sides, tN deeds, rfl, .of hc, (s0.trans s1).seq hsd, (s0.trans s1).tup hdd, ?_⟩⟩
    have s01 := s0.trans s1
    refine for_it (walk_Z (K := K) (ss := [⟨c, false⟩, ⟨sd, false⟩, ⟨dd, true⟩]) (rows := [tN (hadPlaces r), tI sides, tN deeds]) (n := (hadPlaces r).length) rfl rfl ?_ rfl)
      (fun i σ H' => ∃ (fa : Addr) (v4 v5 v6 v7 v8 : Option V), σ = [some (.ref p), some (.ref sd), some (.ref dd), some (.ref fa), v4, v5, v6, v7, v8, none] ∧ Same H1 H' ∧ H fa = none ∧ LlsT K H' fa ((goingsUp r (((hadPlaces r).zip (sides.zip deeds)).take i) [[]]).map (·.map pI))) ?_ ?_ ?_ ?_
    · intro x hx
      simp only [List.mem_cons, List.not_mem_nil, or_false] at hx
      rcases hx with e | e | e
      · rw [e, tN_len]
      · rw [e, tI_len, ls]
      · rw [e, tN_len, ld]
    · refine ⟨f0, none, none, none, none, none, rfl, Same.refl _, (Same.new he0).free hf0, [e0], s1 _ _ upd_same, fun f hf => ?_, .cons ⟨[], ?_, .nil⟩ .nil⟩
      · have e : f = e0 := by simpa using hf
        rw [e]
        exact ef
      · exact s1 _ _ (by rw [upd_ne ef]; exact upd_same)
    · rintro i σ H' _ ⟨fa, v4, v5, v6, v7, v8, _, s', _⟩
      exact .cons (sqk_l (.of (s' _ _ hc))) (.cons (sqk_l (s'.seq (s01.seq hsd))) (.cons (sqk_t (s'.tup (s01.tup hdd))) .nil))
    · rintro i x σ H2 H3 hi ⟨fa, v4, v5, v6, v7, v8, rfl, s2, hfa, fs, hl, hnf, hps⟩ ⟨T, ys, rfl, hT, rfl, hys⟩
      -- the items of the turn
      cases hys with
      | cons h1 hys =>
      cases hys with
      | cons h2 hys =>
      cases hys with
      | cons h3 hys =>
      cases hys
      obtain ⟨pl, hpl, rfl⟩ := nat_at h1
      obtain ⟨sv, hsv, rfl⟩ : ∃ x : Int, sides[i]? = some x ∧ _ = V.int x := by
        unfold tI at h2
        rw [List.getElem?_map] at h2
        obtain ⟨x, h, e⟩ := Option.map_eq_some_iff.mp h2
        exact ⟨x, h, e.symm⟩
      obtain ⟨dv, hdv, rfl⟩ := nat_at h3
      have sT := Same.new (o := .tup [V.int (pl : Nat), V.int sv, V.int (dv : Nat)]) hT
      have hz : ((hadPlaces r).zip (sides.zip deeds))[i]? = some (pl, sv, dv) := by
        rw [List.getElem?_zip_eq_some]
        exact ⟨hpl, by rw [List.getElem?_zip_eq_some]; exact ⟨hsv, hdv⟩⟩
      refine ⟨T, _, rfl, SqT.of upd_same, rfl, _, _, rfl, _, _, rfl, _, _, rfl, rfl, ?_⟩
      refine ⟨(by show 0 ≤ sizeLine; decide), fun g hg => ?_⟩
      have sg := sT.trans (Same.new (o := .lst []) hg)
      have hlg := sg _ _ hl
      refine ⟨_, rfl, fa, rfl, ⟨_, .of hlg⟩, ?_⟩
      have hrows := hps.length
      have hi3 : i < 3 := by omega
      have hsm : (goingsUp r (((hadPlaces r).zip (sides.zip deeds)).take i) [[]]).length ≤ 4096 := goingsUp_small ok hk (by rw [List.length_take]; omega)
      rw [List.length_map] at hrows
      have s12 := s2.trans sg
      generalize hfound : goingsUp r (((hadPlaces r).zip (sides.zip deeds)).take i) [[]] = found at hps hrows hsm
      have hgn : H1 g = none := (s2.trans sT).free hg
      have hplr := mem_had (List.mem_of_getElem? hpl)
      have hgi := getD_ok ok pl
      refine for_it (walk_list (K := K) (a := fa) (xs := fs.map V.ref)) (fun j σ H' => ∃ v8 : Option V, σ = [some (.ref p), some (.ref sd), some (.ref dd), some (.ref fa), some (.int (pl : Nat)), some (.int sv), some (.int (dv : Nat)), some (.ref g), v8, none] ∧
        (∀ b o, b ≠ g → upd (upd H2 T (.tup [V.int (pl : Nat), V.int sv, V.int (dv : Nat)])) g (.lst []) b = some o → H' b = some o) ∧ LlsT K H' g ((gStep r (pl, sv, dv) (found.take j)).map (·.map pI))) ?_ ?_ ?_ ?_
      · exact ⟨v8, rfl, fun _ _ _ e => e, [], upd_same, (fun _ h => nomatch h), .nil⟩
      · rintro j σ H' _ ⟨_, _, s', _⟩
        exact .of (s' _ _ (fun e => by rw [e] at hlg; rw [upd_same] at hlg; rw [e] at hl; have := sT _ _ hl; rw [hg] at this; cases this) hlg)
      · rintro j y σ H5 H4 hj ⟨v8', rfl, s4, gs, hgl, hng, hgs⟩ ⟨rfl, hy⟩
        have s4' : Same (upd H2 T (.tup [V.int (pl : Nat), V.int sv, V.int (dv : Nat)])) H4 := fun b o e => s4 b o (fun z => by rw [z, hg] at e; cases e) (Same.new hg b o e)
        have s1t := (s2.trans sT).trans s4'
        obtain ⟨fj, hfj, rfl⟩ := ref_at hy
        obtain ⟨rowI, hrow, hrl⟩ := Paired.at hps j fj hfj
        rw [List.getElem?_map] at hrow
        obtain ⟨row, hrow2, rfl⟩ := Option.map_eq_some_iff.mp hrow
        obtain ⟨rps, hrp, hrt⟩ := lsT_same (sT.trans s4') hrl
        refine ⟨_, rfl, .inl ⟨rfl, _, .of hgl⟩, ?_⟩
        refine ⟨_, rfl, _, rfl, p, _, _, _, rfl, rfl, s1t.tup (s01.tup hp), ints_at hplr, _, rfl, _, rfl, _, sv, dv, rfl, hgi.1, by omega, fun H6 c2 s6 fc2 hc2 => ?_⟩
        obtain ⟨gp, hgp, hgt⟩ := hc2
        have hgl6 := s6 _ _ hgl
        have glen : (goings (r.getD pl 0) sv dv).length ≤ 16 := goings_len (by omega)
        have hgpl := hgt.length
        rw [List.length_map] at hgpl
        refine ⟨c2, rfl, ⟨_, .of hgp⟩, fun b hb => ?_⟩
        have bg : g ≠ b := fun z => by rw [z, hb] at hgl6; cases hgl6
        refine lc_mapD (walk_list (K := K) (a := c2) (xs := gp.map V.ref)) (FLs K [b, g] fun m => row.map pI ++ [pI ((goings (r.getD pl 0) sv dv).getD m (0, 0))]) (stays_ls (by simp)) hb (by rw [List.length_map]; omega) (fun H' s' => .of (s' _ _ hgp)) ?_ ?_
        · rintro m x H8 H7 hm s7 ⟨bacc, hbl⟩ ⟨rfl, hx⟩ Z hz'
          obtain ⟨pr, hpr, rfl⟩ := ref_at hx
          obtain ⟨prI, hprI, hprt⟩ := Paired.at hgt m pr hpr
          rw [List.getElem?_map] at hprI
          obtain ⟨pair, hpair, rfl⟩ := Option.map_eq_some_iff.mp hprI
          refine ⟨rfl, _, rfl, _, rfl, (by show 1 ≤ sizeLine; decide), fun u hu => ?_⟩
          have su := Same.new (o := .lst [V.ref pr]) hu
          have hrp7 := s7 _ _ (s6 _ _ hrp)
          refine ⟨fj, u, _, _, rfl, rfl, su _ _ hrp7, upd_same, ?_, fun q hq => ?_⟩
          · have := hrt.length
            rw [List.length_map] at this
            have hlen := goingsRow_len r (((hadPlaces r).zip (sides.zip deeds)).take i) (by rw [hfound]; exact List.mem_of_getElem? hrow2)
            rw [List.length_take] at hlen
            rw [List.length_map]
            exact small_line (by show rps.length + 1 ≤ 1000000; omega)
          · have sq := Same.new (o := .lst (rps.map V.ref ++ [V.ref pr])) hq
            have sa := su.trans sq
            refine hz' _ _ sa ⟨q, rfl, fun a ha => ?_, rps ++ [pr], by rw [List.map_append]; exact upd_same, ?_⟩
            · simp only [List.mem_cons, List.not_mem_nil, or_false] at ha
              rcases ha with e | e
              · rw [e]; exact su.lt hbl hq
              · rw [e]; exact su.lt (s7 _ _ hgl6) hq
            · show Tups K _ (rps ++ [pr]) (row.map pI ++ [pI ((goings (r.getD pl 0) sv dv).getD m (0, 0))])
              rw [getD_of hpair]
              exact tups_app (.cons (sa.tup (s7.tup hprt)) .nil) (sa.tups (s7.tups (s6.tups hrt)))
        · intro H7 acc s7 ha pr
          obtain ⟨qs, rfl, hqn, hqs⟩ := ls_of pr
          have hgl7 := s7 _ _ hgl6
          have lq : qs.length ≤ 16 := by
            rw [hqs.length, List.length_map, List.length_range, List.length_map]
            omega
          have lg : gs.length ≤ 16 * 4096 := by
            rw [hgs.length, List.length_map]
            refine Nat.le_trans (gStep_len ok hk _ _) ?_
            rw [List.length_take]
            exact Nat.mul_le_mul_left _ (by omega)
          refine ⟨g, b, _, _, rfl, rfl, hgl7, ha, ?_, _, rfl, fun b' o hb' e => ?_, gs ++ qs, by rw [List.map_append]; exact upd_same, fun f hf => ?_, ?_⟩
          · rw [List.length_map, List.length_map]
            exact small_line (by omega)
          · rw [upd_ne hb']
            exact s7 _ _ (s6 _ _ (s4 b' o hb' e))
          · rcases List.mem_append.mp hf with hf | hf
            · exact hng f hf
            · exact hqn f hf g (by simp)
          · rw [take_more hrow2, gStep_app, gStep_one, List.map_append]
            have e : (List.range (gp.map V.ref).length).map (fun m => row.map pI ++ [pI ((goings (r.getD pl 0) sv dv).getD m (0, 0))]) = (List.map (fun pair => row ++ [pair]) (goings (r.getD pl 0) sv dv)).map (·.map pI) := by
              rw [List.length_map, hgpl]
              have h := congrArg (List.map fun pair => row.map pI ++ [pI pair]) (range_getD ((0 : Int), (0 : Int)) (goings (r.getD pl 0) sv dv))
              rw [List.map_map] at h
              refine Eq.trans h ?_
              rw [List.map_map]
              apply List.map_congr_left
              intro pair _
              simp
            rw [e] at hqs
            exact lls_app (lls_put hgl7 (fun f hf => hqn f hf g (by simp)) hqs) (lls_put hgl7 hng (lls_same (s6.trans s7) hgs))
      · rintro σ H4 ⟨v8', rfl, s4, h4⟩
        have s4' : Same (upd H2 T (.tup [V.int (pl : Nat), V.int sv, V.int (dv : Nat)])) H4 := fun b o e => s4 b o (fun z => by rw [z, hg] at e; cases e) (Same.new hg b o e)
        have e : found.take (fs.map V.ref).length = found := by
          rw [List.length_map, hrows, List.take_length]
        rw [e] at h4
        refine ⟨_, rfl, g, _, _, _, _, _, rfl, (s2.trans sT).trans s4', s01.free hgn, ?_⟩
        rw [take_more hz, goingsUp_more, hfound]
        exact h4
    · rintro σ H2 ⟨fa, v4, v5, v6, v7, v8, rfl, s2, hfa, h2⟩
      have e : ((hadPlaces r).zip (sides.zip deeds)).take (hadPlaces r).length = (hadPlaces r).zip (sides.zip deeds) := by
        rw [List.take_of_length_le]
        rw [List.length_zip, List.length_zip]
        omega
      rw [e] at h2
      exact ⟨_, rfl, z H2 fa (s01.trans s2) hfa h2⟩
end
end Rf
/-! ## RfW8 -/
namespace Rf
open PySem PySem.Spec PyProof.Rows L2
theorem ix_nat {n j : Nat} (h : j < n) : ixN n (j : Int) = some j := by
  unfold ixN
  rw [if_pos (by omega), if_pos (by omega), Int.toNat_natCast]
theorem tI_set (f : List Int) (j : Nat) (v : Int) : (tI f).set j (.int v) = tI (f.set j v) := by
  unfold tI
  rw [List.map_set]
theorem fmod_p1 {p n : Nat} (hn : 0 < n) : ((p : Int) + 1).fmod (n : Int) = (((p + 1) % n : Nat) : Int) := by
  have h := fmod_fwd (p := p) (k := 1) hn
  simpa using h
theorem fmod_m1 {p n : Nat} (hn : 0 < n) : ((p : Int) - 1).fmod (n : Int) = (((p + (n - 1)) % n : Nat) : Int) := by
  have h := fmod_back (p := p) (k := 1) hn hn
  have e : (p : Int) - 1 = (p : Int) + -1 * ((1 : Nat) : Int) := by omega
  rw [e]
  exact h
section
variable {P : Program} {w : World} {K : PySem.W.Frag} {mg : Str → Option Value} {base : Heap}
def spGone (K : PySem.W.Frag) : Sp := fun vs H Q _ => ∃ (p rw : Addr) (r : List Int) (row : List (Int × Int)), vs = [.ref p, .ref rw] ∧ SqT K H p (tI r) ∧ r.length ≤ 50 ∧ LsT K H rw (row.map pI) ∧
  ∀ H' q, Same H H' → SqT K H' q (tI (gone r row)) → Q (.ref q) H'
abbrev nGone : List Str := ["ring", "row", "found", "many", "place", "first", "second"]
theorem sc_gone : FnScope nGone ["ring", "row"] (defScope (top 19)) := ⟨rfl, rfl, rfl, by decide +kernel, rfl, by decide +kernel, by decide +kernel⟩
theorem ok_gone (B : Bts mg) (D : GDef K mg "gone" (top 19) ["ring", "row"]) (Ch : Cal P w K mg base CX0 1 "had_places" ["ring"] (spHad K)) : Cal P w K mg base CX0 2 "gone" ["ring", "row"] (spGone K) := by
  refine D.cal fun f fd F => F.ok sc_gone (fun vs H Q E h => ?_) (fun cdv A outer s H vs Q E hr h => ?_)
  · obtain ⟨p, rw, r, row, rfl, _⟩ := h
    rfl
  · have nd := sc_gone.nd
    refine ⟨_, pss_cons (ps_set (i := 2) nd rfl (Or.inl rfl) (pe_callTy call_list_of rfl B.list bt_list (pa_cons (pv 0) pa_nil)))
      (pss_cons (ps_set (i := 3) nd rfl (Or.inl rfl) (pe_callB call_len_seq rfl B.len bt_len (pa_cons (pv 0) pa_nil)))
      (pss_cons (ps_for PassesOwn.never rfl (pi_zip rfl B.zip (pa_cons (pe_c Ch hr (pa_cons (pv 0) pa_nil)) (pa_cons (pv 1) pa_nil)))
          (pg_tup rfl (pgs_cons (pg_name (i := 4) nd rfl (Or.inl rfl)) (pgs_cons (pg_tup rfl (pgs_cons (pg_name (i := 5) nd rfl (Or.inl rfl)) (pgs_cons (pg_name (i := 6) nd rfl (Or.inl rfl)) pgs_nil))) pgs_nil)))
        (pss_cons (ps_asg (pe_op op_sub (pe_op op_sub (pe_ix ix_list (pv 2) (pv 4) (fun _ _ => rfl)) (pv 5)) (pv 6)) (pg_sub (pv 2) (pv 4) set_list))
        (pss_cons (ps_asg (pe_op op_add (pe_ix ix_list (pv 2) (pe_op op_modN (pe_op op_add (pv 4) pe_int) (pv 3)) (fun _ _ => rfl)) (pv 5)) (pg_sub (pv 2) (pe_op op_modN (pe_op op_add (pv 4) pe_int) (pv 3)) set_list))
        (pss_one (ps_asg (pe_op op_add (pe_ix ix_list (pv 2) (pe_op op_modN (pe_op op_sub (pv 4) pe_int) (pv 3)) (fun _ _ => rfl)) (pv 6)) (pg_sub (pv 2) (pe_op op_modN (pe_op op_sub (pv 4) pe_int) (pv 3)) set_list))))))
      (pss_one (ps_ret (pe_callTy call_tuple_of rfl B.tuple bt_tuple (pa_cons (pv 2) pa_nil)))))), ?_⟩
    obtain ⟨p, rw, r, row, rfl, hp, hl, hrow, z⟩ := h
    have lr : (tI r).length = r.length := tI_len r
    refine ⟨_, rfl, p, tI r, rfl, .inr hp, fun u hu => ?_⟩
    have su := Same.new (o := .lst (tI r)) hu
    refine ⟨_, rfl, p, tI r, rfl, .inr (su.tup hp), ?_⟩
    refine ⟨_, rfl, p, r, rfl, su.tup hp, hl, fun H1 c s1 fc hc => ?_⟩
    obtain ⟨rps, hrp, hrt⟩ := lsT_same (su.trans s1) hrow
    have hu1 : H1 u = some (.lst (tI r)) := s1 _ _ upd_same
    have nrw : rw ≠ u := fun e => by
      obtain ⟨_, h0, _⟩ := hrow
      rw [e, hu] at h0
      cases h0
    have ncu : c ≠ u := fun e => by
      rw [e, upd_same] at fc
      cases fc
    have s1u : ∀ b o, b ≠ u → H b = some o → H1 b = some o := fun b o _ e => (su.trans s1) b o e
    refine ⟨_, rfl, c, rw, tN (hadPlaces r), rps.map V.ref, rfl, .of hc, .of hrp, ?_⟩
    have lrps : rps.length = row.length := by rw [hrt.length, List.length_map]
    refine for_it (walk_zip (K := K) (a := c) (b := rw) (xs := tN (hadPlaces r)) (ys := rps.map V.ref) (n := ((hadPlaces r).zip row).length) (by rw [tN_len, List.length_map, List.length_zip, lrps]))
      (fun i σ H' => ∃ v4 v5 v6 : Option V, σ = [some (.ref p), some (.ref rw), some (.ref u), some (.int r.length), v4, v5, v6] ∧ (∀ b o, b ≠ u → H1 b = some o → H' b = some o) ∧ H' u = some (.lst (tI (goneUp r.length (((hadPlaces r).zip row).take i) r)))) ?_ ?_ ?_ ?_
    · refine ⟨none, none, none, ?_, fun _ _ _ e => e, hu1⟩
      rw [lr]
      rfl
    · rintro i σ H' _ ⟨v4, v5, v6, _, s', _⟩
      exact ⟨.of (s' _ _ ncu hc), .of (s' _ _ nrw hrp)⟩
    · rintro i x σ H2 H3 hi ⟨v4, v5, v6, rfl, s2, h2⟩ ⟨T, x1, y1, rfl, hT, rfl, hx1, hy1⟩
      obtain ⟨pl, hpl, rfl⟩ := nat_at hx1
      obtain ⟨pr, hpr, rfl⟩ := ref_at hy1
      obtain ⟨prI, hprI, hprt⟩ := Paired.at hrt i pr hpr
      rw [List.getElem?_map] at hprI
      obtain ⟨pair, hpair, rfl⟩ := Option.map_eq_some_iff.mp hprI
      have hplr := mem_had (List.mem_of_getElem? hpl)
      have hn : 0 < r.length := by omega
      have sT := Same.new (o := .tup [V.int (pl : Nat), V.ref pr]) hT
      have hz : ((hadPlaces r).zip row)[i]? = some (pl, pair) := by
        rw [List.getElem?_zip_eq_some]
        exact ⟨hpl, hpair⟩
      have tupOf : ∀ {b : Addr} {xs : List V}, SqT K H1 b xs → SqT K (upd H2 T (.tup [V.int (pl : Nat), V.ref pr])) b xs := fun {b xs} h => sT.tup (by
        rcases h with (h | ⟨o, h⟩) | h
        · exact .inl (.inl (s2 _ _ (fun e => by rw [e, hu1] at h; cases h) h))
        · exact .inl (.inr ⟨o, s2 _ _ (fun e => by rw [e, hu1] at h; cases h) h⟩)
        · exact .inr h)
      generalize hg : goneUp r.length (((hadPlaces r).zip row).take i) r = g at h2
      have lg : g.length = r.length := by rw [← hg]; exact goneUp_len _ _ _
      have m1 : (pl + 1) % r.length < r.length := Nat.mod_lt _ hn
      have m2 : (pl + (r.length - 1)) % r.length < r.length := Nat.mod_lt _ hn
      refine ⟨T, _, rfl, SqT.of upd_same, rfl, _, _, rfl, _, _, rfl, ⟨pr, _, rfl, tupOf hprt, rfl, _, _, rfl, _, _, rfl, rfl, rfl, ?_⟩⟩
      refine ⟨_, rfl, _, rfl, u, _, _, _, rfl, rfl, .of (sT _ _ h2), ints_at (by omega), _, rfl, _, _, rfl, rfl, _, rfl, _, _, rfl, rfl, _, rfl, _, rfl, u, _, _, pl, rfl, rfl, sT _ _ h2, ix_nat (by rw [tI_len]; omega), ?_⟩
      rw [tI_set]
      refine ⟨_, rfl, _, rfl, _, _, rfl, rfl, _, rfl, _, _, rfl, rfl, by omega, u, _, _, _, rfl, congrArg V.int (fmod_p1 hn), .of upd_same, ints_at (by rw [List.length_set]; omega), _, rfl, _, _, rfl, rfl, _, rfl, _, rfl, _, _, rfl, rfl, _, rfl, _, _, rfl, rfl, by omega, u, _, _, _, rfl, congrArg V.int (fmod_p1 hn), upd_same, ix_nat (by rw [tI_len, List.length_set]; omega), ?_⟩
      rw [tI_set]
      refine ⟨_, rfl, _, rfl, _, _, rfl, rfl, _, rfl, _, _, rfl, rfl, by omega, u, _, _, _, rfl, congrArg V.int (fmod_m1 hn), .of upd_same, ints_at (by rw [List.length_set, List.length_set]; omega), _, rfl, _, _, rfl, rfl, _, rfl, _, rfl, _, _, rfl, rfl, _, rfl, _, _, rfl, rfl, by omega, u, _, _, _, rfl, congrArg V.int (fmod_m1 hn), upd_same, ix_nat (by rw [tI_len, List.length_set, List.length_set]; omega), ?_⟩
      rw [tI_set]
      refine ⟨_, _, _, rfl, fun b o hb e => ?_, ?_⟩
      · rw [upd_ne hb, upd_ne hb, upd_ne hb]
        exact sT _ _ (s2 b o hb e)
      · rw [take_more hz, goneUp_more, hg]
        exact upd_same
    · rintro σ H2 ⟨v4, v5, v6, rfl, s2, h2⟩
      rw [List.take_length] at h2
      refine ⟨_, rfl, u, _, rfl, .inl ⟨.of h2, fun q hq => z _ q (fun b o e => ?_) (SqT.of upd_same)⟩⟩
      have hb : b ≠ u := fun e' => by rw [e', hu] at e; cases e
      have e2 := s2 b o hb (s1u b o hb e)
      rw [upd_ne (ne_of_none e2 hq)]
      exact e2
def spHow (K : PySem.W.Frag) : Sp := fun vs H Q _ => ∃ (rw : Addr) (row : List (Int × Int)), vs = [.ref rw] ∧ LsT K H rw (row.map pI) ∧ row.length ≤ 50 ∧ ∀ H', Same H H' → Q (.int (howMany row)) H'
abbrev nHow : List Str := ["row", "first", "second"]
theorem sc_how : FnScope nHow ["row"] (defScope (top 20)) := ⟨rfl, rfl, rfl, by decide +kernel, rfl, by decide +kernel, by decide +kernel⟩
theorem ok_how (B : Bts mg) (D : GDef K mg "how_many" (top 20) ["row"]) : Cal P w K mg base CX0 1 "how_many" ["row"] (spHow K) := by
  refine D.cal fun f fd F => F.ok sc_how (fun vs H Q E h => ?_) (fun cdv A outer s H vs Q E hr h => ?_)
  · obtain ⟨rw, row, rfl, _⟩ := h
    rfl
  · have nd := sc_how.nd
    refine ⟨_, pss_one (ps_ret (pe_callB (cr_sum rfl) rfl B.sum bt_sum (pa_cons
      (pe_lc (own := [("first", 1), ("second", 2)]) (g := gTup K 2 (gCons (gName 1) (gCons (gName 2) gNil))) (tt := tYes) (te := tOp rAdd (tVar 1) (tVar 2)) rfl nd (pi_list (pv 0)) (blkOk_by (own := [("first", 1), ("second", 2)]) (N := nHow) (sc := defScope (top 20)) (by decide +kernel))
        (fun _ _ _ _ _ => pg_tup rfl (pgs_cons (pg_name (i := 1) nd rfl (Or.inl rfl)) (pgs_cons (pg_name (i := 2) nd rfl (Or.inl rfl)) pgs_nil))) (fun _ _ _ _ _ => pts_nil) (fun _ _ _ _ _ => pe_op op_add (pv 1) (pv 2))) pa_nil))), ?_⟩
    obtain ⟨rw, row, rfl, ⟨ps, hl, hps⟩, hlen, z⟩ := h
    have lps : ps.length = row.length := by rw [hps.length, List.length_map]
    refine ⟨_, rfl, rw, rfl, ⟨_, .of hl⟩, fun D hD => ?_⟩
    refine lc_map (walk_list (K := K) (a := rw) (xs := ps.map V.ref)) (FInt fun i => (fun q : Int × Int => q.1 + q.2) (row.getD i (0, 0))) stays_int hD (by rw [List.length_map]; omega) (fun H' s' => .of (s' _ _ hl)) ?_ ?_
    · rintro i x H2 H3 hi s2 ⟨rfl, hx⟩ Z hz
      obtain ⟨pr, hpr, rfl⟩ := ref_at hx
      obtain ⟨prI, hprI, hprt⟩ := Paired.at hps i pr hpr
      rw [List.getElem?_map] at hprI
      obtain ⟨pair, hpair, rfl⟩ := Option.map_eq_some_iff.mp hprI
      refine ⟨pr, _, rfl, s2.tup hprt, rfl, _, _, rfl, _, _, rfl, rfl, rfl, _, rfl, _, rfl, _, _, rfl, rfl, hz _ _ (Same.refl _) ?_⟩
      show V.int (pair.1 + pair.2) = V.int ((fun q : Int × Int => q.1 + q.2) (row.getD i (0, 0)))
      rw [getD_of hpair]
    · intro H2 acc s2 ha pr
      have ea := ints_of pr
      rw [List.length_map, lps] at ea
      have e : (List.range row.length).map (fun i => (fun q : Int × Int => q.1 + q.2) (row.getD i (0, 0))) = row.map fun q => q.1 + q.2 := by
        have h := congrArg (List.map fun q : Int × Int => q.1 + q.2) (range_getD ((0 : Int), (0 : Int)) row)
        rw [List.map_map] at h
        exact h
      rw [e] at ea
      subst ea
      exact ⟨D, _, rfl, .of ha, z H2 s2⟩
def spMay (K : PySem.W.Frag) : Sp := fun vs H Q _ => ∃ (many eager : Int) (moves : Nat), vs = [.int many, .int eager, .int moves] ∧ ∀ H', Same H H' → Q (.bl (mayBe many eager moves)) H'
abbrev nMay : List Str := ["many", "eager", "moves"]
theorem sc_may : FnScope nMay nMay (defScope (top 21)) := ⟨rfl, rfl, rfl, by decide +kernel, rfl, by decide +kernel, by decide +kernel⟩
theorem ok_may (Cc : Csts mg) (D : GDef K mg "may_be" (top 21) nMay) : Cal P w K mg base CX0 1 "may_be" nMay (spMay K) := by
  refine D.cal fun f fd F => F.ok sc_may (fun vs H Q E h => ?_) (fun cdv A outer s H vs Q E hr h => ?_)
  · obtain ⟨many, eager, moves, rfl, _⟩ := h
    rfl
  · have nd := sc_may.nd
    refine ⟨_, pss_cons (ps_if (pt_cmpR op_eq (pv 2) (pe_gi Cc.one) (nomark _)) (pss_one (ps_ret (pe_cmpR op_eq (pv 0) pe_int (nomark _)))) pss_nil)
      (pss_cons (ps_if (pt_cmpR op_eq (pv 2) (pe_gi Cc.sgo) (nomark _)) (pss_one (ps_ret (pe_cmpR op_ge (pv 0) pe_int (nomark _)))) pss_nil)
      (pss_one (ps_ret (pe_cmpR op_eq (pv 0) (pv 1) (nomark _))))), ?_⟩
    obtain ⟨many, eager, moves, rfl, z⟩ := h
    have z := z H (Same.refl H)
    unfold mayBe at z
    refine ⟨_, rfl, rfl, _, rfl, ?_⟩
    rw [dec_eq]
    by_cases c : moves = 0
    · rw [if_pos c] at z
      refine if_true_of (decide_eq_true (by omega)) ⟨_, rfl, rfl, ?_⟩
      rw [dec_eq]
      exact z
    · rw [if_neg c] at z
      refine if_false_of (decide_eq_false (by omega)) ?_
      refine ⟨_, rfl, rfl, _, rfl, ?_⟩
      rw [dec_eq]
      by_cases c1 : moves = 1
      · rw [if_pos c1] at z
        exact if_true_of (decide_eq_true (by omega)) ⟨_, rfl, _, _, rfl, rfl, z⟩
      · rw [if_neg c1] at z
        refine if_false_of (decide_eq_false (by omega)) ⟨_, rfl, _, rfl, rfl, ?_⟩
        rw [dec_eq]
        exact z
end
end Rf
/-! ## RfW9 -/
namespace Rf
open PySem PySem.Spec PyProof.Rows L2
section
variable {P : Program} {w : World} {K : PySem.W.Frag} {mg : Str → Option Value} {base : Heap}
def spBehindR (K : PySem.W.Frag) : Sp := fun vs H Q _ => ∃ (p sd dd : Addr) (r sides : List Int) (deeds : List Nat) (moves k n : Nat), vs = [.ref p, .ref sd, .ref dd, .int moves] ∧ SqT K H p (tI r) ∧ SqL K H sd (tI sides) ∧ SqT K H dd (tN deeds) ∧
  RingOk k n r ∧ k ≤ 3 ∧ n ≤ 7 ∧ sides.length = (hadPlaces r).length ∧ deeds.length = (hadPlaces r).length ∧
  ∀ H' q, Same H H' → H q = none → LsT K H' q (ringsBehind r sides deeds moves) → Q (.ref q) H'
abbrev nBehindR : List Str := ["ring", "sides", "deeds", "moves", "places", "eager", "place", "done", "row"]
theorem sc_behindR : FnScope nBehindR ["ring", "sides", "deeds", "moves"] (defScope (top 22)) := ⟨rfl, rfl, rfl, by decide +kernel, rfl, by decide +kernel, by decide +kernel⟩
theorem ok_behindR (B : Bts mg) (Cc : Csts mg) (D : GDef K mg "rings_behind" (top 22) ["ring", "sides", "deeds", "moves"]) (Ch : Cal P w K mg base CX0 1 "had_places" ["ring"] (spHad K)) (Ca : Cal P w K mg base CX0 2 "all_goings" ["ring", "sides", "deeds"] (spAllG K))
    (Cg : Cal P w K mg base CX0 2 "gone" ["ring", "row"] (spGone K)) (Co : Cal P w K mg base CX0 1 "how_many" ["row"] (spHow K)) (Cm : Cal P w K mg base CX0 1 "may_be" nMay (spMay K)) :
    Cal P w K mg base CX0 3 "rings_behind" ["ring", "sides", "deeds", "moves"] (spBehindR K) := by
  refine D.cal fun f fd F => F.ok sc_behindR (fun vs H Q E h => ?_) (fun cdv A outer s H vs Q E hr h => ?_)
  · obtain ⟨p, sd, dd, r, sides, deeds, moves, k, n, rfl, _⟩ := h
    rfl
  · have nd := sc_behindR.nd
    refine ⟨_, pss_cons (ps_set (i := 4) nd rfl (Or.inl rfl) (pe_c Ch hr (pa_cons (pv 0) pa_nil)))
      (pss_cons (ps_set (i := 5) nd rfl (Or.inr rfl) (pe_callB (cr_sum rfl) rfl B.sum bt_sum (pa_cons
        (pe_lc (own := [("place", 6), ("done", 7)]) (g := gTup K 2 (gCons (gName 6) (gCons (gName 7) gNil))) (tt := tTest (tOp rNe (tVar 7) (tC (.int 0)))) (te := tOp (rIxT K) (tVar 0) (tVar 6)) rfl nd
          (pi_zipLT rfl B.zip (pa_cons (pv 4) (pa_cons (pv 2) pa_nil))) (blkOk_by (own := [("place", 6), ("done", 7)]) (N := nBehindR) (sc := defScope (top 22)) (by decide +kernel))
          (fun _ _ _ _ _ => pg_tup rfl (pgs_cons (pg_name (i := 6) nd rfl (Or.inl rfl)) (pgs_cons (pg_name (i := 7) nd rfl (Or.inl rfl)) pgs_nil)))
          (fun _ _ _ _ _ => pts_one (pt_cmpR op_ne (pv 7) (pe_gi Cc.stay) (nomark _))) (fun _ _ _ _ _ => pe_ix ix_tup (pv 0) (pv 6) (fun _ _ => rfl))) pa_nil)))
      (pss_one (ps_ret (pe_lc (own := [("row", 8)]) (g := gName 8) (tt := tB (tCall (spMay K) [] E0 (tCons (tCall (spHow K) [] E0 (tCons (tVar 8) tNil)) (tCons (tVar 5) (tCons (tVar 3) tNil))))) (te := tCall (spGone K) [] E0 (tCons (tVar 0) (tCons (tVar 8) tNil))) rfl nd
          (pi_list (pe_c Ca hr (pa_cons (pv 0) (pa_cons (pv 1) (pa_cons (pv 2) pa_nil))))) (blkOk_by (own := [("row", 8)]) (N := nBehindR) (sc := defScope (top 22)) (by decide +kernel))
          (fun _ _ _ _ _ => pg_name (i := 8) nd rfl (Or.inl rfl)) (fun _ _ _ _ _ => pts_one (pt_val (pe_c Cm hr (pa_cons (pe_c Co hr (pa_cons (pv 8) pa_nil)) (pa_cons (pv 5) (pa_cons (pv 3) pa_nil))))))
          (fun _ _ _ _ _ => pe_c Cg hr (pa_cons (pv 0) (pa_cons (pv 8) pa_nil))))))), ?_⟩
    obtain ⟨p, sd, dd, r, sides, deeds, moves, k, n, rfl, hp, hsd, hdd, ok, hk, hn, ls, ld, z⟩ := h
    have lrow := ok.len
    have hfew := had_few ok
    refine ⟨_, rfl, p, r, rfl, hp, by omega, fun H1 c s1 fc hc => ?_⟩
    refine ⟨_, rfl, _, rfl, c, dd, tN (hadPlaces r), tN deeds, rfl, .of hc, s1.tup hdd, fun b hb => ?_⟩
    have lz : ((hadPlaces r).zip deeds).length = (hadPlaces r).length := by rw [List.length_zip, ld, Nat.min_self]
    refine lc_kept (walk_Z (K := K) (ss := [⟨c, false⟩, ⟨dd, true⟩]) (rows := [tN (hadPlaces r), tN deeds]) (n := ((hadPlaces r).zip deeds).length) rfl rfl ?_ rfl)
      (fun i => (fun q : Nat × Nat => decide (q.2 ≠ 0)) (((hadPlaces r).zip deeds).getD i (0, 0))) (FInt fun i => (fun q : Nat × Nat => r.getD q.1 0) (((hadPlaces r).zip deeds).getD i (0, 0))) stays_int hb (by omega)
      (fun H' s' => .cons (sqk_l (.of (s' _ _ hc))) (.cons (sqk_t (s'.tup (s1.tup hdd))) .nil)) ?_ ?_
    · intro x hx
      simp only [List.mem_cons, List.not_mem_nil, or_false] at hx
      rcases hx with e | e
      · rw [e, tN_len, lz]
      · rw [e, tN_len, lz, ld]
    · rintro i x H2 H3 hi s2 ⟨T, ys, rfl, hT, rfl, hys⟩ Z Z2 z1 z2
      cases hys with
      | cons h1 hys =>
      cases hys with
      | cons h2 hys =>
      cases hys
      obtain ⟨pl, hpl, rfl⟩ := nat_at h1
      obtain ⟨dv, hdv, rfl⟩ := nat_at h2
      have sT := Same.new (o := .tup [V.int (pl : Nat), V.int (dv : Nat)]) hT
      have hz : ((hadPlaces r).zip deeds)[i]? = some (pl, dv) := by
        rw [List.getElem?_zip_eq_some]
        exact ⟨hpl, hdv⟩
      have hplr := mem_had (List.mem_of_getElem? hpl)
      rw [getD_of hz] at z1 z2
      refine ⟨T, _, rfl, SqT.of upd_same, rfl, _, _, rfl, _, _, rfl, rfl, rfl, _, rfl, rfl, _, rfl, ?_⟩
      rw [dec_eq]
      by_cases c0 : dv = 0
      · rw [decide_eq_true (show (dv : Int) = 0 by omega)]
        exact iteF (z2 (by simp [c0]) _ sT)
      · rw [decide_eq_false (show ¬ (dv : Int) = 0 by omega)]
        refine iteT ⟨_, rfl, _, rfl, p, _, _, _, rfl, rfl, sT.tup (s2.tup (s1.tup hp)), ints_at hplr, z1 (by simp [c0]) _ _ sT ?_⟩
        show V.int (r.getD pl 0) = V.int ((fun q : Nat × Nat => r.getD q.1 0) (((hadPlaces r).zip deeds).getD i (0, 0)))
        rw [getD_of hz]
    · intro H2 acc s2 ha pr
      have ea := ints_of pr
      rw [filter_map_range ((0 : Nat), (0 : Nat)) (fun q => decide (q.2 ≠ 0)) (fun q => r.getD q.1 0)] at ea
      subst ea
      have s12 := s1.trans s2
      refine ⟨b, _, rfl, .of ha, ?_⟩
      have ee : (((((hadPlaces r).zip deeds).filter fun q => decide (q.2 ≠ 0)).map fun q => r.getD q.1 0)).sum = eagerOf r deeds := rfl
      rw [ee]
      refine ⟨_, rfl, _, rfl, _, rfl, p, sd, dd, r, sides, deeds, k, n, rfl, s12.tup hp, s12.seq hsd, s12.tup hdd, ok, hk, hn, ls, ld, fun H3 g s3 fg hg => ?_⟩
      obtain ⟨fs, hfl, _, hfs⟩ := hg
      have lfs : fs.length = (allGoings r sides deeds).length := by rw [hfs.length, List.length_map]
      have lz3 : ((hadPlaces r).zip (sides.zip deeds)).length ≤ 3 := by rw [List.length_zip]; omega
      have hsm : (allGoings r sides deeds).length ≤ 4096 := goingsUp_small ok hk lz3
      have s13 := s12.trans s3
      refine ⟨g, rfl, ⟨_, .of hfl⟩, fun d hd => ?_⟩
      refine lc_kept (walk_list (K := K) (a := g) (xs := fs.map V.ref)) (fun i => (fun row => mayBe (howMany row) (eagerOf r deeds) moves) ((allGoings r sides deeds).getD i [])) (FTup K fun i => gone r ((allGoings r sides deeds).getD i [])) stays_tup hd
        (by rw [List.length_map]; omega) (fun H' s' => .of (s' _ _ hfl)) ?_ ?_
      · rintro i x H5 H4 hi s4 ⟨rfl, hx⟩ Z Z2 z1 z2
        obtain ⟨fj, hfj, rfl⟩ := ref_at hx
        obtain ⟨rowI, hrow, hrl⟩ := Paired.at hfs i fj hfj
        rw [List.getElem?_map] at hrow
        obtain ⟨row, hrow2, rfl⟩ := Option.map_eq_some_iff.mp hrow
        have hlr := goingsRow_len r _ (List.mem_of_getElem? hrow2)
        have gd := getD_of (d := []) hrow2
        rw [gd] at z1 z2
        refine ⟨rfl, _, rfl, fj, row, rfl, lsT_same s4 hrl, by omega, fun H6 s6 => ⟨_, rfl, _, rfl, _, _, moves, rfl, fun H7 s7 => ⟨_, rfl, ?_⟩⟩⟩
        cases cm : mayBe (howMany row) (eagerOf r deeds) moves with
        | true =>
          refine iteT ⟨_, rfl, _, rfl, p, fj, r, row, rfl, s7.tup (s6.tup (s4.tup (s13.tup hp))), by omega, lsT_same (s6.trans s7) (lsT_same s4 hrl), fun H8 q s8 h8 => z1 cm _ _ ((s6.trans s7).trans s8) ⟨q, rfl, ?_⟩⟩
          show SqT K H8 q (tI (gone r ((allGoings r sides deeds).getD i [])))
          rw [gd]
          exact h8
        | false => exact iteF (z2 cm _ (s6.trans s7))
      · intro H4 acc s4 ha4 pr4
        obtain ⟨qs, rfl, hqs⟩ := tups_of pr4
        refine z H4 d (s13.trans s4) (s13.free hd) ⟨qs, ha4, ?_⟩
        rw [List.length_map, lfs, filter_map_range ([] : List (Int × Int)) (fun row => mayBe (howMany row) (eagerOf r deeds) moves) (fun row => gone r row)] at hqs
        exact hqs
end
end Rf
/-! ## RfM6 -/
namespace Rf
/-! ### bits -/
theorem bitsOf_cast (l : List Nat) : (l.map fun i => (1 : Int) * 2 ^ i).sum = ((bitsOf l : Nat) : Int) := by
  induction l with
  | nil => rfl
  | cons x l ih =>
    have e : bitsOf (x :: l) = 2 ^ x + bitsOf l := by simp [bitsOf]
    rw [List.map_cons, List.sum_cons, ih, e]
    simp
theorem and_one (b i : Nat) : (b / 2 ^ i) &&& 1 = if b.testBit i = true then 1 else 0 := by
  rw [Nat.and_one_is_mod, Nat.testBit_eq_decide_div_mod_eq]
  by_cases c : b / 2 ^ i % 2 = 1
  · rw [if_pos (decide_eq_true c)]
    exact c
  · rw [if_neg (by simpa using c)]
    omega
theorem members_zero : members 0 = [] := by decide
/-! ### subsets -/
def mayAdd (row : List Nat) (x : Nat) : Bool := decide (row = []) || decide (row.getLastD 0 < x)
def setsStep (ns : List Nat) (found : List (List Nat)) : List (List Nat) := found.flatMap fun row => (ns.filter fun x => mayAdd row x).map fun x => row ++ [x]
def setsUp (ns : List Nat) : Nat → List (List Nat)
  | 0 => [[]]
  | n + 1 => setsStep ns (setsUp ns n)
def fewest (gathered marked : List Nat) : List Nat := (((List.range (marked.length + 1)).flatMap fun m => setsUp marked m).find? fun s => !(gathered.any fun one => decide (one &&& bitsOf s = bitsOf s))).getD marked
theorem setsStep_app (ns : List Nat) (a b : List (List Nat)) : setsStep ns (a ++ b) = setsStep ns a ++ setsStep ns b := List.flatMap_append
theorem setsStep_one (ns row : List Nat) : setsStep ns [row] = (ns.filter fun x => mayAdd row x).map fun x => row ++ [x] := by
  unfold setsStep
  simp
theorem setsStep_len (ns : List Nat) : ∀ found : List (List Nat), (setsStep ns found).length ≤ ns.length * found.length
  | [] => by simp [setsStep]
  | row :: l => by
    have ih := setsStep_len ns l
    have e : setsStep ns (row :: l) = setsStep ns [row] ++ setsStep ns l := setsStep_app ns [row] l
    have g := List.length_filter_le (fun x => mayAdd row x) ns
    rw [e, List.length_append, setsStep_one, List.length_map, List.length_cons, Nat.mul_succ]
    omega
theorem setsUp_len (ns : List Nat) : ∀ m, (setsUp ns m).length ≤ ns.length ^ m
  | 0 => by simp [setsUp]
  | m + 1 => by
    have ih := setsUp_len ns m
    refine Nat.le_trans (setsStep_len ns _) ?_
    rw [Nat.pow_succ, Nat.mul_comm]
    exact Nat.mul_le_mul_right _ ih
theorem setsUp_row (ns : List Nat) : ∀ m row, row ∈ setsUp ns m → row.length = m ∧ ∀ x ∈ row, x ∈ ns
  | 0, row, h => by
    have e : row = [] := by simpa [setsUp] using h
    subst e
    simp
  | m + 1, row, h => by
    obtain ⟨r0, h0, h1⟩ := List.mem_flatMap.mp (show row ∈ setsStep ns (setsUp ns m) from h)
    obtain ⟨x, hx, rfl⟩ := List.mem_map.mp h1
    obtain ⟨l0, m0⟩ := setsUp_row ns m r0 h0
    refine ⟨by rw [List.length_append, l0]; rfl, fun y hy => ?_⟩
    rcases List.mem_append.mp hy with z | z
    · exact m0 y z
    · have e : y = x := by simpa using z
      rw [e]
      exact (List.mem_filter.mp hx).1
end Rf
namespace Rf
theorem find_first {α : Type} {p : α → Bool} {a b : List α} {s : α} (h : ∀ x ∈ a, p x = false) (hs : p s = true) : (a ++ s :: b).find? p = some s := by
  rw [List.find?_append]
  have e : a.find? p = none := List.find?_eq_none.mpr fun x hx => by rw [h x hx]; decide
  rw [e]
  simp [hs]
theorem range_split {i n : Nat} (h : i < n) : ∃ t, List.range n = List.range i ++ i :: t := by
  refine ⟨(List.range n).drop (i + 1), ?_⟩
  have h1 := (List.take_append_drop i (List.range n)).symm
  rw [List.take_range, Nat.min_eq_left (Nat.le_of_lt h), List.drop_eq_getElem_cons (by rw [List.length_range]; exact h)] at h1
  simpa using h1
def missed (gathered : List Nat) (s : List Nat) : Bool := !(gathered.any fun one => decide (one &&& bitsOf s = bitsOf s))
theorem fewest_found {gs ms : List Nat} {i j : Nat} {s : List Nat} (hi : i < ms.length + 1) (hj : (setsUp ms i)[j]? = some s) (h1 : ∀ x ∈ (List.range i).flatMap (setsUp ms), missed gs x = false) (h2 : ∀ x ∈ (setsUp ms i).take j, missed gs x = false) (hs : missed gs s = true) : fewest gs ms = s := by
  obtain ⟨t, ht⟩ := range_split hi
  obtain ⟨hlt, hg⟩ := List.getElem?_eq_some_iff.mp hj
  have e1 : setsUp ms i = (setsUp ms i).take j ++ s :: (setsUp ms i).drop (j + 1) := by
    have h := (List.take_append_drop j (setsUp ms i)).symm
    rw [List.drop_eq_getElem_cons hlt, hg] at h
    exact h
  have e : (List.range (ms.length + 1)).flatMap (setsUp ms) = ((List.range i).flatMap (setsUp ms) ++ (setsUp ms i).take j) ++ s :: ((setsUp ms i).drop (j + 1) ++ t.flatMap (setsUp ms)) := by
    rw [ht, List.flatMap_append, List.flatMap_cons, List.append_assoc]
    conv => lhs; rw [e1]
    simp
  have f := find_first (p := missed gs) (a := (List.range i).flatMap (setsUp ms) ++ (setsUp ms i).take j) (b := (setsUp ms i).drop (j + 1) ++ t.flatMap (setsUp ms)) (s := s)
    (fun x hx => (List.mem_append.mp hx).elim (h1 x) (h2 x)) hs
  rw [← e] at f
  show (((List.range (ms.length + 1)).flatMap (setsUp ms)).find? (missed gs)).getD ms = s
  rw [f]
  rfl
theorem fewest_none {gs ms : List Nat} (h1 : ∀ x ∈ (List.range (ms.length + 1)).flatMap (setsUp ms), missed gs x = false) : fewest gs ms = ms := by
  have e : ((List.range (ms.length + 1)).flatMap (setsUp ms)).find? (missed gs) = none := List.find?_eq_none.mpr fun x hx => by rw [h1 x hx]; decide
  show (((List.range (ms.length + 1)).flatMap (setsUp ms)).find? (missed gs)).getD ms = ms
  rw [e]
  rfl
end Rf
/-! ## RfW10 -/
namespace Rf
open PySem PySem.Spec PyProof.Rows L2
abbrev rShl : R2 := rI CPow fun i j => .int (i * 2 ^ j.toNat)
abbrev rShr : R2 := rI (fun _ j => 0 ≤ j) fun i j => .int (i / 2 ^ j.toNat)
abbrev rAnd : R2 := rI0 fun i j => .int (Builtin.bitAnd i j)
abbrev rOr : R2 := rI0 fun i j => .int (Builtin.bitOr i j)
theorem and_nat (a b : Nat) : Builtin.bitAnd (a : Int) (b : Int) = ((a &&& b : Nat) : Int) := by
  rw [PySem.Builtin.bitAnd]
  simp
theorem shr_nat (b i : Nat) : (b : Int) / 2 ^ ((i : Int)).toNat = ((b / 2 ^ i : Nat) : Int) := by
  rw [Int.toNat_natCast]
  simp
section
variable {P : Program} {w : World} {K : PySem.W.Frag} {mg : Str → Option Value} {base : Heap}
def spBits (K : PySem.W.Frag) : Sp := fun vs H Q _ => ∃ (q : Addr) (l : List Nat), vs = [.ref q] ∧ SqL K H q (tN l) ∧ l.length ≤ 1000 ∧ (∀ x ∈ l, x ≤ 1000) ∧ ∀ H', Same H H' → Q (.int (bitsOf l : Nat)) H'
abbrev nBits : List Str := ["numbers", "number"]
theorem sc_bits : FnScope nBits ["numbers"] (defScope (top 26)) := ⟨rfl, rfl, rfl, by decide +kernel, rfl, by decide +kernel, by decide +kernel⟩
theorem ok_bits (B : Bts mg) (D : GDef K mg "bits_of" (top 26) ["numbers"]) : Cal P w K mg base CX0 1 "bits_of" ["numbers"] (spBits K) := by
  refine D.cal fun f fd F => F.ok sc_bits (fun vs H Q E h => ?_) (fun cdv A outer s H vs Q E hr h => ?_)
  · obtain ⟨q, l, rfl, _⟩ := h
    rfl
  · have nd := sc_bits.nd
    refine ⟨_, pss_one (ps_ret (pe_callB (cr_sum rfl) rfl B.sum bt_sum (pa_cons
      (pe_lc (own := [("number", 1)]) (g := gName 1) (tt := tYes) (te := tOp rShl (tC (.int 1)) (tVar 1)) rfl nd (pi_list (pv 0)) (blkOk_by (own := [("number", 1)]) (N := nBits) (sc := defScope (top 26)) (by decide +kernel))
        (fun _ _ _ _ _ => pg_name (i := 1) nd rfl (Or.inl rfl)) (fun _ _ _ _ _ => pts_nil) (fun _ _ _ _ _ => pe_op op_shl pe_int (pv 1))) pa_nil))), ?_⟩
    obtain ⟨q, l, rfl, hq, hl, hx, z⟩ := h
    refine ⟨_, rfl, q, rfl, ⟨_, hq⟩, fun D hD => ?_⟩
    refine lc_map (walk_list (K := K) (a := q) (xs := tN l)) (FInt fun i => (fun x : Nat => (1 : Int) * 2 ^ x) (l.getD i 0)) stays_int hD (by rw [tN_len]; omega) (fun H' s' => s'.seq hq) ?_ ?_
    · rintro i x H2 H3 hi s2 ⟨rfl, hy⟩ Z hz
      obtain ⟨v, hv, rfl⟩ := nat_at hy
      have := hx v (List.mem_of_getElem? hv)
      refine ⟨rfl, _, rfl, _, _, rfl, rfl, ⟨by omega, by omega, by decide⟩, hz _ _ (Same.refl _) ?_⟩
      show V.int ((1 : Int) * 2 ^ ((v : Int)).toNat) = V.int ((fun x : Nat => (1 : Int) * 2 ^ x) (l.getD i 0))
      rw [getD_of hv, Int.toNat_natCast]
    · intro H2 acc s2 ha pr
      have ea := ints_of pr
      rw [tN_len] at ea
      have e : (List.range l.length).map (fun i => (fun x : Nat => (1 : Int) * 2 ^ x) (l.getD i 0)) = l.map fun x => (1 : Int) * 2 ^ x := by
        have h := congrArg (List.map fun x : Nat => (1 : Int) * 2 ^ x) (range_getD 0 l)
        rw [List.map_map] at h
        exact h
      rw [e] at ea
      subst ea
      refine ⟨D, _, rfl, .of ha, ?_⟩
      rw [bitsOf_cast]
      exact z H2 s2
def spMembers (K : PySem.W.Frag) : Sp := fun vs H Q _ => ∃ b : Nat, vs = [.int b] ∧ b < 2 ^ 50 ∧ ∀ H' q, Same H H' → H q = none → H' q = some (.lst (tN (members b))) → Q (.ref q) H'
abbrev nMembers : List Str := ["bits", "number"]
theorem sc_members : FnScope nMembers ["bits"] (defScope (top 27)) := ⟨rfl, rfl, rfl, by decide +kernel, rfl, by decide +kernel, by decide +kernel⟩
theorem ok_members (B : Bts mg) (D : GDef K mg "members" (top 27) ["bits"]) : Cal P w K mg base CX0 1 "members" ["bits"] (spMembers K) := by
  refine D.cal fun f fd F => F.ok sc_members (fun vs H Q E h => ?_) (fun cdv A outer s H vs Q E hr h => ?_)
  · obtain ⟨b, rfl, _⟩ := h
    rfl
  · have nd := sc_members.nd
    refine ⟨_, pss_one (ps_ret (pe_lc (own := [("number", 1)]) (g := gName 1) (tt := tTest (tOp rEq (tOp rAnd (tOp rShr (tVar 0) (tVar 1)) (tC (.int 1))) (tC (.int 1)))) rfl nd
        (pi_range1 rfl B.range (pa_cons (pe_bits (pv 0)) pa_nil)) (blkOk_by (own := [("number", 1)]) (N := nMembers) (sc := defScope (top 27)) (by decide +kernel))
        (fun _ _ _ _ _ => pg_name (i := 1) nd rfl (Or.inl rfl)) (fun _ _ _ _ _ => pts_one (pt_cmpR op_eq (pe_op op_and (pe_op op_shr (pv 0) (pv 1)) pe_int) pe_int (nomark _))) (fun _ _ _ _ _ => pv 1))), ?_⟩
    obtain ⟨b, rfl, hb, z⟩ := h
    have hlog : b.log2 + 1 ≤ 50 ∨ b = 0 := by
      by_cases c : b = 0
      · exact .inr c
      · exact .inl ((Nat.log2_lt c).mpr hb)
    have eb : Builtin.Int.intBits (b : Int) = if b = 0 then 0 else b.log2 + 1 := by
      unfold Builtin.Int.intBits
      by_cases c : b = 0
      · simp [c]
      · simp [c]
    have hle : Builtin.Int.intBits (b : Int) ≤ 50 := by
      rw [eb]
      split <;> omega
    refine ⟨_, rfl, _, rfl, _, rfl, by omega, by omega, fun D hD => ?_⟩
    refine lc_kept walk_rg (fun i => b.testBit i) (FInt fun i => (i : Int)) stays_int hD (by omega) (fun _ _ => trivial) ?_ ?_
    · rintro i x H2 H3 hi s2 ⟨rfl, rfl⟩ Z Z2 z1 z2
      refine ⟨rfl, _, rfl, _, rfl, _, _, rfl, rfl, by omega, _, _, rfl, rfl, rfl, _, rfl, ?_⟩
      have e : decide (V.int (Builtin.bitAnd ((b : Int) / 2 ^ ((i : Int)).toNat) 1) = V.int 1) = b.testBit i := by
        have h := and_nat (b / 2 ^ i) 1
        rw [dec_eq, shr_nat]
        have h' : Builtin.bitAnd ((b / 2 ^ i : Nat) : Int) 1 = (((b / 2 ^ i) &&& 1 : Nat) : Int) := h
        rw [h', and_one]
        cases b.testBit i <;> simp
      rw [e]
      cases c : b.testBit i with
      | true => exact iteT ⟨_, rfl, z1 c _ _ (Same.refl _) rfl⟩
      | false => exact iteF (z2 c _ (Same.refl _))
    · intro H2 acc s2 ha pr
      have ea := ints_of pr
      have en : ((Builtin.Int.intBits (b : Int) : Nat) : Int).toNat = Builtin.Int.intBits (b : Int) := Int.toNat_natCast _
      rw [en] at ea
      have em : (List.range (Builtin.Int.intBits (b : Int))).filter (fun i => b.testBit i) = members b := by
        rw [eb]
        by_cases c : b = 0
        · rw [c, members_zero]
          rfl
        · rw [if_neg c]
          rfl
      rw [em] at ea
      subst ea
      exact z H2 D s2 hD ha
end
end Rf
/-! ## RfW11 -/
namespace Rf
open PySem PySem.Spec PyProof.Rows L2
abbrev rNeg : V → Hp → VK → Prop := rU fun i => .int (-i)
/-! ### lists of lists of numbers -/
section
variable {K : PySem.W.Frag} {H H' : Hp} {q D : Addr}
abbrev Lns (H : Hp) (fs : List Addr) (rows : List (List Nat)) : Prop := Paired (fun f r => H f = some (.lst (tN r))) fs rows
theorem lns_same (s : Same H H') : ∀ {fs : List Addr} {rows : List (List Nat)}, Lns H fs rows → Lns H' fs rows
  | _, _, .nil => .nil
  | _, _, .cons h t => .cons (s _ _ h) (lns_same s t)
theorem lns_put {o : HO} : ∀ {fs : List Addr} {rows : List (List Nat)}, (∀ f ∈ fs, f ≠ D) → Lns H fs rows → Lns (upd H D o) fs rows
  | _, _, _, .nil => .nil
  | _, _, n, .cons h t => .cons (by rw [upd_ne (n _ List.mem_cons_self)]; exact h) (lns_put (fun f hf => n f (List.mem_cons_of_mem _ hf)) t)
theorem lns_app {fs' : List Addr} {rows' : List (List Nat)} (h' : Lns H fs' rows') : ∀ {fs : List Addr} {rows : List (List Nat)}, Lns H fs rows → Lns H (fs ++ fs') (rows ++ rows')
  | _, _, .nil => h'
  | _, _, .cons h t => .cons h (lns_app h' t)
def LnT (H : Hp) (q : Addr) (rows : List (List Nat)) : Prop := ∃ fs : List Addr, H q = some (.lst (fs.map V.ref)) ∧ (∀ f ∈ fs, f ≠ q) ∧ Lns H fs rows
def FLn (av : List Addr) (f : Nat → List Nat) : Nat → V → Hp → Prop := fun i y H => ∃ q, y = .ref q ∧ (∀ a ∈ av, q ≠ a) ∧ H q = some (.lst (tN (f i)))
theorem stays_ln {av : List Addr} {f : Nat → List Nat} (hD : D ∈ av) : Stays (FLn av f) D :=
  ⟨fun _ _ _ _ s ⟨q, e, n, h⟩ => ⟨q, e, n, s _ _ h⟩, fun _ _ _ _ _ _ ⟨q, e, n, h⟩ => ⟨q, e, n, by rw [upd_ne (n D hD)]; exact h⟩⟩
theorem ln_of {av : List Addr} {f : Nat → List Nat} : ∀ {is : List Nat} {acc : List V}, Paired (fun i y => FLn av f i y H) is acc → ∃ qs : List Addr, acc = qs.map V.ref ∧ (∀ q ∈ qs, ∀ a ∈ av, q ≠ a) ∧ Lns H qs (is.map f)
  | _, _, .nil => ⟨[], rfl, (fun _ h => nomatch h), .nil⟩
  | _, _, .cons ⟨q, e, n, h⟩ t => by
    obtain ⟨qs, e2, n2, h2⟩ := ln_of t
    refine ⟨q :: qs, by rw [e, e2]; rfl, fun p hp => ?_, .cons h h2⟩
    rcases List.mem_cons.mp hp with z | z
    · rw [z]; exact n
    · exact n2 p z
end
/-- filter with the list's new place in hand -/
theorem lc_keptD {J : It} {n : Nat} {G : Hp → Prop} {Y : Nat → Hp → V → Hp → Prop} (w : Walk J n G Y) {g : TG} {tt : TT} {te : TE} {vs : List Nat} {σ : L2.St} {H1 : Hp} {D : Addr} {Qd : Hp → Prop} (p : Nat → Bool) (F : Nat → V → Hp → Prop) (hF : Stays F D) (hD : H1 D = none) (hn : n ≤ 100000)
    (hG : ∀ H, Same H1 H → G H)
    (turn : ∀ i x H H', i < n → Same H1 H → (∃ acc, H D = some (.lst acc)) → Y i H x H' → ∀ (Z : V → Hp → Prop) (Z2 : Hp → Prop), (p i = true → ∀ y H4, Same H H4 → F i y H4 → Z y H4) → (p i = false → ∀ H3, Same H H3 → Z2 H3) →
      g x (wipe σ vs) H' fun σ2 H2 => wipe σ2 vs = wipe σ vs ∧ tt σ2 H2 fun b H3 => if b = true then te σ2 H3 Z else Z2 H3)
    (hd : ∀ H acc, Same H1 H → H D = some (.lst acc) → Paired (fun i y => F i y H) ((List.range n).filter p) acc → Qd H) :
    ∃ W : Nat → Nat → Hp → Prop, (∃ m, W 0 m (upd H1 D (.lst []))) ∧ ∀ i m H, W i m H →
      (J.stop i H ∧ Qd H) ∨ (J.go i H ∧ ∃ Nx : Hp → Prop, (∀ H', Nx H' → ∃ m', m' < m ∧ W (i + 1) m' H') ∧ ∀ x H', J.yld i H x H' → g x (wipe σ vs) H' fun σ2 H2 => wipe σ2 vs = wipe σ vs ∧ tt σ2 H2 fun b H3 =>
        if b = true then te σ2 H3 fun y H4 => ∃ acc, H4 D = some (.lst acc) ∧ acc.length < sizeLine ∧ Nx (upd H4 D (.lst (acc ++ [y]))) else Nx H3) := by
  have small : ∀ {m : Nat}, m ≤ 100000 → m < sizeLine := fun {m} h => Nat.lt_of_le_of_lt h (by decide)
  refine lc_it w (fun i H => Same H1 H ∧ ∃ acc, H D = some (.lst acc) ∧ Paired (fun i y => F i y H) ((List.range i).filter p) acc) ⟨Same.new hD, [], upd_same, .nil⟩ (fun i H _ h => hG H h.1) ?_ ?_
  · rintro i x H H' hi ⟨s, acc, ha, pr⟩ y
    refine turn i x H H' hi s ⟨acc, ha⟩ y _ _ (fun hp y H4 s4 f => ?_) (fun hp H3 s3 => ?_)
    · have a4 := s4 _ _ ha
      have lp := Paired.length pr
      have lf : ((List.range i).filter p).length ≤ i := Nat.le_trans (List.length_filter_le _ _) (by rw [List.length_range]; exact Nat.le_refl _)
      refine ⟨acc, a4, small (by omega), (s.trans s4).put hD, acc ++ [y], upd_same, ?_⟩
      rw [List.range_succ, List.filter_append]
      have one : List.filter p [i] = [i] := by simp [List.filter, hp]
      rw [one]
      exact stays_put hF a4 (paired_more (R := fun i y => F i y H4) f (stays_paired hF s4 pr))
    · refine ⟨s.trans s3, acc, s3 _ _ ha, ?_⟩
      rw [List.range_succ, List.filter_append]
      have one : List.filter p [i] = [] := by simp [List.filter, hp]
      rw [one, List.append_nil]
      exact stays_paired hF s3 pr
  · rintro H ⟨s, acc, ha, pr⟩
    exact hd H acc s ha pr
theorem size_eight {a b : Nat} (ha : a ≤ 8) (hb : b ≤ 8) : a ^ b ≤ sizeLine := by
  have h1 : a ^ b ≤ 8 ^ b := Nat.pow_le_pow_left ha b
  have h2 : (8 : Nat) ^ b ≤ 8 ^ 8 := Nat.pow_le_pow_right (by decide) hb
  exact Nat.le_trans h1 (Nat.le_trans h2 (by decide))
section
variable {P : Program} {w : World} {K : PySem.W.Frag} {mg : Str → Option Value} {base : Heap}
def spSets (K : PySem.W.Frag) : Sp := fun vs H Q _ => ∃ (q : Addr) (ns : List Nat) (m : Nat), vs = [.ref q, .int m] ∧ SqL K H q (tN ns) ∧ ns.length ≤ 8 ∧ m ≤ 8 ∧ ∀ H' q, Same H H' → H q = none → LnT H' q (setsUp ns m) → Q (.ref q) H'
abbrev nSets : List Str := ["numbers", "many", "found", "turn", "longer", "row", "number"]
theorem sc_sets : FnScope nSets ["numbers", "many"] (defScope (top 28)) := ⟨rfl, rfl, rfl, by decide +kernel, rfl, by decide +kernel, by decide +kernel⟩
theorem ok_sets (B : Bts mg) (D : GDef K mg "sets_of" (top 28) ["numbers", "many"]) : Cal P w K mg base CX0 1 "sets_of" ["numbers", "many"] (spSets K) := by
  refine D.cal fun f fd F => F.ok sc_sets (fun vs H Q E h => ?_) (fun cdv A outer s H vs Q E hr h => ?_)
  · obtain ⟨q, ns, m, rfl, _⟩ := h
    rfl
  · have nd := sc_sets.nd
    refine ⟨_, pss_cons (ps_set (i := 2) nd rfl (Or.inl rfl) (pe_lst (pa_cons (pe_lst pa_nil) pa_nil)))
      (pss_cons (ps_for PassesOwn.never rfl (pi_range1 rfl B.range (pa_cons (pv 1) pa_nil)) (pg_name (i := 3) nd rfl (Or.inl rfl))
        (pss_cons (ps_set (i := 4) nd rfl (Or.inl rfl) (pe_lst pa_nil))
        (pss_cons (ps_for PassesOwn.never rfl (pi_list (pv 2)) (pg_name (i := 5) nd rfl (Or.inr rfl))
          (pss_one (ps_expr (pe_bm PySem.F.plainAttrs_list PySem.F.slot_list_extend PySem.F.type_list_extend mt_extend (pv 4) (pa_cons
            (pe_lc (own := [("number", 6)]) (g := gName 6) (tt := tOr (tTest (tOp (rEqD K) (tVar 5) (tLst tNil))) (tTest (tOp rGt (tVar 6) (tOp (rIxL K) (tVar 5) (tUn rNeg (tC (.int 1))))))) rfl nd (pi_list (pv 0)) (blkOk_by (own := [("number", 6)]) (N := nSets) (sc := defScope (top 28)) (by decide +kernel))
              (fun _ _ _ _ _ => pg_name (i := 6) nd rfl (Or.inl rfl))
              (fun _ _ _ _ _ => pts_one (PW.pt (pw_or (pt_cmpR (op_eqD hr.units) (pv 5) (pe_lst pa_nil) (nomark _)) (pw_or1 (pt_cmpR op_gt (pv 6) (pe_ix ix_list (pv 5) (pe_un un_neg pe_int) (fun _ _ => rfl)) (nomark _))))))
              (fun _ _ _ _ _ => pe_op op_cat (pv 5) (pe_lst (pa_cons (pv 6) pa_nil)))) pa_nil)))))
        (pss_one (ps_set (i := 2) nd rfl (Or.inl rfl) (pv 4))))))
      (pss_one (ps_ret (pv 2)))), ?_⟩
    obtain ⟨q, ns, m, rfl, hq, hns, hm, z⟩ := h
    refine ⟨(by show 0 ≤ sizeLine; decide), fun e0 he0 => ⟨(by show 1 ≤ sizeLine; decide), fun f0 hf0 => ?_⟩⟩
    have s0 : Same H (upd (upd H e0 (.lst [])) f0 (.lst [.ref e0])) := (Same.new he0).put ((Same.new he0).free hf0)
    have ef : e0 ≠ f0 := (Same.refl (upd H e0 (.lst []))).lt upd_same hf0 |>.symm
    refine ⟨_, rfl, m, rfl, by omega, by omega, ?_⟩
    refine for_it walk_rg (fun i σ H' => ∃ (fa : Addr) (v3 v4 v5 : Option V), σ = [some (.ref q), some (.int m), some (.ref fa), v3, v4, v5, none] ∧ Same H H' ∧ H fa = none ∧ LnT H' fa (setsUp ns i)) ?_ (fun _ _ _ _ _ => trivial) ?_ ?_
    · refine ⟨f0, none, none, none, rfl, s0, (Same.new he0).free hf0, [e0], upd_same, fun f hf => ?_, .cons ?_ .nil⟩
      · have e : f = e0 := by simpa using hf
        rw [e]
        exact ef
      · rw [upd_ne ef]
        exact upd_same
    · rintro i x σ H2 H1 hi ⟨fa, v3, v4, v5, rfl, s1, hfa, fs, hl, hnf, hps⟩ ⟨rfl, rfl⟩
      refine ⟨(by show 0 ≤ sizeLine; decide), fun g hg => ?_⟩
      have pg := Same.new (o := .lst []) hg
      have hlg := pg _ _ hl
      refine ⟨_, rfl, fa, rfl, ⟨_, .of hlg⟩, ?_⟩
      have hi7 : i + 1 ≤ 8 := by
        have e : (m : Int).toNat = m := Int.toNat_natCast m
        omega
      have hrows := hps.length
      have hgH : H g = none := s1.free hg
      refine for_it (walk_list (K := K) (a := fa) (xs := fs.map V.ref)) (fun j σ H' => ∃ (v5 : Option V), σ = [some (.ref q), some (.int m), some (.ref fa), some (.int i), some (.ref g), v5, none] ∧
        Same H1 H' ∧ LnT H' g (setsStep ns ((setsUp ns i).take j))) ?_ ?_ ?_ ?_
      · exact ⟨v5, rfl, pg, [], upd_same, (fun _ h => nomatch h), .nil⟩
      · rintro j σ H3 _ ⟨v, _, s3, _⟩
        exact .of (s3 _ _ hl)
      · rintro j y σ H4 H3 hj ⟨v, rfl, s3, gs, hgl, hng, hgs⟩ ⟨rfl, hy⟩
        obtain ⟨fj, hfj, rfl⟩ := ref_at hy
        obtain ⟨row, hrow, hrl⟩ := Paired.at hps j fj hfj
        have hrl3 := s3 _ _ hrl
        obtain ⟨rlen, rmem⟩ := setsUp_row ns i row (List.mem_of_getElem? hrow)
        refine ⟨_, rfl, .inl ⟨rfl, _, .of hgl⟩, ?_⟩
        refine ⟨_, rfl, q, rfl, ⟨_, s3.seq (s1.seq hq)⟩, fun b hb => ?_⟩
        refine lc_keptD (walk_list (K := K) (a := q) (xs := tN ns)) (fun x => mayAdd row (ns.getD x 0)) (FLn [b, g] fun x => row ++ [ns.getD x 0]) (stays_ln (by simp)) hb (by rw [tN_len]; omega) (fun H' s' => s'.seq (s3.seq (s1.seq hq))) ?_ ?_
        · rintro x y H6 H5 hx s5 ⟨bacc, hbl⟩ ⟨rfl, hy⟩ Z Z2 z1 z2
          obtain ⟨v, hv, rfl⟩ := nat_at hy
          have gv := getD_of (d := 0) hv
          rw [gv] at z1 z2
          have made : ∀ H7, Same H5 H7 → mayAdd row v = true → tOp rCat (tVar 5) (tLst (tCons (tVar 6) tNil)) [some (.ref q), some (.int m), some (.ref fa), some (.int i), some (.ref g), some (.ref fj), some (.int (v : Nat))] H7 Z := fun H7 s7 hm => by
            refine ⟨_, rfl, _, rfl, (by show 1 ≤ sizeLine; decide), fun u hu => ?_⟩
            have su := Same.new (o := .lst [V.int (v : Nat)]) hu
            have h7 := s7 _ _ (s5 _ _ hrl3)
            refine ⟨fj, u, _, _, rfl, rfl, su _ _ h7, upd_same, ?_, fun q2 hq2 => ?_⟩
            · rw [tN_len]
              exact small_line (by show row.length + 1 ≤ 1000000; omega)
            · have sq := Same.new (o := .lst (tN row ++ [V.int (v : Nat)])) hq2
              have sa := (s7.trans su).trans sq
              refine z1 hm _ _ sa ⟨q2, rfl, fun a ha => ?_, ?_⟩
              · simp only [List.mem_cons, List.not_mem_nil, or_false] at ha
                rcases ha with e | e
                · rw [e]; exact (s7.trans su).lt hbl hq2
                · rw [e]; exact (s7.trans su).lt (s5 _ _ hgl) hq2
              · show upd _ q2 _ q2 = some (.lst (tN (row ++ [ns.getD x 0])))
                rw [gv, upd_same]
                unfold tN tI
                rw [List.map_append, List.map_append]
                rfl
          refine ⟨rfl, _, rfl, (by show 0 ≤ sizeLine; decide), fun n0 hn0 => ?_⟩
          have sn := Same.new (o := .lst []) hn0
          refine eq_lists (r := row.map fun (i : Nat) => (i : Int)) (s := []) (.of (sn _ _ (s5 _ _ hrl3))) (.of upd_same) ⟨_, rfl, ?_⟩
          by_cases c : row = []
          · have hm : mayAdd row v = true := by
              unfold mayAdd
              simp [c]
            refine if_true_of (decide_eq_true (by simp [c])) (iteT (made _ sn hm))
          · refine if_false_of (decide_eq_false (by simpa using c)) ?_
            obtain ⟨r0, last, rfl⟩ : ∃ r0 last, row = r0 ++ [last] := ⟨row.dropLast, row.getLast c, (List.dropLast_concat_getLast c).symm⟩
            have et : tN (r0 ++ [last]) = tN r0 ++ [V.int (last : Nat)] := by
              unfold tN tI
              rw [List.map_append, List.map_append]
              rfl
            refine ⟨_, rfl, _, rfl, _, rfl, fj, _, _, _, rfl, rfl, .of (sn _ _ (s5 _ _ hrl3)), (by rw [et]; exact atI_last _ _), _, _, rfl, rfl, _, rfl, ?_⟩
            have hm : mayAdd (r0 ++ [last]) v = decide ((last : Int) < (v : Int)) := by
              unfold mayAdd
              rw [Bool.eq_iff_iff]
              simp
            cases cm : decide ((last : Int) < (v : Int)) with
            | true => exact iteT (made _ sn (hm.trans cm))
            | false => exact iteF (z2 (hm.trans cm) _ sn)
        · intro H5 acc s5 ha pr
          obtain ⟨qs, rfl, hqn, hqs⟩ := ln_of pr
          have hgl5 := s5 _ _ hgl
          have e : ((List.range (tN ns).length).filter fun x => mayAdd row (ns.getD x 0)).map (fun x => row ++ [ns.getD x 0]) = (ns.filter fun x => mayAdd row x).map fun x => row ++ [x] := by
            rw [tN_len]
            exact filter_map_range 0 (fun x => mayAdd row x) (fun x => row ++ [x]) ns
          rw [e] at hqs
          have lall : gs.length + qs.length ≤ sizeLine := by
            have h1 : gs.length + qs.length = (setsStep ns ((setsUp ns i).take (j + 1))).length := by
              rw [take_more hrow, setsStep_app, setsStep_one, List.length_append, hgs.length, hqs.length]
            rw [h1]
            refine Nat.le_trans (setsStep_len _ _) ?_
            refine Nat.le_trans (Nat.mul_le_mul_left _ (Nat.le_trans (List.length_take_le' _ _) (setsUp_len ns i))) ?_
            rw [Nat.mul_comm, ← Nat.pow_succ]
            exact size_eight hns hi7
          refine ⟨g, b, _, _, rfl, rfl, hgl5, ha, ?_, _, rfl, (s3.trans s5).put hg, gs ++ qs, by rw [List.map_append]; exact upd_same, fun f hf => ?_, ?_⟩
          · rw [List.length_map, List.length_map]
            exact lall
          · rcases List.mem_append.mp hf with hf | hf
            · exact hng f hf
            · exact hqn f hf g (by simp)
          · rw [take_more hrow, setsStep_app, setsStep_one]
            exact lns_app (lns_put (fun f hf => hqn f hf g (by simp)) hqs) (lns_put hng (lns_same s5 hgs))
      · rintro σ H3 ⟨v, rfl, s3, h3⟩
        have e : (setsUp ns i).take (fs.map V.ref).length = setsUp ns i := by
          rw [List.length_map, hrows, List.take_length]
        rw [e] at h3
        exact ⟨_, rfl, g, _, _, _, rfl, s1.trans s3, hgH, h3⟩
    · rintro σ H1 ⟨fa, v3, v4, v5, rfl, s1, hfa, h1⟩
      have en : (m : Int).toNat = m := Int.toNat_natCast m
      rw [en] at h1
      exact ⟨_, rfl, z H1 fa s1 hfa h1⟩
end
end Rf
/-! ## RfW12 -/
namespace Rf
open PySem PySem.Spec PyProof.Rows L2
def FBl (f : Nat → Bool) : Nat → V → Hp → Prop := fun i y _ => y = .bl (f i)
theorem stays_bl {f : Nat → Bool} {D : Addr} : Stays (FBl f) D := ⟨fun _ _ _ _ _ h => h, fun _ _ _ _ _ _ h => h⟩
theorem bls_of {f : Nat → Bool} {H : Hp} : ∀ {is : List Nat} {acc : List V}, Paired (fun i y => FBl f i y H) is acc → acc = (is.map f).map V.bl
  | _, _, .nil => rfl
  | _, _, .cons h t => by
    rw [bls_of t, h]
    rfl
theorem int_at {l : List Int} {i : Nat} {y : V} (h : (tI l)[i]? = some y) : ∃ x, l[i]? = some x ∧ y = .int x := by
  unfold tI at h
  rw [List.getElem?_map] at h
  obtain ⟨x, hx, e⟩ := Option.map_eq_some_iff.mp h
  exact ⟨x, hx, e.symm⟩
theorem any_same {ns : List Int} {gs : List Nat} (h : ∀ k : Int, k ∈ ns ↔ k ∈ gs.map fun (i : Nat) => (i : Int)) (b : Nat) :
    ((ns.map fun x => decide (Builtin.bitAnd x (b : Int) = (b : Int))).any id) = gs.any fun one => decide (one &&& b = b) := by
  rw [Bool.eq_iff_iff, List.any_eq_true, List.any_eq_true]
  constructor
  · rintro ⟨y, hy, ht⟩
    obtain ⟨x, hx, rfl⟩ := List.mem_map.mp hy
    obtain ⟨g, hg, rfl⟩ := List.mem_map.mp ((h x).mp hx)
    refine ⟨g, hg, ?_⟩
    have z : Builtin.bitAnd (g : Int) (b : Int) = (b : Int) := of_decide_eq_true ht
    rw [and_nat] at z
    exact decide_eq_true (by omega)
  · rintro ⟨g, hg, ht⟩
    refine ⟨decide (Builtin.bitAnd (g : Int) (b : Int) = (b : Int)), List.mem_map.mpr ⟨(g : Int), (h g).mpr (List.mem_map.mpr ⟨g, hg, rfl⟩), rfl⟩, ?_⟩
    have z := of_decide_eq_true ht
    rw [and_nat, z]
    simp
section
variable {P : Program} {w : World} {K : PySem.W.Frag} {mg : Str → Option Value} {base : Heap}
def spFew (K : PySem.W.Frag) : Sp := fun vs H Q _ => ∃ (ga ma : Addr) (gs ms : List Nat), vs = [.ref ga, .ref ma] ∧ SqL K H ga (tN gs) ∧ SqL K H ma (tN ms) ∧ (∀ x ∈ gs, x < 32) ∧ ms.length ≤ 8 ∧ (∀ x ∈ ms, x ≤ 1000) ∧
  ∀ H' q, Same H H' → SqL K H' q (tN (fewest gs ms)) → Q (.ref q) H'
abbrev nFew : List Str := ["gathered", "marked", "unlike", "many", "some", "bits", "one"]
theorem sc_few : FnScope nFew ["gathered", "marked"] (defScope (top 29)) := ⟨rfl, rfl, rfl, by decide +kernel, rfl, by decide +kernel, by decide +kernel⟩
theorem ok_few (B : Bts mg) (D : GDef K mg "fewest_not_gathered" (top 29) ["gathered", "marked"]) (Cs : Cal P w K mg base CX0 1 "sets_of" ["numbers", "many"] (spSets K)) (Cb : Cal P w K mg base CX0 1 "bits_of" ["numbers"] (spBits K)) :
    Cal P w K mg base CX0 2 "fewest_not_gathered" ["gathered", "marked"] (spFew K) := by
  refine D.cal fun f fd F => F.ok sc_few (fun vs H Q E h => ?_) (fun cdv A outer s H vs Q E hr h => ?_)
  · obtain ⟨ga, ma, gs, ms, rfl, _⟩ := h
    rfl
  · have nd := sc_few.nd
    refine ⟨_, pss_cons (ps_set (i := 2) nd rfl (Or.inl rfl) (pe_callB (cr_sortedSet rfl) rfl B.sorted bt_sorted (pa_cons (pe_callTy (cr_setInts rfl) rfl B.set bt_set (pa_cons (pv 0) pa_nil)) pa_nil)))
      (pss_cons (ps_for PassesOwn.never rfl (pi_range1 rfl B.range (pa_cons (pe_op op_add (pe_callB call_len_seq rfl B.len bt_len (pa_cons (pv 1) pa_nil)) pe_int) pa_nil)) (pg_name (i := 3) nd rfl (Or.inl rfl))
        (pss_one (ps_for PassesOwn.never rfl (pi_list (pe_c Cs hr (pa_cons (pv 1) (pa_cons (pv 3) pa_nil)))) (pg_name (i := 4) nd rfl (Or.inl rfl))
          (pss_cons (ps_set (i := 5) nd rfl (Or.inr rfl) (pe_c Cb hr (pa_cons (pv 4) pa_nil)))
          (pss_one (ps_if (pt_not (pt_val (pe_callB (cr_any rfl) rfl B.any bt_any (pa_cons
              (pe_lc (own := [("one", 6)]) (g := gName 6) (tt := tYes) (te := tOp rEq (tOp rAnd (tVar 6) (tVar 5)) (tVar 5)) rfl nd (pi_list (pv 2)) (blkOk_by (own := [("one", 6)]) (N := nFew) (sc := defScope (top 29)) (by decide +kernel))
                (fun _ _ _ _ _ => pg_name (i := 6) nd rfl (Or.inl rfl)) (fun _ _ _ _ _ => pts_nil) (fun _ _ _ _ _ => pe_cmpR op_eq (pe_op op_and (pv 6) (pv 5)) (pv 5) (nomark _))) pa_nil))))
            (pss_one (ps_ret (pv 4))) pss_nil))))))
      (pss_one (ps_ret (pv 1)))), ?_⟩
    obtain ⟨ga, ma, gs, ms, rfl, hga, hma, hg32, hms, hmx, z⟩ := h
    refine ⟨_, rfl, ga, gs.map fun (i : Nat) => (i : Int), 32, rfl, hga, fun x hx => ?_, by decide, fun a c ha hc => ?_⟩
    · obtain ⟨g, hg, rfl⟩ := List.mem_map.mp hx
      have := hg32 g hg
      omega
    have sa := Same.new (o := SetO w a (fun j => decide (j ∈ gs.map fun (i : Nat) => (i : Int))) c) ha
    refine ⟨a, _, c, rfl, upd_same, by omega, fun ns u hsort hmem hlen hu => ?_⟩
    have hmem' : ∀ k : Int, k ∈ ns ↔ k ∈ gs.map fun (i : Nat) => (i : Int) := fun k => (hmem k).trans (by simp)
    have su := sa.trans (Same.new (o := .lst (ns.map V.int)) hu)
    have hu1 : upd (upd H a (SetO w a (fun j => decide (j ∈ gs.map fun (i : Nat) => (i : Int))) c)) u (.lst (ns.map V.int)) u = some (.lst (ns.map V.int)) := upd_same
    have su0 := su
    obtain ⟨H1, eH⟩ : ∃ H1 : Hp, upd (upd H a (SetO w a (fun j => decide (j ∈ gs.map fun (i : Nat) => (i : Int))) c)) u (.lst (ns.map V.int)) = H1 := ⟨_, rfl⟩
    rw [eH] at su hu1
    refine ⟨_, rfl, ma, _, rfl, .inl (su0.seq hma), _, _, rfl, rfl, _, rfl, by omega, by rw [tN_len]; omega, ?_⟩
    have en : (((tN ms).length : Int) + 1).toNat = ms.length + 1 := by rw [tN_len]; omega
    refine for_it walk_rg (fun i σ H' => ∃ v3 v4 v5 : Option V, σ = [some (.ref ga), some (.ref ma), some (.ref u), v3, v4, v5, none] ∧ Same H1 H' ∧ ∀ x ∈ (List.range i).flatMap (setsUp ms), missed gs x = false) ?_ (fun _ _ _ _ _ => trivial) ?_ ?_
    · exact ⟨none, none, none, rfl, (by rw [← eH]; exact Same.refl _), by simp⟩
    · rintro i x σ H3 H2 hi ⟨v3, v4, v5, rfl, s2, hno⟩ ⟨rfl, rfl⟩
      have hi' : i < ms.length + 1 := by rw [← en]; exact hi
      refine ⟨_, rfl, _, rfl, ma, ms, i, rfl, s2.seq (su.seq hma), hms, by omega, fun H3 b s3 fb hb => ?_⟩
      obtain ⟨fs, hfl, _, hfs⟩ := hb
      have s23 := s2.trans s3
      have hrows := hfs.length
      refine ⟨b, rfl, ⟨_, .of hfl⟩, ?_⟩
      refine for_it (walk_list (K := K) (a := b) (xs := fs.map V.ref)) (fun j σ H' => ∃ v4 v5 : Option V, σ = [some (.ref ga), some (.ref ma), some (.ref u), some (.int i), v4, v5, none] ∧ Same H3 H' ∧ ∀ x ∈ (setsUp ms i).take j, missed gs x = false) ?_ ?_ ?_ ?_
      · exact ⟨v4, v5, rfl, Same.refl _, by simp⟩
      · rintro j σ H' _ ⟨_, _, _, s', _⟩
        exact .of (s' _ _ hfl)
      · rintro j y σ H5 H4 hj ⟨v4', v5', rfl, s4, hno2⟩ ⟨rfl, hy⟩
        obtain ⟨fj, hfj, rfl⟩ := ref_at hy
        obtain ⟨row, hrow, hrl⟩ := Paired.at hfs j fj hfj
        obtain ⟨rlen, rmem⟩ := setsUp_row ms i row (List.mem_of_getElem? hrow)
        have hrl4 := s4 _ _ hrl
        refine ⟨_, rfl, fj, row, rfl, .of hrl4, by omega, fun x hx => hmx x (rmem x hx), fun H5 s5 => ?_⟩
        have s15 := (s23.trans s4).trans s5
        refine ⟨_, rfl, u, rfl, ⟨_, .of (s15 _ _ hu1)⟩, fun d hd => ?_⟩
        refine lc_map (walk_list (K := K) (a := u) (xs := tI ns)) (FBl fun i => (fun x : Int => decide (Builtin.bitAnd x ((bitsOf row : Nat) : Int) = ((bitsOf row : Nat) : Int))) (ns.getD i 0)) stays_bl hd ?_ (fun H' s' => .of (s' _ _ (s15 _ _ hu1))) ?_ ?_
        · rw [tI_len]
          omega
        · rintro x y H7 H6 hx s6 ⟨rfl, hy⟩ Z hz
          obtain ⟨v, hv, rfl⟩ := int_at hy
          refine ⟨rfl, _, rfl, _, rfl, _, _, rfl, rfl, _, rfl, rfl, hz _ _ (Same.refl _) ?_⟩
          show V.bl (decide (V.int _ = V.int _)) = V.bl ((fun x : Int => decide (Builtin.bitAnd x ((bitsOf row : Nat) : Int) = ((bitsOf row : Nat) : Int))) (ns.getD x 0))
          rw [dec_eq, getD_of hv]
        · intro H6 acc s6 ha6 pr
          have ea := bls_of pr
          have e : (List.range (tI ns).length).map (fun i => (fun x : Int => decide (Builtin.bitAnd x ((bitsOf row : Nat) : Int) = ((bitsOf row : Nat) : Int))) (ns.getD i 0)) = ns.map fun x => decide (Builtin.bitAnd x ((bitsOf row : Nat) : Int) = ((bitsOf row : Nat) : Int)) := by
            rw [tI_len]
            have h := congrArg (List.map fun x : Int => decide (Builtin.bitAnd x ((bitsOf row : Nat) : Int) = ((bitsOf row : Nat) : Int))) (range_getD 0 ns)
            rw [List.map_map] at h
            exact h
          rw [e] at ea
          subst ea
          refine ⟨d, _, rfl, .of ha6, ⟨_, rfl, ?_⟩⟩
          rw [any_same hmem' (bitsOf row)]
          have hmis : missed gs row = !(gs.any fun one => decide (one &&& bitsOf row = bitsOf row)) := rfl
          cases cm : (gs.any fun one => decide (one &&& bitsOf row = bitsOf row)) with
          | true =>
            rw [cm] at hmis
            refine iteF ⟨_, _, rfl, (s4.trans s5).trans s6, fun x hx => ?_⟩
            rw [take_more hrow] at hx
            rcases List.mem_append.mp hx with h | h
            · exact hno2 x h
            · have e2 : x = row := by simpa using h
              rw [e2]
              exact hmis
          | false =>
            rw [cm] at hmis
            refine iteT ⟨_, rfl, z _ fj (su.trans (s15.trans s6)) ?_⟩
            rw [fewest_found hi' hrow hno hno2 hmis]
            exact .of (s6 _ _ (s5 _ _ hrl4))
      · rintro σ H4 ⟨v4', v5', rfl, s4, hno2⟩
        have e : (setsUp ms i).take (fs.map V.ref).length = setsUp ms i := by
          rw [List.length_map, hrows, List.take_length]
        rw [e] at hno2
        refine ⟨_, _, _, rfl, s23.trans s4, fun x hx => ?_⟩
        rw [List.range_succ, List.flatMap_append] at hx
        rcases List.mem_append.mp hx with h | h
        · exact hno x h
        · exact hno2 x (by simpa using h)
    · rintro σ H2 ⟨v3, v4, v5, rfl, s2, hno⟩
      rw [en] at hno
      refine ⟨_, rfl, z _ ma (su.trans s2) ?_⟩
      rw [fewest_none hno]
      exact s2.seq (su.seq hma)
end
end Rf
/-! ## RfW13 -/
namespace Rf
open PySem PySem.Spec PyProof.Rows L2
/-! ### attributes by their names -/
def notIn (f : Str) (ks : List Str) : Bool := ks.all fun g => !(f == g)
theorem lookup_none : ∀ {fs : List (Str × V)} {f : Str}, notIn f (fs.map (·.1)) = true → fs.lookup f = none
  | [], _, _ => rfl
  | (g, v) :: fs, f, h => by
    unfold notIn at h
    rw [List.map_cons, List.all_cons, Bool.and_eq_true] at h
    have h1 : (f == g) = false := by simpa using h.1
    rw [List.lookup_cons, h1]
    exact lookup_none (show notIn f (fs.map (·.1)) = true from h.2)
theorem lookup_at : ∀ {fs : List (Str × V)} (i : Nat) {f : Str} {v : V}, fs[i]? = some (f, v) → notIn f ((fs.map (·.1)).take i) = true → fs.lookup f = some v
  | [], i, _, _, h, _ => by simp at h
  | (g, u) :: fs, 0, f, v, h, _ => by
    have e : (g, u) = (f, v) := by simpa using h
    cases e
    rw [List.lookup_cons, beq_self_eq_true]
  | (g, u) :: fs, i + 1, f, v, h, hn => by
    unfold notIn at hn
    rw [List.map_cons, List.take_succ_cons, List.all_cons, Bool.and_eq_true] at hn
    have h1 : (f == g) = false := by simpa using hn.1
    rw [List.lookup_cons, h1]
    exact lookup_at i (by simpa using h) (show notIn f ((fs.map (·.1)).take i) = true from hn.2)
theorem putF_new : ∀ {fs : List (Str × V)} {f : Str} {v : V}, notIn f (fs.map (·.1)) = true → putF f v fs = fs ++ [(f, v)]
  | [], _, _, _ => rfl
  | (g, u) :: fs, f, v, h => by
    unfold notIn at h
    rw [List.map_cons, List.all_cons, Bool.and_eq_true] at h
    have h1 : ¬ g = f := fun e => by
      rw [e] at h
      simp at h
    show (if g = f then (g, v) :: fs else (g, u) :: putF f v fs) = _
    rw [if_neg h1, putF_new (show notIn f (fs.map (·.1)) = true from h.2)]
    rfl
/-! ### heaps that keep all but dicts -/
def calmO : HO → Bool
  | .dK _ => false
  | .dT _ => false
  | .ext _ => false
  | .xd _ => false
  | _ => true
structure Kp (H H' : Hp) : Prop where
  keep : ∀ b o, H b = some o → calmO o = true → H' b = some o
  free : ∀ b, H' b = none → H b = none
section
variable {K : PySem.W.Frag} {H H' H2 : Hp} {a q D : Addr}
theorem _root_.L2.Same.kp (s : Same H H') : Kp H H' := ⟨fun b o e _ => s b o e, fun b e => s.free e⟩
theorem Kp.refl (H : Hp) : Kp H H := (Same.refl H).kp
theorem Kp.trans (x : Kp H H') (y : Kp H' H2) : Kp H H2 := ⟨fun b o e c => y.keep b o (x.keep b o e c) c, fun b e => x.free b (y.free b e)⟩
theorem Kp.put {o o' : HO} (x : Kp H H') (h : H' D = some o') (hc : calmO o' = false) : Kp H (upd H' D o) := ⟨fun b u e c => by
    rw [upd_ne (fun z => by rw [z] at e; have := x.keep _ _ e c; rw [h] at this; cases this; rw [hc] at c; cases c)]
    exact x.keep b u e c, fun b e => by
    by_cases z : b = D
    · rw [z, upd_same] at e; cases e
    · rw [upd_ne z] at e; exact x.free b e⟩
theorem Kp.tup (s : Kp H H') {xs : List V} (h : SqT K H a xs) : SqT K H' a xs := by
  rcases h with (h | ⟨o, h⟩) | h
  · exact .inl (.inl (s.keep _ _ h rfl))
  · exact .inl (.inr ⟨o, s.keep _ _ h rfl⟩)
  · exact .inr h
theorem Kp.seq (s : Kp H H') {xs : List V} (h : SqL K H a xs) : SqL K H' a xs := by
  rcases h with (h | ⟨o, h⟩) | h
  · exact .inl (.inl (s.keep _ _ h rfl))
  · exact .inl (.inr ⟨o, s.keep _ _ h rfl⟩)
  · exact .inr h
theorem Kp.tups (s : Kp H H') : ∀ {ps : List Addr} {rows : List (List Int)}, Tups K H ps rows → Tups K H' ps rows
  | _, _, .nil => .nil
  | _, _, .cons h t => .cons (s.tup h) (s.tups t)
theorem Kp.lsT (s : Kp H H') {rows : List (List Int)} (h : LsT K H q rows) : LsT K H' q rows := by
  obtain ⟨ps, h1, h2⟩ := h
  exact ⟨ps, s.keep _ _ h1 rfl, s.tups h2⟩
theorem Kp.lns (s : Kp H H') : ∀ {fs : List Addr} {rows : List (List Nat)}, Lns H fs rows → Lns H' fs rows
  | _, _, .nil => .nil
  | _, _, .cons h t => .cons (s.keep _ _ h rfl) (s.lns t)
abbrev Lis (H : Hp) (fs : List Addr) (rows : List (List Int)) : Prop := Paired (fun f r => H f = some (.lst (tI r))) fs rows
theorem Kp.lis (s : Kp H H') : ∀ {fs : List Addr} {rows : List (List Int)}, Lis H fs rows → Lis H' fs rows
  | _, _, .nil => .nil
  | _, _, .cons h t => .cons (s.keep _ _ h rfl) (s.lis t)
end
/-! ### xs.index(y), the items tuples of ints -/
def dRows (rows : List (List Int)) : List PyData := rows.map fun r => .tuple (dI r)
theorem dRows_lay : ∀ rows : List (List Int), PyData.canLayAll0 (dRows rows) = true
  | [] => by simp [dRows, PyData.canLayAll0]
  | r :: rows => by
    have h := dRows_lay rows
    unfold dRows at h ⊢
    simp only [List.map_cons, PyData.canLayAll0, PyData.canLay0, dI_lay, h, Bool.and_true]
theorem dRows_depth : ∀ rows : List (List Int), PyData.depthAll (dRows rows) ≤ 1
  | [] => by simp [dRows, PyData.depthAll]
  | r :: rows => by
    have h := dRows_depth rows
    unfold dRows at h ⊢
    simp only [List.map_cons, PyData.depthAll, PyData.depth, dI_depth]
    omega
theorem dRows_shaped (rows : List (List Int)) : SeqAt.shaped (.list (dRows rows)) = true := by
  show (PyData.canLay0 (.list (dRows rows)) && decide (PyData.depth (.list (dRows rows)) ≤ 64)) = true
  rw [Bool.and_eq_true]
  refine ⟨by simp only [PyData.canLay0]; exact dRows_lay rows, decide_eq_true ?_⟩
  have h := dRows_depth rows
  simp only [PyData.depth]
  omega
theorem dpAll_rows {K : PySem.W.Frag} {H : Hp} : ∀ {ps : List Addr} {rows : List (List Int)}, Tups K H ps rows → DpAll K H (ps.map V.ref) (dRows rows)
  | _, _, .nil => .nil
  | _, _, .cons h t => .cons (.tup h (dpAll_I _)) (dpAll_rows t)
theorem eqv_row (r s : List Int) : PyData.eqv (.tuple (dI r)) (.tuple (dI s)) = decide (r = s) := by
  simp only [PyData.eqv]
  exact dI_eqv r s
theorem idx_at {α : Type} [BEq α] [LawfulBEq α] : ∀ {l : List α} {x : α}, x ∈ l → l[l.idxOf x]? = some x ∧ ∀ m z, m < l.idxOf x → l[m]? = some z → z ≠ x
  | [], x, h => by cases h
  | y :: l, x, h => by
    by_cases c : y = x
    · subst c
      simp
    · have hx : x ∈ l := by
        rcases List.mem_cons.mp h with e | h
        · exact absurd e.symm c
        · exact h
      obtain ⟨h1, h2⟩ := idx_at hx
      have e : (y :: l).idxOf x = l.idxOf x + 1 := by
        rw [List.idxOf_cons]
        have : (y == x) = false := beq_false_of_ne c
        rw [this]
        rfl
      rw [e]
      refine ⟨by simpa using h1, fun m z hm hz => ?_⟩
      cases m with
      | zero =>
        have : y = z := by simpa using hz
        rw [← this]
        exact c
      | succ m => exact h2 m z (by omega) (by simpa using hz)
theorem index_rows {K : PySem.W.Frag} {H : Hp} {Q : VK} {a p : Addr} {rows : List (List Int)} {x : List Int} (hl : LsT K H a rows) (hp : SqT K H p (tI x)) (hx : x ∈ rows) (q : Q (.int (rows.idxOf x : Nat)) H) : rIndexD K (.ref a) [.ref p] H Q := by
  obtain ⟨ps, h1, h2⟩ := hl
  obtain ⟨i1, i2⟩ := idx_at hx
  refine ⟨a, .ref p, .tuple (dI x), dRows rows, rows.idxOf x, .tuple (dI x), rfl, rfl, .lst (.of h1) (dpAll_rows h2), .tup hp (dpAll_I x), dRows_shaped rows, dI_shapedT x, ?_, ?_, fun m z hm hz => ?_, q⟩
  · unfold dRows
    rw [List.getElem?_map, i1]
    rfl
  · rw [eqv_row]
    simp
  · unfold dRows at hz
    rw [List.getElem?_map] at hz
    obtain ⟨r, hr, rfl⟩ := Option.map_eq_some_iff.mp hz
    rw [eqv_row]
    exact decide_eq_false (i2 m r hm hr)
theorem _root_.L2.Room.idx {k : Nat} {A : Around} (r : Room k A) : A.units + 65 < cLine := by
  have := r.un
  omega
/-! ### methods -/
structure MDef (K : PySem.W.Frag) (C : Addr) (x qual : Str) (st : Stmt) (ps : List Str) : Prop where
  ex : ∃ (f : Addr) (fd : FuncData), Fun K x qual st f fd ∧ Meth K C x f ∧ Binds K fd ps []
structure Met (P : Program) (w : World) (K : PySem.W.Frag) (mg : Str → Option Value) (base : Heap) (CX : CXT) (k : Nat) (C : Addr) (x : Str) (ps : List Str) (sp : Sp) : Prop where
  ex : ∃ (f : Addr) (fd : FuncData), FnOk P w K mg base CX k f fd ps sp ∧ Meth K C x f ∧ Binds K fd ps []
theorem MDef.met {P : Program} {w : World} {K : PySem.W.Frag} {mg : Str → Option Value} {base : Heap} {CX : CXT} {k : Nat} {C : Addr} {x qual : Str} {st : Stmt} {ps : List Str} {sp : Sp} (D : MDef K C x qual st ps)
    (h : ∀ f fd, Fun K x qual st f fd → FnOk P w K mg base CX k f fd ps sp) : Met P w K mg base CX k C x ps sp := by
  obtain ⟨f, fd, F, m, b⟩ := D.ex
  exact ⟨f, fd, h f fd F, m, b⟩
section
variable {X : Cx} {j k : Nat} {C : Addr} {m : Str} {ps : List Str} {sp : Sp} {o e : Expr} {es : List Expr} {ta : TE} {t : TA} {pos apos : Pos} {pl : Sem Bool}
theorem pe_m (c : Cls X.K C) (M : Met X.prog X.w X.K X.mg X.base CX0 k C m ps sp) (hr : Room j X.A) (he : PE X o ta) (ha : PA X (e :: es) t) (hk : k ≤ j := by decide)
    (hst : starEach (e :: es) X.env = (false, eval e X.env) :: starEach es X.env := by rfl) (hpl : (backTo pos (starEach es X.env)).any (·.1) = false := by rfl)
    (ht : eval (.Call (.Attribute o m apos) (e :: es) [] pos) X.env = (do
      let ov ← eval o X.env
      standAt apos.atName
      let (f, first) ← holding [ov] (getMethod ov m pl)
      callWith pos f first (backTo pos (starEach (e :: es) X.env)) (backToKw pos (keywordEach [] X.env))) := by rfl) :
    PE X (.Call (.Attribute o m apos) (e :: es) [] pos) (tMeth C m sp [] E0 ta t) := by
  obtain ⟨f, fd, G, hm, b⟩ := M.ex
  exact pe_meth he c hm G (hr.mono hk) b .nil pass0 ha hst hpl ht
theorem pe_m0 (c : Cls X.K C) (M : Met X.prog X.w X.K X.mg X.base CX0 k C m ps sp) (hr : Room j X.A) (he : PE X o ta) (hk : k ≤ j := by decide)
    (ht : eval (.Call (.Attribute o m apos) [] [] pos) X.env = (do
      let ov ← eval o X.env
      standAt apos.atName
      let (f, first) ← holding [ov] (getMethod ov m pl)
      callWith pos f first (backTo pos (starEach [] X.env)) (backToKw pos (keywordEach [] X.env))) := by rfl) :
    PE X (.Call (.Attribute o m apos) [] [] pos) (tMeth C m sp [] E0 ta tNil) := by
  obtain ⟨f, fd, G, hm, b⟩ := M.ex
  exact pe_meth0 he c hm G (hr.mono hk) b .nil pass0 ht
end
/-! ### the class Case -/
structure CaseTxt (K : PySem.W.Frag) (mg : Str → Option Value) (C : Addr) : Prop where
  cl : Cls K C
  gC : mg "Case" = some (.ref C)
  nP : NoAttr K C "places"
  nE : NoAttr K C "eyes"
  nR : NoAttr K C "robots"
  nN : NoAttr K C "names"
  nV : NoAttr K C "views"
  nH : NoAttr K C "had"
  nS : NoAttr K C "sides"
  nK : NoAttr K C "known"
  nG : NoAttr K C "gathered"
abbrev cKeys : List Str := ["places", "eyes", "robots", "names", "views", "had", "sides", "known", "gathered"]
def cF (n e k : Nat) (an av ah asd dk dg : Addr) : List (Str × V) :=
  [("places", .int n), ("eyes", .int e), ("robots", .int k), ("names", .ref an), ("views", .ref av), ("had", .ref ah), ("sides", .ref asd), ("known", .ref dk), ("gathered", .ref dg)]
section
variable {P : Program} {w : World} {K : PySem.W.Frag} {mg : Str → Option Value} {base : Heap} {C : Addr}
/-- self.views_in(ring), self as far as __init__ has set it -/
def spViewsIn (K : PySem.W.Frag) (C : Addr) : Sp := fun vs H Q _ => ∃ (a p dx av : Addr) (fs : List (Str × V)) (r : List Int) (n k e : Nat), vs = [.ref a, .ref p] ∧ H a = some (.ins C dx fs) ∧ fs.lookup ("eyes" : Str) = some (.int e) ∧ fs.lookup ("views" : Str) = some (.ref av) ∧
  LsT K H av (allViews (allNames n k) e) ∧ SqT K H p (tI r) ∧ r ∈ allNames n k ∧ Good n k ∧ e ≤ 2 ∧
  ∀ H' q, Same H H' → H q = none → H' q = some (.lst (tN ((viewsIn r e).map fun v => (allViews (allNames n k) e).idxOf v))) → Q (.ref q) H'
abbrev nVin : List Str := ["self", "ring", "place"]
abbrev sVin : Stmt := inClass (top 25) 1
theorem sc_vin : FnScope nVin ["self", "ring"] (defScope sVin) := ⟨rfl, rfl, rfl, by decide +kernel, rfl, by decide +kernel, by decide +kernel⟩
theorem ok_vin (T : CaseTxt K mg C) (D : MDef K C "views_in" "Case.views_in" sVin ["self", "ring"]) (Ch : Cal P w K mg base CX0 1 "had_places" ["ring"] (spHad K)) (Cv : Cal P w K mg base CX0 3 "view_of" ["ring", "place", "eyes"] (spView K)) :
    Met P w K mg base CX0 4 C "views_in" ["self", "ring"] (spViewsIn K C) := by
  refine D.met fun f fd F => F.ok sc_vin (fun vs H Q E h => ?_) (fun cdv A outer s H vs Q E hr h => ?_)
  · obtain ⟨a, p, dx, av, fs, r, n, k, e, rfl, _⟩ := h
    rfl
  · have nd := sc_vin.nd
    refine ⟨_, pss_one (ps_ret (pe_lc (own := [("place", 2)]) (g := gName 2) (tt := tYes)
        (te := tBM K "list" (rIndexD K) (tFld K (tVar 0) "views") (tCons (tCall (spView K) [] E0 (tCons (tVar 1) (tCons (tVar 2) (tCons (tFld K (tVar 0) "eyes") tNil)))) tNil)) rfl nd (pi_list (pe_c Ch hr (pa_cons (pv 1) pa_nil)))
        (blkOk_by (own := [("place", 2)]) (N := nVin) (sc := defScope sVin) (by decide +kernel)) (fun _ _ _ _ _ => pg_name (i := 2) nd rfl (Or.inl rfl)) (fun _ _ _ _ _ => pts_nil)
        (fun _ _ _ _ _ => pe_bm PySem.F.plainAttrs_list PySem.F.slot_list_index PySem.F.type_list_index (mt_indexD hr.idx) (pe_fld (pv 0) rfl) (pa_cons (pe_c Cv hr (pa_cons (pv 1) (pa_cons (pv 2) (pa_cons (pe_fld (pv 0) rfl) pa_nil)))) pa_nil)))), ?_⟩
    obtain ⟨a, p, dx, av, fs, r, n, k, e, rfl, ha, hle, hlv, hav, hp, hr', g, he, z⟩ := h
    have ok := names_ok g hr'
    have lrow := ok.len
    have hn7 := g.n7
    refine ⟨_, rfl, p, r, rfl, hp, by omega, fun H1 c s1 fc hc => ?_⟩
    have hlen := had_len r
    refine ⟨c, rfl, ⟨_, .of hc⟩, fun b hb => ?_⟩
    refine lc_map (walk_list (K := K) (a := c) (xs := tN (hadPlaces r))) (FInt fun i => (((fun pl : Nat => (allViews (allNames n k) e).idxOf (viewOf r pl e)) ((hadPlaces r).getD i 0) : Nat) : Int)) stays_int hb (by rw [tN_len]; omega) (fun H' s' => .of (s' _ _ hc)) ?_ ?_
    · rintro i x H3 H2 hi s2 ⟨rfl, hx⟩ Z hz
      obtain ⟨pl, hpl, rfl⟩ := nat_at hx
      have hmem := List.mem_of_getElem? hpl
      have hlt := mem_had hmem
      have s12 := s1.trans s2
      refine ⟨rfl, _, rfl, a, C, dx, fs, _, rfl, s12 _ _ ha, T.cl, T.nV, hlv, .inl ⟨rfl, _, .of (s12 _ _ hav.choose_spec.1)⟩, _, rfl, _, rfl, _, rfl, a, C, dx, fs, _, rfl, s12 _ _ ha, T.cl, T.nE, hle,
        p, r, pl, e, rfl, s12.tup hp, by omega, hlt, he, fun H4 q s4 h4 => ?_⟩
      refine index_rows (lsT_same (s12.trans s4) hav) h4 ?_ (hz _ H4 s4 ?_)
      · exact mem_inOrder.mpr (List.mem_flatMap.mpr ⟨r, hr', List.mem_map.mpr ⟨pl, hmem, rfl⟩⟩)
      · show V.int _ = V.int (((allViews (allNames n k) e).idxOf (viewOf r ((hadPlaces r).getD i 0) e) : Nat) : Int)
        rw [getD_of hpl]
    · intro H2 acc s2 ha2 pr
      have ea := ints_of pr
      rw [tN_len] at ea
      refine z H2 b (s1.trans s2) (s1.free hb) ?_
      rw [ha2, ea]
      have h := congrArg (List.map fun pl : Nat => (((allViews (allNames n k) e).idxOf (viewOf r pl e) : Nat) : Int)) (range_getD 0 (hadPlaces r))
      rw [List.map_map] at h
      unfold tN viewsIn
      rw [List.map_map, List.map_map]
      exact congrArg (fun l => some (HO.lst (tI l))) h
end
end Rf
/-! ## RfM7 -/
namespace Rf
/-! ### rules -/
def rStep (v : List Int) (found : List (List Nat)) : List (List Nat) := found.flatMap fun r => (deedsOf v).map fun d => r ++ [d]
theorem rulesUp_more (v : List Int) : ∀ (l : List (List Int)) (found : List (List Nat)), rulesUp (l ++ [v]) found = rStep v (rulesUp l found)
  | [], _ => rfl
  | _ :: l, _ => rulesUp_more v l _
theorem rStep_app (v : List Int) (a b : List (List Nat)) : rStep v (a ++ b) = rStep v a ++ rStep v b := List.flatMap_append
theorem rStep_one (v : List Int) (r : List Nat) : rStep v [r] = (deedsOf v).map fun d => r ++ [d] := by
  unfold rStep
  simp
theorem rStep_len (v : List Int) : ∀ found : List (List Nat), (rStep v found).length = found.length * (deedsOf v).length
  | [] => by simp [rStep]
  | r :: l => by
    have ih := rStep_len v l
    have e : rStep v (r :: l) = rStep v [r] ++ rStep v l := rStep_app v [r] l
    rw [e, List.length_append, rStep_one, List.length_map, List.length_cons, ih, Nat.succ_mul]
    omega
theorem deeds_len (v : List Int) : 2 ≤ (deedsOf v).length ∧ (deedsOf v).length ≤ 3 := by
  unfold deedsOf
  split <;> simp
theorem many_more (l : List (List Int)) (v : List Int) : manyRules (l ++ [v]) = manyRules l * (deedsOf v).length := by
  unfold manyRules
  rw [List.foldl_append]
  rfl
theorem rules_len : ∀ n (l : List (List Int)), l.length = n → (rulesUp l [[]]).length = manyRules l
  | 0, l, h => by
    have e : l = [] := List.length_eq_zero_iff.mp h
    subst e
    rfl
  | n + 1, l, h => by
    have hne : l ≠ [] := fun e => by rw [e] at h; simp at h
    have e := List.dropLast_concat_getLast hne
    rw [← e, rulesUp_more, many_more, rStep_len, rules_len n l.dropLast (by rw [List.length_dropLast, h]; rfl)]
theorem many_pos (l : List (List Int)) : ∀ a, 1 ≤ a → 1 ≤ l.foldl (fun a v => a * (deedsOf v).length) a := by
  induction l with
  | nil => intro a h; exact h
  | cons v l ih =>
    intro a h
    have := (deeds_len v).1
    exact ih _ (Nat.le_trans h (Nat.le_mul_of_pos_right a (by omega)))
theorem many_fold (l : List (List Int)) : ∀ a, l.foldl (fun a v => a * (deedsOf v).length) a = a * l.foldl (fun a v => a * (deedsOf v).length) 1 := by
  induction l with
  | nil => intro a; simp
  | cons v l ih =>
    intro a
    rw [List.foldl_cons, List.foldl_cons, ih, ih (1 * _), Nat.one_mul, Nat.mul_assoc]
theorem many_app (a b : List (List Int)) : manyRules (a ++ b) = manyRules a * manyRules b := by
  unfold manyRules
  rw [List.foldl_append, many_fold b]
theorem many_take (l : List (List Int)) (i : Nat) : manyRules (l.take i) ≤ manyRules l := by
  have e := List.take_append_drop i l
  conv => rhs; rw [← e]
  rw [many_app]
  exact Nat.le_mul_of_pos_right _ (many_pos _ 1 (Nat.le_refl _))
theorem many_small : ∀ n (l : List (List Int)), l.length = n → manyRules l ≤ 3 ^ n
  | 0, l, h => by
    have e : l = [] := List.length_eq_zero_iff.mp h
    subst e
    decide
  | n + 1, l, h => by
    have hne : l ≠ [] := fun e => by rw [e] at h; simp at h
    have e := List.dropLast_concat_getLast hne
    rw [← e, many_more, Nat.pow_succ]
    exact Nat.mul_le_mul (many_small n _ (by rw [List.length_dropLast, h]; rfl)) (deeds_len _).2
theorem rules_row : ∀ n (l : List (List Int)), l.length = n → ∀ r ∈ rulesUp l [[]], r.length = n ∧ ∀ d ∈ r, d ≤ 2
  | 0, l, h, r, hr => by
    have e : l = [] := List.length_eq_zero_iff.mp h
    subst e
    have e : r = [] := by simpa [rulesUp] using hr
    subst e
    simp
  | n + 1, l, h, r, hr => by
    have hne : l ≠ [] := fun e => by rw [e] at h; simp at h
    have e := List.dropLast_concat_getLast hne
    rw [← e, rulesUp_more] at hr
    obtain ⟨r0, h0, h1⟩ := List.mem_flatMap.mp hr
    obtain ⟨d, hd, rfl⟩ := List.mem_map.mp h1
    obtain ⟨l0, m0⟩ := rules_row n l.dropLast (by rw [List.length_dropLast, h]; rfl) r0 h0
    refine ⟨by rw [List.length_append, l0]; rfl, fun y hy => ?_⟩
    rcases List.mem_append.mp hy with z | z
    · exact m0 y z
    · have e : y = d := by simpa using z
      rw [e]
      unfold deedsOf at hd
      split at hd <;> simp at hd <;> omega
end Rf
/-! ## RfW14 -/
namespace Rf
open PySem PySem.Spec PyProof.Rows L2
structure CaseD where
  dx : Addr
  an : Addr
  av : Addr
  ah : Addr
  asd : Addr
  dk : Addr
  dg : Addr
  hs : List Addr
  ss : List Addr
  xs : List (K3 × Addr × Int)
  kvs : List (Key × V)
/-- what of a Case stays as it is -/
structure CaseS (K : PySem.W.Frag) (C : Addr) (H : Hp) (a : Addr) (n e k : Nat) (d : CaseD) : Prop where
  obj : H a = some (.ins C d.dx (cF n e k d.an d.av d.ah d.asd d.dk d.dg))
  nm : LsT K H d.an (allNames n k)
  vw : LsT K H d.av (allViews (allNames n k) e)
  hd : H d.ah = some (.lst (d.hs.map V.ref))
  hdl : Lns H d.hs (kase n e k).had
  sd : H d.asd = some (.lst (d.ss.map V.ref))
  sdl : Lis H d.ss (kase n e k).sides
  good : Good n k
  e2 : e ≤ 2
theorem CaseS.on {K : PySem.W.Frag} {C : Addr} {H H' : Hp} {a : Addr} {n e k : Nat} {d : CaseD} (c : CaseS K C H a n e k d) (s : Kp H H') : CaseS K C H' a n e k d :=
  ⟨s.keep _ _ c.obj rfl, s.lsT c.nm, s.lsT c.vw, s.keep _ _ c.hd rfl, s.lns c.hdl, s.keep _ _ c.sd rfl, s.lis c.sdl, c.good, c.e2⟩
section
variable {n e k : Nat} {an av ah asd dk dg : Addr}
theorem cF_P : (cF n e k an av ah asd dk dg).lookup ("places" : Str) = some (.int n) := lookup_at 0 rfl rfl
theorem cF_E : (cF n e k an av ah asd dk dg).lookup ("eyes" : Str) = some (.int e) := lookup_at 1 rfl (by show notIn "eyes" (cKeys.take 1) = true; decide +kernel)
theorem cF_R : (cF n e k an av ah asd dk dg).lookup ("robots" : Str) = some (.int k) := lookup_at 2 rfl (by show notIn "robots" (cKeys.take 2) = true; decide +kernel)
theorem cF_N : (cF n e k an av ah asd dk dg).lookup ("names" : Str) = some (.ref an) := lookup_at 3 rfl (by show notIn "names" (cKeys.take 3) = true; decide +kernel)
theorem cF_V : (cF n e k an av ah asd dk dg).lookup ("views" : Str) = some (.ref av) := lookup_at 4 rfl (by show notIn "views" (cKeys.take 4) = true; decide +kernel)
theorem cF_H : (cF n e k an av ah asd dk dg).lookup ("had" : Str) = some (.ref ah) := lookup_at 5 rfl (by show notIn "had" (cKeys.take 5) = true; decide +kernel)
theorem cF_S : (cF n e k an av ah asd dk dg).lookup ("sides" : Str) = some (.ref asd) := lookup_at 6 rfl (by show notIn "sides" (cKeys.take 6) = true; decide +kernel)
theorem cF_K : (cF n e k an av ah asd dk dg).lookup ("known" : Str) = some (.ref dk) := lookup_at 7 rfl (by show notIn "known" (cKeys.take 7) = true; decide +kernel)
theorem cF_G : (cF n e k an av ah asd dk dg).lookup ("gathered" : Str) = some (.ref dg) := lookup_at 8 rfl (by show notIn "gathered" (cKeys.take 8) = true; decide +kernel)
theorem cF_none {f : Str} (h : notIn f cKeys = true) : (cF n e k an av ah asd dk dg).lookup f = none := lookup_none h
end
theorem view_row {n k e v : Nat} (g : Good n k) {r : List Int} (h : (allViews (allNames n k) e)[v]? = some r) : r.length = n ∧ ∀ x ∈ r, 0 ≤ x ∧ x ≤ 3 := by
  have hm := mem_inOrder.mp (List.mem_of_getElem? h)
  have ok := views_flat (fun r hr => names_ok g hr) hm
  have := g.k3
  exact ⟨ok.len, fun x hx => by have := ok.each x hx; omega⟩
section
variable {P : Program} {w : World} {K : PySem.W.Frag} {mg : Str → Option Value} {base : Heap} {C : Addr}
def spDeeds (K : PySem.W.Frag) (C : Addr) : Sp := fun vs H Q _ => ∃ (a : Addr) (n e k v : Nat) (d : CaseD), vs = [.ref a, .int v] ∧ CaseS K C H a n e k d ∧ v < (allViews (allNames n k) e).length ∧
  ∀ H' q, Same H H' → H q = none → H' q = some (.lst (tN (deedsOf ((allViews (allNames n k) e).getD v [])))) → Q (.ref q) H'
abbrev sDeeds : Stmt := inClass (top 25) 2
theorem sc_deeds : FnScope ["self", "view"] ["self", "view"] (defScope sDeeds) := ⟨rfl, rfl, rfl, by decide +kernel, rfl, by decide +kernel, by decide +kernel⟩
theorem ok_deeds (T : CaseTxt K mg C) (D : MDef K C "deeds_of" "Case.deeds_of" sDeeds ["self", "view"]) (Ce : Cal P w K mg base CX0 1 "is_even_handed" ["row"] (spEven K)) : Met P w K mg base CX0 2 C "deeds_of" ["self", "view"] (spDeeds K C) := by
  refine D.met fun f fd F => F.ok sc_deeds (fun vs H Q E h => ?_) (fun cdv A outer s H vs Q E hr h => ?_)
  · obtain ⟨a, n, e, k, v, d, rfl, _⟩ := h
    rfl
  · have nd := sc_deeds.nd
    refine ⟨_, pss_cons (ps_if (pt_val (pe_c Ce hr (pa_cons (pe_ix ix_list (pe_fld (pv 0) rfl) (pv 1) (fun _ _ => rfl)) pa_nil))) (pss_one (ps_ret (pe_lst (pa_cons pe_int (pa_cons pe_int pa_nil))))) pss_nil)
      (pss_one (ps_ret (pe_lst (pa_cons pe_int (pa_cons pe_int (pa_cons pe_int pa_nil)))))), ?_⟩
    obtain ⟨a, n, e, k, v, d, rfl, c, hv, z⟩ := h
    obtain ⟨ps, hl, hps⟩ := c.vw
    obtain ⟨p, hp⟩ : ∃ p, ps[v]? = some p := by
      have h := hps.length
      exact ⟨ps[v]'(by omega), List.getElem?_eq_getElem _⟩
    obtain ⟨row, hrow, hpt⟩ := Paired.at hps v p hp
    have hlen := (view_row c.good hrow).1
    have hn7 := c.good.n7
    rw [getD_of hrow] at z
    refine ⟨_, rfl, a, C, d.dx, _, _, rfl, c.obj, T.cl, T.nV, cF_V, _, rfl, d.av, _, _, _, rfl, rfl, .of hl, atI_nat (by rw [List.getElem?_map, hp]; rfl), p, row, rfl, hpt, by omega, fun H1 s1 => ⟨_, rfl, ?_⟩⟩
    unfold deedsOf at z
    cases cm : isEven row with
    | true =>
      rw [cm, if_pos rfl] at z
      exact iteT ⟨(by show 2 ≤ sizeLine; decide), fun q hq => z _ q (s1.put (s1.free hq)) (s1.free hq) upd_same⟩
    | false =>
      rw [cm, if_neg Bool.false_ne_true] at z
      exact iteF ⟨(by show 3 ≤ sizeLine; decide), fun q hq => z _ q (s1.put (s1.free hq)) (s1.free hq) upd_same⟩
def spMany (K : PySem.W.Frag) (C : Addr) : Sp := fun vs H Q _ => ∃ (a : Addr) (n e k : Nat) (d : CaseD), vs = [.ref a] ∧ CaseS K C H a n e k d ∧ ∀ H', Same H H' → Q (.int (manyRules (allViews (allNames n k) e) : Nat)) H'
abbrev sMany : Stmt := inClass (top 25) 3
abbrev nMany : List Str := ["self", "found", "view"]
theorem sc_many : FnScope nMany ["self"] (defScope sMany) := ⟨rfl, rfl, rfl, by decide +kernel, rfl, by decide +kernel, by decide +kernel⟩
theorem ok_many (B : Bts mg) (T : CaseTxt K mg C) (D : MDef K C "many_rules" "Case.many_rules" sMany ["self"]) (Md : Met P w K mg base CX0 2 C "deeds_of" ["self", "view"] (spDeeds K C)) : Met P w K mg base CX0 3 C "many_rules" ["self"] (spMany K C) := by
  refine D.met fun f fd F => F.ok sc_many (fun vs H Q E h => ?_) (fun cdv A outer s H vs Q E hr h => ?_)
  · obtain ⟨a, n, e, k, d, rfl, _⟩ := h
    rfl
  · have nd := sc_many.nd
    refine ⟨_, pss_cons (ps_set (i := 1) nd rfl (Or.inl rfl) pe_int)
      (pss_cons (ps_for PassesOwn.never rfl (pi_range1 rfl B.range (pa_cons (pe_callB call_len_seq rfl B.len bt_len (pa_cons (pe_fld (pv 0) rfl) pa_nil)) pa_nil)) (pg_name (i := 2) nd rfl (Or.inl rfl))
        (pss_one (ps_set (i := 1) nd rfl (Or.inl rfl) (pe_op op_mul (pv 1) (pe_callB call_len_seq rfl B.len bt_len (pa_cons (pe_m T.cl Md hr (pv 0) (pa_cons (pv 2) pa_nil)) pa_nil))))))
      (pss_one (ps_ret (pv 1)))), ?_⟩
    obtain ⟨a, n, e, k, d, rfl, c, z⟩ := h
    obtain ⟨ps, hl, hps⟩ := c.vw
    have lps := hps.length
    have hfew := (views_few c.good c.e2).2
    refine ⟨_, rfl, a, C, d.dx, _, _, rfl, c.obj, T.cl, T.nV, cF_V, _, _, rfl, .inl (.of hl), _, rfl, by omega, by rw [List.length_map]; omega, ?_⟩
    refine for_it walk_rg (fun i σ H' => ∃ v2 : Option V, σ = [some (.ref a), some (.int (manyRules ((allViews (allNames n k) e).take i) : Nat)), v2] ∧ Same H H') ⟨none, rfl, Same.refl _⟩ (fun _ _ _ _ _ => trivial) ?_ ?_
    · rintro i x σ H2 H1 hi ⟨v2, rfl, s1⟩ ⟨rfl, rfl⟩
      have hi' : i < (allViews (allNames n k) e).length := by
        rw [List.length_map, Int.toNat_natCast] at hi
        omega
      have hrow := List.getElem?_eq_getElem hi'
      have c1 := c.on s1.kp
      have hsm := many_small _ ((allViews (allNames n k) e).take i) rfl
      rw [List.length_take] at hsm
      have h3 : (3 : Nat) ^ (min i (allViews (allNames n k) e).length) ≤ 3 ^ 16 := Nat.pow_le_pow_right (by decide) (by omega)
      refine ⟨_, rfl, _, rfl, a, d.dx, _, rfl, c1.obj, cF_none (by decide +kernel), _, rfl, a, n, e, k, i, d, rfl, c1, hi', fun H3 q s3 fq hq => ⟨q, _, rfl, .inl (.of hq), _, _, rfl, rfl, .inl ?_, ?_⟩⟩
      · have : (3 : Nat) ^ 16 = 43046721 := by decide
        constructor <;> omega
      · refine ⟨some (.int (i : Nat)), ?_, s1.trans s3⟩
        rw [take_more hrow, many_more, tN_len, getD_of hrow]
        show [some (V.ref a), some (V.int (_ * _)), some (V.int (i : Nat))] = _
        rw [Int.natCast_mul]
    · rintro σ H1 ⟨v2, rfl, s1⟩
      have e1 : ((List.map V.ref ps).length : Int).toNat = (allViews (allNames n k) e).length := by
        rw [List.length_map, Int.toNat_natCast, lps]
      rw [e1, List.take_length]
      exact ⟨_, rfl, z H1 s1⟩
def castRows (rows : List (List Nat)) : List (List Int) := rows.map fun r => r.map fun (i : Nat) => (i : Int)
def spRules (K : PySem.W.Frag) (C : Addr) : Sp := fun vs H Q _ => ∃ (a : Addr) (n e k : Nat) (d : CaseD), vs = [.ref a] ∧ CaseS K C H a n e k d ∧ manyRules (allViews (allNames n k) e) ≤ 6000 ∧
  ∀ H' q, Same H H' → H q = none → LsT K H' q (castRows (rules (allViews (allNames n k) e))) → Q (.ref q) H'
abbrev sRules : Stmt := inClass (top 25) 4
abbrev nRules : List Str := ["self", "found", "view", "longer", "rule", "done"]
theorem sc_rules : FnScope nRules ["self"] (defScope sRules) := ⟨rfl, rfl, rfl, by decide +kernel, rfl, by decide +kernel, by decide +kernel⟩
theorem ok_rules (B : Bts mg) (T : CaseTxt K mg C) (D : MDef K C "rules" "Case.rules" sRules ["self"]) (Md : Met P w K mg base CX0 2 C "deeds_of" ["self", "view"] (spDeeds K C)) : Met P w K mg base CX0 3 C "rules" ["self"] (spRules K C) := by
  refine D.met fun f fd F => F.ok sc_rules (fun vs H Q E h => ?_) (fun cdv A outer s H vs Q E hr h => ?_)
  · obtain ⟨a, n, e, k, d, rfl, _⟩ := h
    rfl
  · have nd := sc_rules.nd
    refine ⟨_, pss_cons (ps_set (i := 1) nd rfl (Or.inl rfl) (pe_lst (pa_cons (pe_tup pa_nil) pa_nil)))
      (pss_cons (ps_for PassesOwn.never rfl (pi_range1 rfl B.range (pa_cons (pe_callB call_len_seq rfl B.len bt_len (pa_cons (pe_fld (pv 0) rfl) pa_nil)) pa_nil)) (pg_name (i := 2) nd rfl (Or.inl rfl))
        (pss_cons (ps_set (i := 3) nd rfl (Or.inl rfl) (pe_lst pa_nil))
        (pss_cons (ps_for PassesOwn.never rfl (pi_list (pv 1)) (pg_name (i := 4) nd rfl (Or.inr rfl))
          (pss_one (ps_expr (pe_bm PySem.F.plainAttrs_list PySem.F.slot_list_extend PySem.F.type_list_extend mt_extend (pv 3) (pa_cons
            (pe_lc (own := [("done", 5)]) (g := gName 5) (tt := tYes) (te := tOp (rCatA K) (tVar 4) (tTup (tCons (tVar 5) tNil))) rfl nd (pi_list (pe_m T.cl Md hr (pv 0) (pa_cons (pv 2) pa_nil))) (blkOk_by (own := [("done", 5)]) (N := nRules) (sc := defScope sRules) (by decide +kernel))
              (fun _ _ _ _ _ => pg_name (i := 5) nd rfl (Or.inl rfl)) (fun _ _ _ _ _ => pts_nil) (fun _ _ _ _ _ => pe_op op_catA (pv 4) (pe_tup (pa_cons (pv 5) pa_nil)))) pa_nil)))))
        (pss_one (ps_set (i := 1) nd rfl (Or.inl rfl) (pv 3))))))
      (pss_one (ps_ret (pv 1)))), ?_⟩
    obtain ⟨a, n, e, k, d, rfl, c, hm, z⟩ := h
    obtain ⟨vps, hvl, hvps⟩ := c.vw
    have lvps := hvps.length
    have hfew := (views_few c.good c.e2).2
    generalize hV : allViews (allNames n k) e = vw at *
    refine ⟨(by show 0 ≤ sizeLine; decide), fun t ht => ⟨(by show 1 ≤ sizeLine; decide), fun f0 hf0 => ?_⟩⟩
    have s0 : Same H (upd (upd H t (.tup [])) f0 (.lst [.ref t])) := (Same.new ht).put ((Same.new ht).free hf0)
    refine ⟨_, rfl, a, C, d.dx, _, _, rfl, s0 _ _ c.obj, T.cl, T.nV, cF_V, _, _, rfl, .inl (.of (s0 _ _ hvl)), _, rfl, by omega, by rw [List.length_map]; omega, ?_⟩
    have en : (((List.map V.ref vps).length : Nat) : Int).toNat = vw.length := by
      rw [List.length_map, Int.toNat_natCast, lvps]
    refine for_it walk_rg (fun i σ H' => ∃ (fa : Addr) (v2 v3 v4 : Option V), σ = [some (.ref a), some (.ref fa), v2, v3, v4, none] ∧ Same H H' ∧ H fa = none ∧ LsT K H' fa (castRows (rulesUp (vw.take i) [[]]))) ?_ (fun _ _ _ _ _ => trivial) ?_ ?_
    · refine ⟨f0, none, none, none, rfl, s0, (Same.new ht).free hf0, [t], upd_same, .cons ?_ .nil⟩
      exact (Same.new hf0).tup (SqT.of upd_same)
    · rintro i x σ H2 H1 hi ⟨fa, v2, v3, v4, rfl, s1, hfa, ps, hl, hps⟩ ⟨rfl, rfl⟩
      refine ⟨(by show 0 ≤ sizeLine; decide), fun g hg => ?_⟩
      have pg := Same.new (o := .lst []) hg
      refine ⟨_, rfl, fa, rfl, ⟨_, .of (pg _ _ hl)⟩, ?_⟩
      have hi' : i < vw.length := by rw [← en]; exact hi
      have hv : vw[i]? = some (vw.getD i []) := by
        rw [List.getD_eq_getElem?_getD, List.getElem?_eq_getElem hi']
        rfl
      have hrows := hps.length
      unfold castRows at hrows
      rw [List.length_map, rules_len _ _ rfl] at hrows
      have ht1 := many_take vw i
      have ht2 := many_take vw (i + 1)
      rw [take_more hv, many_more] at ht2
      have hgH : H g = none := s1.free hg
      refine for_it (walk_list (K := K) (a := fa) (xs := ps.map V.ref)) (fun j σ H' => ∃ (v4 : Option V), σ = [some (.ref a), some (.ref fa), some (.int i), some (.ref g), v4, none] ∧ Same H1 H' ∧ LsT K H' g (castRows (rStep (vw.getD i []) ((rulesUp (vw.take i) [[]]).take j)))) ?_ ?_ ?_ ?_
      · exact ⟨v4, rfl, pg, [], upd_same, .nil⟩
      · rintro j σ H3 _ ⟨v, _, s3, _⟩
        exact .of (s3 _ _ hl)
      · rintro j y σ H4 H3 hj ⟨v, rfl, s3, ps2, hl2, hps2⟩ ⟨rfl, hy⟩
        obtain ⟨p, hp, rfl⟩ := ref_at hy
        obtain ⟨rowI, hrow, hpt⟩ := Paired.at hps j p hp
        unfold castRows at hrow
        rw [List.getElem?_map] at hrow
        obtain ⟨row, hrow2, rfl⟩ := Option.map_eq_some_iff.mp hrow
        have hrl := rules_row _ (vw.take i) rfl row (List.mem_of_getElem? hrow2)
        rw [List.length_take] at hrl
        have s13 := s1.trans s3
        refine ⟨_, rfl, .inl ⟨rfl, _, .of hl2⟩, ?_⟩
        have c3 : CaseS K C H3 a n e k d := c.on s13.kp
        refine ⟨_, rfl, a, d.dx, _, rfl, c3.obj, cF_none (by decide +kernel), _, rfl, a, n, e, k, i, d, rfl, c3, by rw [hV]; exact hi', fun H4 dl s4 fd4 hd4 => ?_⟩
        rw [hV] at hd4
        have dlen := deeds_len (vw.getD i [])
        refine ⟨dl, rfl, ⟨_, .of hd4⟩, fun b hb => ?_⟩
        refine lc_map (walk_list (K := K) (a := dl) (xs := tN (deedsOf (vw.getD i [])))) (FTup K fun m => (row ++ [(deedsOf (vw.getD i [])).getD m 0]).map fun (i : Nat) => (i : Int)) stays_tup hb (by rw [tN_len]; omega) (fun H' s' => .of (s' _ _ hd4)) ?_ ?_
        · rintro m x H6 H5 hm' s5 ⟨rfl, hx⟩ Z hz
          obtain ⟨dv, hdv, rfl⟩ := nat_at hx
          refine ⟨rfl, _, rfl, _, rfl, (by show 1 ≤ sizeLine; decide), fun u hu => ?_⟩
          have s6 := (Same.new (o := .tup [V.int (dv : Nat)]) hu)
          refine cat_tI (r := row.map fun (i : Nat) => (i : Int)) (s := [(dv : Int)]) (s6.tup (s5.tup (s4.tup (s3.tup hpt)))) (SqT.of upd_same) ?_ fun H7 q s7 h7 => hz _ H7 (s6.trans s7) ⟨q, rfl, ?_⟩
          · rw [List.length_map]
            show row.length + 1 ≤ 100000
            omega
          · show SqT K H7 q (tI ((row ++ [(deedsOf (vw.getD i [])).getD m 0]).map fun (i : Nat) => (i : Int)))
            rw [getD_of hdv, List.map_append]
            exact h7
        · intro H5 acc s5 ha pr
          obtain ⟨qs, rfl, hqs⟩ := tups_of pr
          have e1 : (List.range (tN (deedsOf (vw.getD i []))).length).map (fun m => (row ++ [(deedsOf (vw.getD i [])).getD m 0]).map fun (i : Nat) => (i : Int)) = castRows ((deedsOf (vw.getD i [])).map fun d => row ++ [d]) := by
            rw [tN_len]
            have h := congrArg (List.map fun d : Nat => (row ++ [d]).map fun (i : Nat) => (i : Int)) (range_getD 0 (deedsOf (vw.getD i [])))
            rw [List.map_map] at h
            unfold castRows
            rw [List.map_map]
            exact h
          rw [e1] at hqs
          have hl5 := s5 _ _ (s4 _ _ hl2)
          have lall : ps2.length + qs.length ≤ 6000 := by
            have h1 : ps2.length + qs.length = (rStep (vw.getD i []) ((rulesUp (vw.take i) [[]]).take (j + 1))).length := by
              rw [take_more hrow2, rStep_app, rStep_one, List.length_append, hps2.length, hqs.length]
              unfold castRows
              rw [List.length_map, List.length_map]
            rw [h1, rStep_len]
            refine Nat.le_trans (Nat.mul_le_mul_right _ (List.length_take_le' _ _)) ?_
            rw [rules_len _ _ rfl]
            exact Nat.le_trans ht2 hm
          refine ⟨g, b, _, _, rfl, rfl, hl5, ha, ?_, _, rfl, ((s3.trans s4).trans s5).put hg, ps2 ++ qs, by rw [List.map_append]; exact upd_same, ?_⟩
          · rw [List.length_map, List.length_map]
            exact small_line (by omega)
          · rw [take_more hrow2, rStep_app, rStep_one]
            unfold castRows at hqs hps2 ⊢
            rw [List.map_append]
            exact tups_app (tups_put hl5 hqs) (tups_put hl5 ((s4.trans s5).tups hps2))
      · rintro σ H3 ⟨v, rfl, s3, h3⟩
        have e1 : (rulesUp (vw.take i) [[]]).take (ps.map V.ref).length = rulesUp (vw.take i) [[]] := by
          rw [List.length_map, hrows, ← rules_len _ (vw.take i) rfl, List.take_length]
        rw [e1] at h3
        refine ⟨_, rfl, g, _, _, _, rfl, s1.trans s3, hgH, ?_⟩
        rw [take_more hv, rulesUp_more]
        exact h3
    · rintro σ H1 ⟨fa, v2, v3, v4, rfl, s1, hfa, h1⟩
      rw [en, List.take_length] at h1
      exact ⟨_, rfl, z H1 fa s1 hfa h1⟩
end
end Rf
/-! ## RfM8 -/
namespace Rf
/-! ### what is behind a ring is a ring -/
def addAt (f : List Int) (i : Nat) (v : Int) : List Int := f.set i (f.getD i 0 + v)
theorem addAt_len (f : List Int) (i : Nat) (v : Int) : (addAt f i v).length = f.length := by
  unfold addAt
  rw [List.length_set]
theorem addAt_get {f : List Int} {i j : Nat} {v : Int} (h : i < f.length) : (addAt f i v).getD j 0 = if i = j then f.getD i 0 + v else f.getD j 0 := by
  unfold addAt
  rw [List.getD_eq_getElem?_getD, List.getElem?_set]
  by_cases e : i = j
  · subst e
    rw [if_pos rfl, if_pos rfl, if_pos h]
    rfl
  · rw [if_neg e, if_neg e, List.getD_eq_getElem?_getD]
theorem sum_set : ∀ (f : List Int) (i : Nat) (x : Int), i < f.length → (f.set i x).sum = f.sum - f.getD i 0 + x
  | [], i, _, h => by simp at h
  | y :: f, 0, x, _ => by
    simp
    omega
  | y :: f, i + 1, x, h => by
    have ih := sum_set f i x (by simpa using h)
    rw [List.set_cons_succ, List.sum_cons, List.sum_cons, ih]
    have e : (y :: f).getD (i + 1) 0 = f.getD i 0 := by simp [List.getD_eq_getElem?_getD]
    rw [e]
    omega
theorem addAt_sum {f : List Int} {i : Nat} {v : Int} (h : i < f.length) : (addAt f i v).sum = f.sum + v := by
  unfold addAt
  rw [sum_set f i _ h]
  omega
theorem gnStep_is (n : Nat) (p : Nat) (a b : Int) (f : List Int) : gnStep n (p, a, b) f = addAt (addAt (addAt f p (-(a + b))) ((p + 1) % n) a) ((p + (n - 1)) % n) b := by
  unfold gnStep addAt
  have e : f.getD p 0 - a - b = f.getD p 0 + -(a + b) := by omega
  simp only [e]
structure Fits (f : List Int) (l : List (Nat × Int × Int)) : Prop where
  nn : ∀ j, 0 ≤ f.getD j 0
  nd : (l.map (·.1)).Nodup
  each : ∀ x ∈ l, x.1 < f.length ∧ 0 ≤ x.2.1 ∧ 0 ≤ x.2.2 ∧ x.2.1 + x.2.2 ≤ f.getD x.1 0
theorem goneUp_fits (n : Nat) : ∀ (l : List (Nat × Int × Int)) (f : List Int), f.length = n → Fits f l → (∀ j, 0 ≤ (goneUp n l f).getD j 0) ∧ (goneUp n l f).sum = f.sum
  | [], f, _, h => ⟨h.nn, rfl⟩
  | (p, a, b) :: l, f, hn, h => by
    obtain ⟨hp, ha, hb, hab⟩ := h.each (p, a, b) List.mem_cons_self
    have hp : p < n := by rw [← hn]; exact hp
    have ha : 0 ≤ a := ha
    have hb : 0 ≤ b := hb
    have hab : a + b ≤ f.getD p 0 := hab
    have m1 : (p + 1) % n < n := Nat.mod_lt _ (by omega)
    have m2 : (p + (n - 1)) % n < n := Nat.mod_lt _ (by omega)
    have nd := List.nodup_cons.mp h.nd
    have get : ∀ j, (gnStep n (p, a, b) f).getD j 0 = (if p = j then f.getD p 0 - (a + b) else f.getD j 0) + (if (p + 1) % n = j then a else 0) + (if (p + (n - 1)) % n = j then b else 0) := fun j => by
      rw [gnStep_is, addAt_get (by rw [addAt_len, addAt_len, hn]; exact m2)]
      have g2 : ∀ j, (addAt (addAt f p (-(a + b))) ((p + 1) % n) a).getD j 0 = (if p = j then f.getD p 0 - (a + b) else f.getD j 0) + (if (p + 1) % n = j then a else 0) := fun j => by
        rw [addAt_get (by rw [addAt_len, hn]; exact m1)]
        have g1 : ∀ j, (addAt f p (-(a + b))).getD j 0 = if p = j then f.getD p 0 - (a + b) else f.getD j 0 := fun j => by
          rw [addAt_get (by rw [hn]; exact hp)]
          split <;> omega
        rw [g1 j]
        by_cases c : (p + 1) % n = j
        · subst c
          rw [if_pos rfl, if_pos rfl, g1]
        · rw [if_neg c, if_neg c]
          omega
      rw [g2 j]
      by_cases c : (p + (n - 1)) % n = j
      · subst c
        rw [if_pos rfl, if_pos rfl, g2]
      · rw [if_neg c, if_neg c]
        omega
    have ge : ∀ j, p ≠ j → f.getD j 0 ≤ (gnStep n (p, a, b) f).getD j 0 := fun j hj => by
      rw [get j, if_neg hj]
      split <;> split <;> omega
    have nn : ∀ j, 0 ≤ (gnStep n (p, a, b) f).getD j 0 := fun j => by
      have hj := h.nn j
      rw [get j]
      split <;> split <;> split <;> omega
    have hl : (gnStep n (p, a, b) f).length = n := by
      rw [gnStep_is, addAt_len, addAt_len, addAt_len, hn]
    have hs : (gnStep n (p, a, b) f).sum = f.sum := by
      rw [gnStep_is, addAt_sum (by rw [addAt_len, addAt_len, hn]; exact m2), addAt_sum (by rw [addAt_len, hn]; exact m1), addAt_sum (by rw [hn]; exact hp)]
      omega
    have r := goneUp_fits n l (gnStep n (p, a, b) f) hl ⟨nn, nd.2, fun x hx => by
      obtain ⟨h1, h2, h3, h4⟩ := h.each x (List.mem_cons_of_mem _ hx)
      have hne : p ≠ x.1 := fun e => nd.1 (List.mem_map.mpr ⟨x, hx, e.symm⟩)
      exact ⟨by rw [hl, ← hn]; exact h1, h2, h3, Int.le_trans h4 (ge _ hne)⟩⟩
    have e : goneUp n ((p, a, b) :: l) f = goneUp n l (gnStep n (p, a, b) f) := rfl
    rw [e]
    exact ⟨r.1, r.2.trans hs⟩
theorem goings_in {m side : Int} {done : Nat} (hm : 0 ≤ m) {q : Int × Int} (h : q ∈ goings m side done) : 0 ≤ q.1 ∧ 0 ≤ q.2 ∧ q.1 + q.2 ≤ m := by
  rw [goings_is] at h
  split at h
  · have e : q = (0, 0) := by simpa using h
    subst e
    simp
    omega
  · obtain ⟨f, hf, hq⟩ := List.mem_flatMap.mp h
    have hf := List.mem_range.mp hf
    unfold gOne at hq
    split at hq
    · obtain ⟨s, hs, rfl⟩ := List.mem_map.mp hq
      have hs := List.mem_range.mp hs
      simp
      omega
    · split at hq
      · have e : q = ((f : Int), 0) := by simpa using hq
        subst e
        simp
        omega
      · have e : q = (0, (f : Int)) := by simpa using hq
        subst e
        simp
        omega
theorem goingsRow (r : List Int) (hr : ∀ j, 0 ≤ r.getD j 0) : ∀ n (l : List (Nat × Int × Nat)), l.length = n → ∀ row ∈ goingsUp r l [[]], row.length = n ∧ ∀ (i : Nat) (x : Nat × Int × Nat) (q : Int × Int), l[i]? = some x → row[i]? = some q → 0 ≤ q.1 ∧ 0 ≤ q.2 ∧ q.1 + q.2 ≤ r.getD x.1 0
  | 0, l, h, row, hrow => by
    have e : l = [] := List.length_eq_zero_iff.mp h
    subst e
    have e : row = [] := by simpa [goingsUp] using hrow
    subst e
    simp
  | n + 1, l, h, row, hrow => by
    have hne : l ≠ [] := fun e => by rw [e] at h; simp at h
    have e := List.dropLast_concat_getLast hne
    have hd : l.dropLast.length = n := by rw [List.length_dropLast, h]; rfl
    rw [← e, goingsUp_more] at hrow
    obtain ⟨r0, h0, h1⟩ := List.mem_flatMap.mp hrow
    obtain ⟨pr, hpr, rfl⟩ := List.mem_map.mp h1
    obtain ⟨l0, m0⟩ := goingsRow r hr n l.dropLast hd r0 h0
    refine ⟨by rw [List.length_append, l0]; rfl, fun i x q hx hq => ?_⟩
    rw [← e] at hx
    by_cases c : i < n
    · rw [List.getElem?_append_left (by omega)] at hx hq
      exact m0 i x q hx hq
    · rw [List.getElem?_append_right (by omega)] at hx hq
      rw [hd] at hx
      rw [l0] at hq
      have ei : i - n = 0 := by
        cases q0 : i - n with
        | zero => rfl
        | succ m =>
          rw [q0] at hx
          simp at hx
      rw [ei] at hx hq
      have ex : l.getLast hne = x := by simpa using hx
      have eq : pr = q := by simpa using hq
      rw [← ex, ← eq]
      exact goings_in (hr _) hpr
theorem gone_ok {k n : Nat} {r sides : List Int} {deeds : List Nat} (ok : RingOk k n r) (ls : sides.length = (hadPlaces r).length) (ld : deeds.length = (hadPlaces r).length) {row : List (Int × Int)} (h : row ∈ allGoings r sides deeds) :
    (gone r row).length = n ∧ (∀ j, 0 ≤ (gone r row).getD j 0) ∧ (gone r row).sum = r.sum := by
  have nn : ∀ j, 0 ≤ r.getD j 0 := fun j => (getD_ok ok j).1
  obtain ⟨h1, h2⟩ := goingsRow r nn _ _ rfl row h
  have lz : ((hadPlaces r).zip (sides.zip deeds)).length = (hadPlaces r).length := by rw [List.length_zip, List.length_zip]; omega
  have hf : Fits r ((hadPlaces r).zip row) := by
    refine ⟨nn, ?_, fun x hx => ?_⟩
    · have e : ((hadPlaces r).zip row).map (·.1) = hadPlaces r := by
        rw [List.map_fst_zip]
        omega
      rw [e]
      exact List.Nodup.sublist List.filter_sublist List.nodup_range
    · obtain ⟨i, hi⟩ := List.getElem?_of_mem hx
      rw [List.getElem?_zip_eq_some] at hi
      have hlt : i < (hadPlaces r).length := (List.getElem?_eq_some_iff.mp hi.1).1
      have hs : sides[i]? = some sides[i] := List.getElem?_eq_getElem (by omega)
      have hd : deeds[i]? = some deeds[i] := List.getElem?_eq_getElem (by omega)
      have hz : ((hadPlaces r).zip (sides.zip deeds))[i]? = some (x.1, sides[i], deeds[i]) := by
        rw [List.getElem?_zip_eq_some]
        exact ⟨hi.1, by rw [List.getElem?_zip_eq_some]; exact ⟨hs, hd⟩⟩
      obtain ⟨a, b, c⟩ := h2 i _ _ hz hi.2
      exact ⟨mem_had (List.mem_of_getElem? hi.1), a, b, c⟩
  obtain ⟨g1, g2⟩ := goneUp_fits r.length ((hadPlaces r).zip row) r rfl hf
  exact ⟨by unfold gone; rw [goneUp_len, ok.len], g1, g2⟩
theorem ringsUp_all (k : Nat) : ∀ n (r : List Int), r.length = n → (∀ x ∈ r, 0 ≤ x) → r.sum ≤ k → r ∈ ringsUp k n
  | 0, r, h, _, _ => by
    have e : r = [] := List.length_eq_zero_iff.mp h
    subst e
    simp [ringsUp]
  | n + 1, r, h, hx, hs => by
    have hne : r ≠ [] := fun e => by rw [e] at h; simp at h
    have e := List.dropLast_concat_getLast hne
    have hd : r.dropLast.length = n := by rw [List.length_dropLast, h]; rfl
    have hsum : r.dropLast.sum + r.getLast hne = r.sum := by
      conv => rhs; rw [← e]
      rw [List.sum_append]
      simp
    have hlast := hx _ (List.getLast_mem hne)
    have hxd : ∀ x ∈ r.dropLast, 0 ≤ x := fun x h => hx x ((List.dropLast_sublist r).subset h)
    have hnn : 0 ≤ r.dropLast.sum := by
      have g : ∀ l : List Int, (∀ x ∈ l, 0 ≤ x) → 0 ≤ l.sum := by
        intro l
        induction l with
        | nil => intro _; simp
        | cons y l ih =>
          intro h
          have := h y List.mem_cons_self
          have := ih fun z hz => h z (List.mem_cons_of_mem _ hz)
          rw [List.sum_cons]
          omega
      exact g _ hxd
    have ih := ringsUp_all k n r.dropLast hd hxd (by omega)
    refine List.mem_flatMap.mpr ⟨r.dropLast, ih, List.mem_map.mpr ⟨(r.getLast hne).toNat, List.mem_range.mpr (by omega), ?_⟩⟩
    rw [Int.toNat_of_nonneg hlast]
    exact e
theorem names_sum {n k : Nat} {x : List Int} (h : x ∈ allNames n k) (hn : 0 < n) : x.sum = k := by
  obtain ⟨r, hr, rfl⟩ := List.mem_map.mp (mem_inOrder.mp h)
  have hs : r.sum = k := by simpa using (List.mem_filter.mp hr).2
  have ok := allRings_ok hr
  have hb := nameOf_mem (r := r) fun e => by have := ok.len; rw [e] at this; simp at this; omega
  have ht : ∀ (y : List Int) i, (turned y i).sum = y.sum := fun y i => by
    unfold turned
    rw [List.sum_append, Int.add_comm, ← List.sum_append, List.take_append_drop]
  unfold Rf.both at hb
  rcases List.mem_append.mp hb with z | z
  · obtain ⟨i, _, e⟩ := List.mem_map.mp z
    rw [← e, ht, hs]
  · obtain ⟨i, _, e⟩ := List.mem_map.mp z
    rw [← e, ht, List.sum_reverse, hs]
theorem behind_name {n k : Nat} {r sides : List Int} {deeds : List Nat} (hn : 0 < n) (hr : r ∈ allNames n k) (ok : RingOk k n r) (ls : sides.length = (hadPlaces r).length) (ld : deeds.length = (hadPlaces r).length) {moves : Nat} {x : List Int} (h : x ∈ ringsBehind r sides deeds moves) :
    RingOk k n x ∧ nameOf x ∈ allNames n k := by
  obtain ⟨row, hrow, rfl⟩ := List.mem_map.mp h
  obtain ⟨h1, h2, h3⟩ := gone_ok ok ls ld (List.mem_filter.mp hrow).1
  rw [names_sum hr hn] at h3
  have hx : ∀ y ∈ gone r row, 0 ≤ y := fun y hy => by
    obtain ⟨i, hi⟩ := List.getElem?_of_mem hy
    have := h2 i
    rw [getD_of hi] at this
    exact this
  have hm : gone r row ∈ allRings n k := List.mem_filter.mpr ⟨ringsUp_all k n _ h1 hx (by rw [h3]; exact Int.le_refl _), by simpa using h3⟩
  exact ⟨allRings_ok hm, mem_inOrder.mpr (List.mem_map.mpr ⟨_, hm, rfl⟩)⟩
end Rf
/-! ## RfM9 -/
namespace Rf
theorem had_some {n k : Nat} {r : List Int} (g : Good n k) (h : r ∈ allNames n k) : 1 ≤ (hadPlaces r).length := by
  have hs := names_sum h (by have := g.n3; omega)
  have ok := names_ok g h
  have hk := g.k1
  cases e : hadPlaces r with
  | cons _ _ => simp
  | nil =>
    have hz : ∀ x ∈ r, x = 0 := fun x hx => by
      obtain ⟨i, hi⟩ := List.getElem?_of_mem hx
      have hn := ok.each x hx
      have hlt := (List.getElem?_eq_some_iff.mp hi).1
      by_cases c : 0 < x
      · have hm : i ∈ hadPlaces r := List.mem_filter.mpr ⟨List.mem_range.mpr hlt, by rw [getD_of hi]; exact decide_eq_true c⟩
        rw [e] at hm
        cases hm
      · omega
    have g : ∀ l : List Int, (∀ x ∈ l, x = 0) → l.sum = 0 := by
      intro l
      induction l with
      | nil => intro _; rfl
      | cons y l ih =>
        intro h
        rw [List.sum_cons, h y List.mem_cons_self, ih fun z hz => h z (List.mem_cons_of_mem _ hz)]
        rfl
    rw [g r hz] at hs
    omega
theorem had_row {n e k i : Nat} {r : List Int} (h : (allNames n k)[i]? = some r) : (kase n e k).had.getD i [] = (viewsIn r e).map fun v => (allViews (allNames n k) e).idxOf v := by
  apply getD_of
  show ((allNames n k).map fun r => (viewsIn r e).map fun v => (allViews (allNames n k) e).idxOf v)[i]? = _
  rw [List.getElem?_map, h]
  rfl
theorem deedsBy_is {n e k i : Nat} {r : List Int} (h : (allNames n k)[i]? = some r) (rule : List Nat) : deedsBy (kase n e k) i rule = ((viewsIn r e).map fun v => (allViews (allNames n k) e).idxOf v).map fun v => rule.getD v 0 := by
  unfold deedsBy
  rw [had_row h]
theorem view_in {n e k : Nat} {r v : List Int} (h : r ∈ allNames n k) (hv : v ∈ viewsIn r e) : v ∈ allViews (allNames n k) e := mem_inOrder.mpr (List.mem_flatMap.mpr ⟨r, h, hv⟩)
theorem viewsIn_len (r : List Int) (e : Nat) : (viewsIn r e).length = (hadPlaces r).length := List.length_map _
end Rf
/-! ## RfDesk -/
namespace Rf
/-! ### the desk's mirror -/
structure Dsk where
  case : Option (Nat × Nat × Nat)
  moves : Nat
  marked : Nat
  now : List Nat
abbrev Out := Except Int (Dsk × List Int)
def countedI (l : List Int) : List Int := (l.length : Int) :: l
def nI (l : List Nat) : List Int := l.map fun (i : Nat) => (i : Int)
def dBegin (p e r m : Nat) : Out := if ¬ (3 ≤ p ∧ p ≤ 7) ∨ 2 < e ∨ ¬ (1 ≤ r ∧ r ≤ 3) ∨ 2 < m then .error (-22) else
  .ok (⟨some (p, e, r), m, 0, List.replicate (allViews (allNames p r) e).length 0⟩, [((allViews (allNames p r) e).length : Int)])
def dSet (s : Dsk) (m : Nat) : Out := if 2 < m then .error (-22) else .ok ({ s with moves := m }, [(s.moves : Int)])
section
variable (s : Dsk) (n e k : Nat)
def dName (i : Nat) : Out := if (allNames n k).length ≤ i then .error (-2) else .ok (s, countedI ((allNames n k).getD i []))
def dView (v : Nat) : Out := if (allViews (allNames n k) e).length ≤ v then .error (-2) else
  .ok (s, (if isEven ((allViews (allNames n k) e).getD v []) then 1 else 0) :: (allViews (allNames n k) e).getD v [])
def onceEach (l : List Nat) : List Nat := l.foldl (fun o x => if x ∈ o then o else o ++ [x]) []
def dWho (i : Nat) : Out := if (allNames n k).length ≤ i then .error (-2) else .ok (s, countedI (nI (onceEach ((kase n e k).had.getD i []))))
def putMarks (b : Nat) : Dsk × List Int := ({ s with marked := b }, [((members b).length : Int)])
def dMark (i : Nat) : Out := if (allNames n k).length ≤ i then .error (-2) else if s.marked.testBit i then .error (-17) else .ok (putMarks s (s.marked + 2 ^ i))
def dUnmark (i : Nat) : Out := if (allNames n k).length ≤ i then .error (-2) else if s.marked.testBit i = false then .error (-6) else .ok (putMarks s (s.marked - 2 ^ i))
def maxI : List Int → Int
  | [] => 0
  | x :: l => l.foldl (fun a b => if a < b then b else a) x
def dApart : Dsk × List Int := putMarks s (bitsOf ((List.range (allNames n k).length).filter fun i => decide (maxI ((allNames n k).getD i []) = 1)))
def dTell (v d : Nat) : Out := if (allViews (allNames n k) e).length ≤ v then .error (-2) else if d ∈ deedsOf ((allViews (allNames n k) e).getD v []) then .ok ({ s with now := s.now.set v d }, [(s.now.getD v 0 : Int)]) else .error (-22)
/-! all rules at once -/
def allG (n e k m : Nat) : List Nat := (rules (allViews (allNames n k) e)).map fun r => gathers (kase n e k) r m
def goodP (s : Dsk) (n e k m : Nat) : List Nat := (List.range (allG n e k m).length).filter fun i => decide ((allG n e k m).getD i 0 &&& s.marked = s.marked)
theorem allG_len (n e k m : Nat) : (allG n e k m).length = manyRules (allViews (allNames n k) e) := by
  unfold allG
  rw [List.length_map]
  exact rules_len _ _ rfl
theorem goodP_lt {s : Dsk} {n e k m x : Nat} (h : x ∈ goodP s n e k m) : x < (rules (allViews (allNames n k) e)).length := by
  have z := List.mem_range.mp (List.mem_filter.mp h).1
  unfold allG at z
  rw [List.length_map] at z
  exact z
def dTake (s : Dsk) (n e k : Nat) : Out := if 6000 < manyRules (allViews (allNames n k) e) then .error (-28) else if (goodP s n e k s.moves).length = 0 then .error (-33) else
  .ok ({ s with now := (rules (allViews (allNames n k) e)).getD ((goodP s n e k s.moves).getD 0 0) [] }, [0])
def dGood (s : Dsk) (n e k : Nat) : List Int := [((members (gathers (kase n e k) s.now s.moves &&& s.marked)).length : Int), ((members s.marked).length : Int)]
def dTold (s : Dsk) (n e k : Nat) : List Int := [(n : Int), (e : Int), (k : Int), (s.moves : Int), ((members s.marked).length : Int)]
def dNth (s : Dsk) (n e k i : Nat) : Out := if 6000 < manyRules (allViews (allNames n k) e) then .error (-28) else if (goodP s n e k s.moves).length ≤ i then .error (-33) else
  .ok (s, countedI (nI ((rules (allViews (allNames n k) e)).getD ((goodP s n e k s.moves).getD i 0) [])))
def dMany (s : Dsk) (n e k : Nat) : Out := if 6000 < manyRules (allViews (allNames n k) e) then .error (-28) else
  .ok (s, [((goodP s n e k s.moves).length : Int), (manyRules (allViews (allNames n k) e) : Int)])
def dCounts (s : Dsk) (n e k : Nat) : List Int := (allG n e k s.moves).map fun b => ((members (b &&& s.marked)).length : Int)
def dBest (s : Dsk) (n e k : Nat) : Out := if 6000 < manyRules (allViews (allNames n k) e) then .error (-28) else
  .ok (s, maxI (dCounts s n e k) :: nI ((rules (allViews (allNames n k) e)).getD ((dCounts s n e k).idxOf (maxI (dCounts s n e k))) []))
def dSetOf (s : Dsk) (n e k v : Nat) : Nat := bitsOf ((List.range 3).filter fun m => (goodP s n e k s.moves).any fun i => decide (((rules (allViews (allNames n k) e)).getD i []).getD v 0 = m))
def dNeeded (s : Dsk) (n e k v : Nat) : Out := if (allViews (allNames n k) e).length ≤ v then .error (-2) else if 6000 < manyRules (allViews (allNames n k) e) then .error (-28) else if goodP s n e k s.moves = [] then .error (-33) else
  .ok (s, [(dSetOf s n e k v : Int)])
def dWhy (s : Dsk) (n e k : Nat) : Out := if 6000 < manyRules (allViews (allNames n k) e) then .error (-28) else if goodP s n e k s.moves ≠ [] then .error (-6) else
  .ok (s, countedI (nI (fewest (allG n e k s.moves) (members s.marked))))
def dAllAt (s : Dsk) (n e k : Nat) : Out := if 6000 < manyRules (allViews (allNames n k) e) then .error (-28) else
  .ok (s, (List.range 3).map fun m => ((goodP s n e k m).length : Int))
/-! which call it is -/
def dOne (c : Nat) (i : Nat) : Out := if c = 1 then dSet s i else if c = 3 then dName s n k i else if c = 5 then dView s n e k i else if c = 6 then dWho s n e k i else if c = 7 then dMark s n k i else if c = 8 then dUnmark s n k i else if c = 20 then dNeeded s n e k i else dNth s n e k i
def dNames (c : Nat) : Out := if c = 2 then .ok (s, [((allNames n k).length : Int)]) else if c = 4 then .ok (s, [((allViews (allNames n k) e).length : Int)]) else if c = 9 then .ok (dApart s n k) else if c = 10 then .ok (s, countedI (nI (members s.marked))) else
  if c = 11 then .ok (s, [(manyRules (allViews (allNames n k) e) : Int)]) else if c = 13 then .ok (s, countedI (nI s.now)) else if c = 14 then .ok (s, dGood s n e k) else .ok (s, countedI (nI (members (gathers (kase n e k) s.now s.moves))))
def dRules (c : Nat) : Out := if c = 16 then dNth s n e k 0 else if c = 17 then dTake s n e k else if c = 18 then dMany s n e k else if c = 19 then dBest s n e k else if c = 21 then dWhy s n e k else if c = 22 then dAllAt s n e k else .ok (s, dTold s n e k)
def dCase (c : Nat) (row : List Nat) : Out := if c = 12 then dTell s n e k (row.getD 0 0) (row.getD 1 0) else if row ≠ [] then dOne s n e k c (row.getD 0 0) else if c < 16 then dNames s n e k c else dRules s n e k c
end
def dAnswered (s : Dsk) (c : Nat) (row : List Nat) : Out := if c = 0 then dBegin (row.getD 0 0) (row.getD 1 0) (row.getD 2 0) (row.getD 3 0) else match s.case with
  | none => .error (-11)
  | some (n, e, k) => dCase s n e k c row
def dAnswer (s : Dsk) (c : Nat) (row : List Nat) : Dsk × List Int := match dAnswered s c row with
  | .ok x => x
  | .error z => (s, [z])
end Rf
/-! ## RfW15 -/
namespace Rf
open PySem PySem.Spec PyProof.Rows L2
/-! ### the dict of what is known -/
def keyOf (i : Nat) (deeds : List Nat) (moves : Nat) : K3 := ((i : Int), deeds.map (fun (i : Nat) => (i : Int)), (moves : Int))
structure KeyOk (n e k i : Nat) (deeds : List Nat) (moves : Nat) : Prop where
  lt : i < (allNames n k).length
  len : deeds.length = (hadPlaces ((allNames n k).getD i [])).length
  each : ∀ d ∈ deeds, d ≤ 2
  m : moves ≤ 2
structure KnownFor (n e k : Nat) (xs : List (K3 × Addr × Int)) : Prop where
  nd : (xs.map (·.1)).Nodup
  ok : ∀ x ∈ xs, ∃ i deeds moves, KeyOk n e k i deeds moves ∧ x.1 = keyOf i deeds moves ∧ x.2.2 = (behind (kase n e k) i deeds moves : Nat)
def dUp : Nat → List (List Nat)
  | 0 => [[]]
  | m + 1 => [0, 1, 2].flatMap fun d => (dUp m).map fun l => d :: l
theorem mem_dUp : ∀ (l : List Nat), (∀ d ∈ l, d ≤ 2) → l ∈ dUp l.length
  | [], _ => by simp [dUp]
  | d :: l, h => by
    have ih := mem_dUp l fun x hx => h x (List.mem_cons_of_mem _ hx)
    have hd := h d List.mem_cons_self
    show d :: l ∈ [0, 1, 2].flatMap fun d => (dUp l.length).map fun l => d :: l
    refine List.mem_flatMap.mpr ⟨d, ?_, List.mem_map.mpr ⟨l, ih, rfl⟩⟩
    have : d = 0 ∨ d = 1 ∨ d = 2 := by omega
    simpa using this
def kAll : List K3 := (List.range 8).flatMap fun i => (List.range 4).flatMap fun m => (dUp m).flatMap fun l => (List.range 3).map fun mv => keyOf i l mv
theorem kAll_len : kAll.length = 960 := by decide +kernel
theorem mem_kAll {n e k i : Nat} {deeds : List Nat} {moves : Nat} (g : Good n k) (h : KeyOk n e k i deeds moves) : keyOf i deeds moves ∈ kAll := by
  have hi := h.lt
  have h8 := (names_few g).2
  have hr : (allNames n k).getD i [] ∈ allNames n k := by
    rw [List.getD_eq_getElem?_getD, List.getElem?_eq_getElem hi]
    exact List.getElem_mem hi
  have hf := had_few (names_ok g hr)
  have hk := g.k3
  have hl := h.len
  have hm := h.m
  refine List.mem_flatMap.mpr ⟨i, List.mem_range.mpr (by omega), List.mem_flatMap.mpr ⟨deeds.length, List.mem_range.mpr (by omega), List.mem_flatMap.mpr ⟨deeds, mem_dUp deeds h.each, List.mem_map.mpr ⟨moves, List.mem_range.mpr (by omega), rfl⟩⟩⟩⟩
theorem KnownFor.few {n e k : Nat} {xs : List (K3 × Addr × Int)} (g : Good n k) (h : KnownFor n e k xs) : xs.length < 100000 := by
  have z := nodup_len (xs.map (·.1)) kAll h.nd fun x hx => by
    obtain ⟨y, hy, rfl⟩ := List.mem_map.mp hx
    obtain ⟨i, deeds, moves, ok, e1, _⟩ := h.ok y hy
    rw [e1]
    exact mem_kAll g ok
  rw [List.length_map, kAll_len] at z
  omega
theorem lookK_none {xs : List (K3 × Addr × Int)} {k : K3} (h : (lookK xs k).isSome = false) : lookK xs k = none ∧ k ∉ xs.map (·.1) := by
  have h1 : lookK xs k = none := by
    cases e : lookK xs k with
    | none => rfl
    | some z => rw [e] at h; cases h
  refine ⟨h1, fun hm => ?_⟩
  unfold lookK at h1
  rw [Option.map_eq_none_iff, List.find?_eq_none] at h1
  obtain ⟨x, hx, e⟩ := List.mem_map.mp hm
  exact h1 x hx (decide_eq_true e)
theorem lookK_some {xs : List (K3 × Addr × Int)} {k : K3} {z : Int} (h : lookK xs k = some z) : ∃ x ∈ xs, x.1 = k ∧ x.2.2 = z := by
  unfold lookK at h
  obtain ⟨x, hx, e⟩ := Option.map_eq_some_iff.mp h
  exact ⟨x, List.mem_of_find?_eq_some hx, of_decide_eq_true (List.find?_some (p := fun x : K3 × Addr × Int => decide (x.1 = k)) hx), e⟩
theorem lookK_end {xs : List (K3 × Addr × Int)} {k : K3} {a : Addr} {z : Int} (h : lookK xs k = none) : lookK (xs ++ [(k, a, z)]) k = some z := by
  unfold lookK at h ⊢
  rw [Option.map_eq_none_iff] at h
  rw [List.find?_append, h]
  simp
theorem keyOf_inj {i i' : Nat} {l l' : List Nat} {m m' : Nat} (h : keyOf i l m = keyOf i' l' m') : i = i' ∧ l = l' ∧ m = m' := by
  unfold keyOf at h
  have h1 : (i : Int) = i' := congrArg (·.1) h
  have h2 : l.map (fun (i : Nat) => (i : Int)) = l'.map (fun (i : Nat) => (i : Int)) := congrArg (·.2.1) h
  have h3 : (m : Int) = m' := congrArg (·.2.2) h
  refine ⟨by omega, ?_, by omega⟩
  exact List.map_inj_right (fun a b e => by have e : (a : Int) = b := e; omega) |>.mp h2
theorem nil_ok {σ : L2.St} {H : Hp} {Q : List V → Hp → Prop} (h : Q [] H) : tNil σ H Q := h
theorem set_rows {K : PySem.W.Frag} {P : Program} {w : World} {H : Hp} {l : Addr} {rows : List (List Int)} {Z : VK} (D : List (List Int)) (hl : LsT K H l rows) (hD : ∀ r ∈ rows, r ∈ D) (hDl : D.length ≤ 62)
    (k : ∀ a H1 L, Same H H1 → H a = none → H1 a = some (SetTO P w a L) → (∀ p ∈ L, p.2 ∈ rows ∧ SqT K H1 p.1 (tI p.2)) → (∀ r ∈ rows, r ∈ L.map (·.2)) → Z (.ref a) H1) : rSetTups K P w [.ref l] H Z := by
  obtain ⟨ps, hl, hps⟩ := hl
  obtain ⟨e1, e2, e3⟩ := tups_pairs hps
  have inr : ∀ p ∈ ps.zip rows, p.2 ∈ rows := fun p hp => by
    rw [← e2]
    exact List.mem_map.mpr ⟨p, hp, rfl⟩
  refine ⟨l, ps.zip rows, D, rfl, ?_, e3, fun p hp => hD _ (inr p hp), hDl, fun a L ha sub all => ?_⟩
  · have e : (ps.zip rows).map (fun p => V.ref p.1) = ps.map V.ref := by
      rw [← e1, List.map_map, e1]
      rfl
    rw [e]
    exact .of hl
  · have s1 := Same.new (o := SetTO P w a L) ha
    refine k a _ L s1 ha upd_same (fun p hp => ⟨inr p (sub p hp), s1.tup (e3 p (sub p hp))⟩) fun r hr => ?_
    rw [← e2] at hr
    obtain ⟨q, hq, rfl⟩ := List.mem_map.mp hr
    exact all q hq
theorem sort_rows {K : PySem.W.Frag} {P : Program} {w : World} {H : Hp} {a : Addr} {L : List (Addr × List Int)} {rows : List (List Int)} {Q : VK} {d : Nat} {B : Int} (ha : H a = some (SetTO P w a L)) (sub : ∀ p ∈ L, p.2 ∈ rows ∧ SqT K H p.1 (tI p.2)) (all : ∀ r ∈ rows, r ∈ L.map (·.2))
    (hd : 1 ≤ d) (hb : ∀ r ∈ rows, r.length = d ∧ TS.Bd B r) (k : ∀ H' p, Same H H' → H p = none → LsT K H' p (inOrder rows) → Q (.ref p) H') : rSortedT K P w [.ref a] H Q := by
  refine ⟨a, L, d, B, rfl, ha, fun p hp => (sub p hp).2, hd, fun p hp => hb _ (sub p hp).1, fun L' p perm nd _ pw hp => ?_⟩
  have s2 := Same.new (o := .lst (L'.map fun q => V.ref q.1)) hp
  refine k _ p s2 hp ⟨L'.map (·.1), by rw [upd_same, List.map_map]; rfl, ?_⟩
  have e : L'.map (·.2) = inOrder rows := by
    refine rising_same (rising_of_code (B := B) (d := d) (fun q hq => hb _ (sub q (perm.mem_iff.mp hq)).1) nd pw) (rising_inOrder _) fun x => ?_
    rw [mem_inOrder]
    constructor
    · intro hx
      obtain ⟨q, hq, rfl⟩ := List.mem_map.mp hx
      exact (sub q (perm.mem_iff.mp hq)).1
    · intro hx
      obtain ⟨q, hq, e'⟩ := List.mem_map.mp (all x hx)
      exact List.mem_map.mpr ⟨q, perm.mem_iff.mpr hq, e'⟩
  rw [← e]
  exact tups_of_pairs fun q hq => s2.tup (sub q (perm.mem_iff.mp hq)).2
/-- all that a rule does to the gathered, by moves -/
structure CaseR (P : Program) (w : World) (K : PySem.W.Frag) (C : Addr) (H : Hp) (a : Addr) (n e k : Nat) (d : CaseD) : Prop where
  st : CaseS K C H a n e k d
  kn : H d.dk = some (KnownO P w d.dk d.xs)
  kin : ∀ x ∈ d.xs, K3In H x.1 x.2.1
  kok : KnownFor n e k d.xs
  ga : H d.dg = some (.dK d.kvs)
  gok : ∀ m v, valV d.kvs (Sum.inl m) = some v → ∃ (mm : Nat) (q : Addr), m = (mm : Int) ∧ mm ≤ 2 ∧ v = .ref q ∧ H q = some (.lst (tN (allG n e k mm)))
  gks : ∀ x ∈ d.kvs, ∃ mm : Nat, mm ≤ 2 ∧ x.1 = Sum.inl (mm : Int)
  gnd : (d.kvs.map (·.1)).Nodup
theorem k3In_kp {H H' : Hp} {k : K3} {a : Addr} (s : Kp H H') (h : K3In H k a) : K3In H' k a := by
  obtain ⟨b, h1, h2⟩ := h
  exact ⟨b, s.keep _ _ h1 rfl, s.keep _ _ h2 rfl⟩
theorem CaseR.same {P : Program} {w : World} {K : PySem.W.Frag} {C : Addr} {H H' : Hp} {a : Addr} {n e k : Nat} {d : CaseD} (c : CaseR P w K C H a n e k d) (s : Same H H') : CaseR P w K C H' a n e k d :=
  ⟨c.st.on s.kp, s _ _ c.kn, fun x hx => k3In_kp s.kp (c.kin x hx), c.kok, s _ _ c.ga, fun m v h => by
    obtain ⟨mm, q, h1, h2, h3, h4⟩ := c.gok m v h
    exact ⟨mm, q, h1, h2, h3, s _ _ h4⟩, c.gks, c.gnd⟩
theorem CaseR.known {P : Program} {w : World} {K : PySem.W.Frag} {C : Addr} {H : Hp} {a : Addr} {n e k : Nat} {d : CaseD} (c : CaseR P w K C H a n e k d) {i moves : Nat} {deeds : List Nat} {ky : Addr} (ok : KeyOk n e k i deeds moves) (hk : K3In H (keyOf i deeds moves) ky) (hn : lookK d.xs (keyOf i deeds moves) = none)
    (hm : keyOf i deeds moves ∉ d.xs.map (·.1)) : Kp H (upd H d.dk (KnownO P w d.dk (d.xs ++ [(keyOf i deeds moves, ky, ((behind (kase n e k) i deeds moves : Nat) : Int))]))) ∧
      CaseR P w K C (upd H d.dk (KnownO P w d.dk (d.xs ++ [(keyOf i deeds moves, ky, ((behind (kase n e k) i deeds moves : Nat) : Int))]))) a n e k { d with xs := d.xs ++ [(keyOf i deeds moves, ky, ((behind (kase n e k) i deeds moves : Nat) : Int))] } := by
  have s : Kp H (upd H d.dk (KnownO P w d.dk (d.xs ++ [(keyOf i deeds moves, ky, ((behind (kase n e k) i deeds moves : Nat) : Int))]))) := (Kp.refl H).put c.kn rfl
  have q := c.st.on s
  refine ⟨s, ⟨⟨q.obj, q.nm, q.vw, q.hd, q.hdl, q.sd, q.sdl, q.good, q.e2⟩, upd_same, fun x hx => ?_, ⟨?_, fun x hx => ?_⟩, ?_, fun m v h => ?_, c.gks, c.gnd⟩⟩
  · rcases List.mem_append.mp hx with h | h
    · exact k3In_kp s (c.kin x h)
    · have e : x = (keyOf i deeds moves, ky, ((behind (kase n e k) i deeds moves : Nat) : Int)) := by simpa using h
      rw [e]
      exact k3In_kp s hk
  · rw [List.map_append]
    refine List.nodup_append.mpr ⟨c.kok.nd, by simp, fun x hx y hy => ?_⟩
    have e : y = keyOf i deeds moves := by simpa using hy
    rw [e]
    exact fun z => hm (by rw [← z]; exact hx)
  · rcases List.mem_append.mp hx with h | h
    · exact c.kok.ok x h
    · have e : x = (keyOf i deeds moves, ky, ((behind (kase n e k) i deeds moves : Nat) : Int)) := by simpa using h
      rw [e]
      exact ⟨i, deeds, moves, ok, rfl, rfl⟩
  · show upd H d.dk _ d.dg = _
    rw [upd_ne (fun z => by have := c.ga; rw [z, c.kn] at this; cases this)]
    exact c.ga
  · obtain ⟨mm, q', h1, h2, h3, h4⟩ := c.gok m v h
    exact ⟨mm, q', h1, h2, h3, s.keep _ _ h4 rfl⟩
theorem CaseR.value {P : Program} {w : World} {K : PySem.W.Frag} {C : Addr} {H : Hp} {a : Addr} {n e k : Nat} {d : CaseD} (c : CaseR P w K C H a n e k d) {i moves : Nat} {deeds : List Nat} {z : Int} (h : lookK d.xs (keyOf i deeds moves) = some z) : z = ((behind (kase n e k) i deeds moves : Nat) : Int) := by
  obtain ⟨x, hx, e1, e2⟩ := lookK_some h
  obtain ⟨i', l', m', _, e3, e4⟩ := c.kok.ok x hx
  obtain ⟨h1, h2, h3⟩ := keyOf_inj (e1.symm.trans e3)
  subst h1 h2 h3
  rw [← e2, e4]
theorem kase_sides {n e k i : Nat} {r : List Int} (h : (allNames n k)[i]? = some r) : (kase n e k).sides[i]? = some ((hadPlaces r).map fun p => sideOf r p e) := by
  show ((allNames n k).map fun r => (hadPlaces r).map fun p => sideOf r p e)[i]? = _
  rw [List.getElem?_map, h]
  rfl
theorem kase_had {n e k i : Nat} {r : List Int} (h : (allNames n k)[i]? = some r) : (kase n e k).had[i]? = some ((viewsIn r e).map fun v => (allViews (allNames n k) e).idxOf v) := by
  show ((allNames n k).map fun r => (viewsIn r e).map fun v => (allViews (allNames n k) e).idxOf v)[i]? = _
  rw [List.getElem?_map, h]
  rfl
section
variable {P : Program} {w : World} {K : PySem.W.Frag} {mg : Str → Option Value} {base : Heap} {C : Addr}
def spBehind (P : Program) (w : World) (K : PySem.W.Frag) (C : Addr) : Sp := fun vs H Q _ => ∃ (a dd : Addr) (n e k i moves : Nat) (deeds : List Nat) (d : CaseD), vs = [.ref a, .int i, .ref dd, .int moves] ∧ CaseR P w K C H a n e k d ∧ H dd = some (.tup (tN deeds)) ∧ KeyOk n e k i deeds moves ∧
  ∀ H' xs', Kp H H' → CaseR P w K C H' a n e k { d with xs := xs' } → Q (.int (behind (kase n e k) i deeds moves : Nat)) H'
abbrev sBehind : Stmt := inClass (top 25) 5
abbrev nBehind : List Str := ["self", "i", "deeds", "moves", "key", "rings", "one", "ring"]
abbrev pBehind : List Str := ["self", "i", "deeds", "moves"]
theorem sc_behind : FnScope nBehind pBehind (defScope sBehind) := ⟨rfl, rfl, rfl, by decide +kernel, rfl, by decide +kernel, by decide +kernel⟩
theorem ok_behind (B : Bts mg) (T : CaseTxt K mg C) (D : MDef K C "behind" "Case.behind" sBehind pBehind) (Cr : Cal P w K mg base CX0 3 "rings_behind" ["ring", "sides", "deeds", "moves"] (spBehindR K)) (Cb : Cal P w K mg base CX0 1 "bits_of" ["numbers"] (spBits K))
    (Cn : Cal P w K mg base CX0 2 "name_of" ["ring"] (spName K)) : Met P w K mg base CX0 4 C "behind" pBehind (spBehind P w K C) := by
  refine D.met fun f fd F => F.ok sc_behind (fun vs H Q E h => ?_) (fun cdv A outer s H vs Q E hr h => ?_)
  · obtain ⟨a, dd, n, e, k, i, moves, deeds, d, rfl, _⟩ := h
    rfl
  · have nd := sc_behind.nd
    refine ⟨_, pss_cons (ps_set (i := 4) nd rfl (Or.inl rfl) (pe_tup (pa_cons (pv 1) (pa_cons (pv 2) (pa_cons (pv 3) pa_nil)))))
      (pss_cons (ps_if (pt_cmpR (op_notInK hr) (pv 4) (pe_fld (pv 0) rfl) (by rfl))
        (pss_cons (ps_set (i := 5) nd rfl (Or.inl rfl) (pe_c Cr hr (pa_cons (pe_ix ix_list (pe_fld (pv 0) rfl) (pv 1) (fun _ _ => rfl)) (pa_cons (pe_ix ix_list (pe_fld (pv 0) rfl) (pv 1) (fun _ _ => rfl)) (pa_cons (pv 2) (pa_cons (pv 3) pa_nil))))))
        (pss_one (ps_knownPut hr (pe_fld (pv 0) rfl) (pv 4) (pe_c Cb hr (pa_cons
          (pe_lc (own := [("one", 6)]) (g := gName 6) (tt := tYes) (te := tBM K "list" (rIndexD K) (tFld K (tVar 0) "names") (tCons (tVar 6) tNil)) rfl nd
            (pi_list (pe_callB (cr_sortedT rfl) rfl B.sorted bt_sorted (pa_cons (pe_callTy (cr_setTups rfl hr) rfl B.set bt_set (pa_cons
              (pe_lc (own := [("ring", 7)]) (g := gName 7) (tt := tYes) rfl nd (pi_list (pv 5)) (blkOk_by (own := [("ring", 7)]) (N := nBehind) (sc := defScope sBehind) (by decide +kernel))
                (fun _ _ _ _ _ => pg_name (i := 7) nd rfl (Or.inl rfl)) (fun _ _ _ _ _ => pts_nil) (fun _ _ _ _ _ => pe_c Cn hr (pa_cons (pv 7) pa_nil))) pa_nil)) pa_nil)))
            (blkOk_by (own := [("one", 6)]) (N := nBehind) (sc := defScope sBehind) (by decide +kernel)) (fun _ _ _ _ _ => pg_name (i := 6) nd rfl (Or.inl rfl)) (fun _ _ _ _ _ => pts_nil)
            (fun _ _ _ _ _ => pe_bm PySem.F.plainAttrs_list PySem.F.slot_list_index PySem.F.type_list_index (mt_indexD hr.idx) (pe_fld (pv 0) rfl) (pa_cons (pv 6) pa_nil))) pa_nil)))))
        pss_nil)
      (pss_one (ps_ret (pe_knownGet hr (pe_fld (pv 0) rfl) (pv 4) (fun _ _ => rfl))))), ?_⟩
    obtain ⟨a, dd, n, e, k, i, moves, deeds, d, rfl, c, hdd, ok, z⟩ := h
    have c0 := c.st
    have hn3 := c0.good.n3
    have hn7 := c0.good.n7
    have hk3 := c0.good.k3
    have h8 := (names_few c0.good).2
    obtain ⟨r, hr0⟩ : ∃ r, (allNames n k)[i]? = some r := ⟨_, List.getElem?_eq_getElem ok.lt⟩
    have hrm := List.mem_of_getElem? hr0
    have rok := names_ok c0.good hrm
    have hlen := ok.len
    rw [getD_of hr0] at hlen
    have hfew := had_few rok
    refine ⟨_, rfl, _, rfl, _, rfl, (by show 3 ≤ sizeLine; decide), fun ky hky => ?_⟩
    have sk := Same.new (o := .tup [V.int (i : Nat), V.ref dd, V.int (moves : Nat)]) hky
    have kin : K3In (upd H ky (.tup [V.int (i : Nat), V.ref dd, V.int (moves : Nat)])) (keyOf i deeds moves) ky := ⟨dd, upd_same, sk _ _ hdd⟩
    have c1 := c.same sk
    have hdd1 := sk _ _ hdd
    generalize upd H ky (.tup [V.int (i : Nat), V.ref dd, V.int (moves : Nat)]) = H1 at sk kin c1 hdd1 ⊢
    refine ⟨_, rfl, _, rfl, a, C, d.dx, _, _, rfl, c1.st.obj, T.cl, T.nK, cF_K, ky, d.dk, d.xs, keyOf i deeds moves, rfl, rfl, c1.kn, c1.kin, kin, _, rfl, ?_⟩
    cases hk : (lookK d.xs (keyOf i deeds moves)).isSome with
    | true =>
      obtain ⟨zz, hz⟩ := Option.isSome_iff_exists.mp hk
      refine iteF ⟨_, rfl, a, C, d.dx, _, _, rfl, c1.st.obj, T.cl, T.nK, cF_K, _, rfl, ky, d.dk, d.xs, keyOf i deeds moves, zz, rfl, rfl, c1.kn, c1.kin, kin, hz, ?_⟩
      rw [c.value hz]
      exact z H1 d.xs sk.kp c1
    | false =>
      obtain ⟨hn, hm⟩ := lookK_none hk
      refine iteT ?_
      obtain ⟨nps, hnl, hnt⟩ := c1.st.nm
      have hnlen := hnt.length
      obtain ⟨p, hp⟩ : ∃ p, nps[i]? = some p := ⟨nps[i]'(by rw [hnlen]; exact ok.lt), List.getElem?_eq_getElem _⟩
      obtain ⟨r', hr1, hpt⟩ := Paired.at hnt i p hp
      rw [hr0] at hr1
      cases hr1
      have hks := kase_sides (e := e) hr0
      have hsl := Paired.length c1.st.sdl
      obtain ⟨sp, hsp⟩ : ∃ p, d.ss[i]? = some p := ⟨d.ss[i]'(by rw [hsl]; exact (List.getElem?_eq_some_iff.mp hks).1), List.getElem?_eq_getElem _⟩
      obtain ⟨sr, hs1, hspt⟩ := Paired.at c1.st.sdl i sp hsp
      rw [hks] at hs1
      cases hs1
      have hls : ((hadPlaces r).map fun p => sideOf r p e).length = (hadPlaces r).length := List.length_map _
      refine ⟨_, rfl, a, C, d.dx, _, _, rfl, c1.st.obj, T.cl, T.nN, cF_N, _, rfl, d.an, _, _, _, rfl, rfl, .of hnl, atI_nat (by rw [List.getElem?_map, hp]; rfl), ?_⟩
      refine ⟨_, rfl, a, C, d.dx, _, _, rfl, c1.st.obj, T.cl, T.nS, cF_S, _, rfl, d.asd, _, _, _, rfl, rfl, .of c1.st.sd, atI_nat (by rw [List.getElem?_map, hsp]; rfl), ?_⟩
      refine ⟨_, rfl, _, rfl, p, sp, dd, r, _, deeds, moves, k, n, rfl, hpt, .of hspt, .of hdd1, rok, hk3, hn7, hls, hlen, fun H2 q s2 fq hq => ?_⟩
      have hin : ∀ x ∈ ringsBehind r ((hadPlaces r).map fun p => sideOf r p e) deeds moves, RingOk k n x ∧ nameOf x ∈ allNames n k := fun x hx => behind_name (by omega) hrm rok hls hlen hx
      have hcount : (ringsBehind r ((hadPlaces r).map fun p => sideOf r p e) deeds moves).length ≤ 4096 := by
        unfold ringsBehind
        rw [List.length_map]
        refine Nat.le_trans (List.length_filter_le _ _) (goingsUp_small rok hk3 ?_)
        rw [List.length_zip]
        omega
      have hbe : behind (kase n e k) i deeds moves = bitsOf ((inOrder ((ringsBehind r ((hadPlaces r).map fun p => sideOf r p e) deeds moves).map nameOf)).map fun x => (allNames n k).idxOf x) := by
        unfold behind
        rw [getD_of hks]
        show bitsOf ((inOrder ((ringsBehind ((allNames n k).getD i []) _ deeds moves).map nameOf)).map fun x => (allNames n k).idxOf x) = _
        rw [getD_of hr0]
      generalize hR : ringsBehind r ((hadPlaces r).map fun p => sideOf r p e) deeds moves = R at hq hin hcount hbe
      obtain ⟨qps, hql, hqt⟩ := hq
      have hqlen := hqt.length
      -- the names of the rings
      refine ⟨_, rfl, q, rfl, ⟨_, .of hql⟩, fun b hb => ?_⟩
      refine lc_map (walk_list (K := K) (a := q) (xs := qps.map V.ref)) (FTup K fun i => nameOf (R.getD i [])) stays_tup hb (by rw [List.length_map]; omega) (fun H' s' => .of (s' _ _ hql)) ?_ ?_
      · rintro j x H4 H3 hj s3 ⟨rfl, hx⟩ Z hz
        obtain ⟨pj, hpj, rfl⟩ := ref_at hx
        obtain ⟨rj, hrj, hrt⟩ := Paired.at hqt j pj hpj
        have rjok := (hin rj (List.mem_of_getElem? hrj)).1
        refine ⟨rfl, _, rfl, pj, rj, rfl, s3.tup hrt, (fun e => by have := rjok.len; rw [e] at this; simp at this; omega), by have := rjok.len; omega, fun H4 q4 s4 h4 => hz _ H4 s4 ⟨q4, rfl, ?_⟩⟩
        show SqT K H4 q4 (tI (nameOf (R.getD j [])))
        rw [getD_of hrj]
        exact h4
      · intro H3 acc s3 ha pr
        obtain ⟨qs, rfl, hqs⟩ := tups_of pr
        have e1 : (List.range (qps.map V.ref).length).map (fun i => nameOf (R.getD i [])) = R.map nameOf := by
          rw [List.length_map, hqlen]
          have h := congrArg (List.map nameOf) (range_getD ([] : List Int) R)
          rw [List.map_map] at h
          exact h
        rw [e1] at hqs
        have hmem : ∀ x ∈ R.map nameOf, x ∈ allNames n k := fun x hx => by
          obtain ⟨y, hy, rfl⟩ := List.mem_map.mp hx
          exact (hin y hy).2
        refine nil_ok (set_rows (allNames n k) ⟨qs, ha, hqs⟩ hmem (by omega) fun sa Ha L sS fS hS subS allS => nil_ok (sort_rows (B := 4) (d := n) hS subS allS (by omega) (fun x hx => ringOk_bd (names_ok c0.good (hmem x hx)) hk3) fun H4 u sU fU lu => ?_))
        have s4 := sS.trans sU
        obtain ⟨ups, hul, hut⟩ := lu
        have hulen := hut.length
        have s24 := (s2.trans s3).trans s4
        have hord : ∀ x ∈ inOrder (R.map nameOf), x ∈ allNames n k := fun x hx => hmem x (mem_inOrder.mp hx)
        have hol : (inOrder (R.map nameOf)).length ≤ 8 := by
          have ndo : (inOrder (R.map nameOf)).Nodup := (rising_inOrder _).imp fun {x y} h e => by
            rw [e, lt_irrefl] at h
            cases h
          exact Nat.le_trans (nodup_len _ _ ndo hord) h8
        refine ⟨u, rfl, ⟨_, .of hul⟩, fun b2 hb2 => ?_⟩
        refine lc_map (walk_list (K := K) (a := u) (xs := ups.map V.ref)) (FInt fun i => (((fun x => (allNames n k).idxOf x) ((inOrder (R.map nameOf)).getD i []) : Nat) : Int)) stays_int hb2 (by rw [List.length_map]; omega) (fun H' s' => .of (s' _ _ hul)) ?_ ?_
        · rintro j x H6 H5 hj s5 ⟨rfl, hx⟩ Z hz
          obtain ⟨pj, hpj, rfl⟩ := ref_at hx
          obtain ⟨rj, hrj, hrt⟩ := Paired.at hut j pj hpj
          have c5 := (c1.same s24).same s5
          obtain ⟨nps5, hnl5, _⟩ := c5.st.nm
          refine ⟨rfl, _, rfl, a, C, d.dx, _, _, rfl, c5.st.obj, T.cl, T.nN, cF_N, .inl ⟨rfl, _, .of hnl5⟩, _, rfl, ?_⟩
          refine index_rows c5.st.nm (s5.tup hrt) (hord rj (List.mem_of_getElem? hrj)) (hz _ H5 (Same.refl _) ?_)
          show V.int _ = V.int (((allNames n k).idxOf ((inOrder (R.map nameOf)).getD j []) : Nat) : Int)
          rw [getD_of hrj]
        · intro H5 acc2 s5 ha5 pr5
          have ea := ints_of pr5
          rw [List.length_map, hulen] at ea
          have e2 : (List.range (inOrder (R.map nameOf)).length).map (fun i => (((fun x => (allNames n k).idxOf x) ((inOrder (R.map nameOf)).getD i []) : Nat) : Int)) = ((inOrder (R.map nameOf)).map fun x => (allNames n k).idxOf x).map fun (i : Nat) => (i : Int) := by
            have h := congrArg (List.map fun x => (((allNames n k).idxOf x : Nat) : Int)) (range_getD ([] : List Int) (inOrder (R.map nameOf)))
            rw [List.map_map] at h
            rw [List.map_map]
            exact h
          rw [e2] at ea
          subst ea
          refine ⟨b2, (inOrder (R.map nameOf)).map fun x => (allNames n k).idxOf x, rfl, .of ha5, by rw [List.length_map]; omega, fun x hx => ?_, fun H6 s6 => ?_⟩
          · obtain ⟨y, hy, rfl⟩ := List.mem_map.mp hx
            have := (List.getElem?_eq_some_iff.mp (idx_at (hord y hy)).1).1
            omega
          · have s16 := (s24.trans s5).trans s6
            have c6 := c1.same s16
            have kin6 := k3In_kp s16.kp kin
            rw [← hbe]
            obtain ⟨s7, c7⟩ := c6.known ok kin6 hn hm
            refine ⟨_, rfl, a, C, d.dx, _, _, rfl, c6.st.obj, T.cl, T.nK, cF_K, _, rfl, ky, d.dk, d.xs, keyOf i deeds moves, _, rfl, rfl, rfl, c6.kn, c6.kin, kin6, hn, c.kok.few c0.good, ?_⟩
            refine ⟨_, rfl, a, C, d.dx, _, _, rfl, c7.st.obj, T.cl, T.nK, cF_K, _, rfl, ky, d.dk, _, keyOf i deeds moves, _, rfl, rfl, c7.kn, c7.kin, k3In_kp s7 kin6, lookK_end hn, ?_⟩
            exact z _ _ ((sk.trans s16).kp.trans s7) c7
end
end Rf
/-! ## RfW16 -/
namespace Rf
open PySem PySem.Spec PyProof.Rows L2
theorem CaseR.put {P : Program} {w : World} {K : PySem.W.Frag} {C : Addr} {H1 H : Hp} {a D : Addr} {n e k : Nat} {d : CaseD} {xs : List (K3 × Addr × Int)} {l l' : List V} (c1 : CaseR P w K C H1 a n e k d) (hD : H1 D = none) (s : Kp H1 H) (hl : H D = some (.lst l)) (c : CaseR P w K C H a n e k { d with xs := xs }) :
    CaseR P w K C (upd H D (.lst l')) a n e k { d with xs := xs } := by
  have off : ∀ {b : Addr} {o : HO}, H1 b = some o → b ≠ D := fun {b o} h z => by
    rw [z, hD] at h
    cases h
  have put : ∀ {b : Addr} {o o' : HO}, H b = some o → H1 b = some o' → upd H D (.lst l') b = some o := fun {b o o'} h h' => by
    rw [upd_ne (off h')]
    exact h
  have lst : ∀ {q : Addr} {rows : List (List Int)}, LsT K H q rows → LsT K H1 q rows → LsT K (upd H D (.lst l')) q rows := fun {q rows} h h' => lsT_put (off h'.choose_spec.1) hl h
  have tup : ∀ {b : Addr} {ys : List V}, H b = some (.tup ys) → upd H D (.lst l') b = some (.tup ys) := fun {b ys} h => by
    rw [upd_ne (fun z => by rw [z, hl] at h; cases h)]
    exact h
  have q := c.st
  have q1 := c1.st
  have lnsP : ∀ {fs : List Addr} {rows : List (List Nat)}, Lns H fs rows → Lns H1 fs rows → Lns (upd H D (.lst l')) fs rows := fun {fs rows} h h' => by
    refine lns_put (fun f hf => ?_) h
    obtain ⟨i, hi⟩ := List.getElem?_of_mem hf
    obtain ⟨r, _, hr⟩ := Paired.at h' i f hi
    exact off hr
  have lisP : ∀ {fs : List Addr} {rows : List (List Int)}, Lis H fs rows → Lis H1 fs rows → Lis (upd H D (.lst l')) fs rows := by
    intro fs rows h h'
    induction h with
    | nil => exact .nil
    | cons x t ih =>
      cases h' with
      | cons x' t' => exact .cons (put x x') (ih t')
  refine ⟨⟨put q.obj q1.obj, lst q.nm q1.nm, lst q.vw q1.vw, put q.hd q1.hd, lnsP q.hdl q1.hdl, put q.sd q1.sd, lisP q.sdl q1.sdl, q.good, q.e2⟩, put c.kn c1.kn, fun x hx => ?_, c.kok, put c.ga c1.ga, fun m v h => ?_, c.gks, c.gnd⟩
  · obtain ⟨b, h1, h2⟩ := c.kin x hx
    exact ⟨b, tup h1, tup h2⟩
  · obtain ⟨mm, q', h1, h2, h3, h4⟩ := c1.gok m v h
    exact ⟨mm, q', h1, h2, h3, put (s.keep _ _ h4 rfl) h4⟩
/-! ### the comprehension whose elements may write into dicts -/
structure StaysK (F : Nat → V → Hp → Prop) (D : Addr) : Prop where
  same : ∀ i y H H', Kp H H' → F i y H → F i y H'
  put : ∀ i y H l l', H D = some (.lst l) → F i y H → F i y (upd H D (.lst l'))
theorem staysK_paired {F : Nat → V → Hp → Prop} {D : Addr} (hF : StaysK F D) {H H' : Hp} (s : Kp H H') : ∀ {is : List Nat} {acc : List V}, Paired (fun i y => F i y H) is acc → Paired (fun i y => F i y H') is acc
  | _, _, .nil => .nil
  | _, _, .cons h t => .cons (hF.same _ _ _ _ s h) (staysK_paired hF s t)
theorem staysK_put {F : Nat → V → Hp → Prop} {D : Addr} (hF : StaysK F D) {H : Hp} {l l' : List V} (h : H D = some (.lst l)) : ∀ {is : List Nat} {acc : List V}, Paired (fun i y => F i y H) is acc → Paired (fun i y => F i y (upd H D (.lst l'))) is acc
  | _, _, .nil => .nil
  | _, _, .cons q t => .cons (hF.put _ _ _ _ _ h q) (staysK_put hF h t)
theorem Kp.new {H1 H : Hp} {D : Addr} {o : HO} (s : Kp H1 H) (hD : H1 D = none) : Kp H1 (upd H D o) := ⟨fun b u e c => by
    rw [upd_ne (ne_of_none e hD)]
    exact s.keep b u e c, fun b e => by
    by_cases z : b = D
    · rw [z]; exact hD
    · rw [upd_ne z] at e; exact s.free b e⟩
theorem lc_mapK {J : It} {n : Nat} {G : Hp → Prop} {Y : Nat → Hp → V → Hp → Prop} (w : Walk J n G Y) {g : TG} {te : TE} {vs : List Nat} {σ : L2.St} {H1 : Hp} {D : Addr} {Qd : Hp → Prop} (Iv : Hp → Prop) (F : Nat → V → Hp → Prop) (hF : StaysK F D) (hD : H1 D = none) (hn : n ≤ 100000)
    (i0 : Iv (upd H1 D (.lst []))) (iP : ∀ H l l', Kp H1 H → H D = some (.lst l) → Iv H → Iv (upd H D (.lst l'))) (hG : ∀ H, Kp H1 H → Iv H → G H)
    (turn : ∀ i x H H', i < n → Kp H1 H → Iv H → Y i H x H' → ∀ Z : V → Hp → Prop, (∀ y H4, Kp H H4 → Iv H4 → F i y H4 → Z y H4) →
      g x (wipe σ vs) H' fun σ2 H2 => wipe σ2 vs = wipe σ vs ∧ te σ2 H2 Z)
    (hd : ∀ H acc, Kp H1 H → Iv H → H D = some (.lst acc) → Paired (fun i y => F i y H) (List.range n) acc → Qd H) :
    ∃ W : Nat → Nat → Hp → Prop, (∃ m, W 0 m (upd H1 D (.lst []))) ∧ ∀ i m H, W i m H →
      (J.stop i H ∧ Qd H) ∨ (J.go i H ∧ ∃ Nx : Hp → Prop, (∀ H', Nx H' → ∃ m', m' < m ∧ W (i + 1) m' H') ∧ ∀ x H', J.yld i H x H' → g x (wipe σ vs) H' fun σ2 H2 => wipe σ2 vs = wipe σ vs ∧ tYes σ2 H2 fun b H3 =>
        if b = true then te σ2 H3 fun y H4 => ∃ acc, H4 D = some (.lst acc) ∧ acc.length < sizeLine ∧ Nx (upd H4 D (.lst (acc ++ [y]))) else Nx H3) := by
  have small : ∀ {m : Nat}, m ≤ 100000 → m < sizeLine := fun {m} h => Nat.lt_of_le_of_lt h (by decide)
  refine ⟨fun i m H => m = n - i ∧ i ≤ n ∧ Kp H1 H ∧ Iv H ∧ ∃ acc, H D = some (.lst acc) ∧ Paired (fun i y => F i y H) (List.range i) acc, ⟨n, by simp, Nat.zero_le _, (Kp.refl H1).new hD, i0, [], upd_same, .nil⟩, ?_⟩
  rintro i m H ⟨rfl, hi, s, iv, acc, ha, pr⟩
  have q := hG H s iv
  by_cases hlt : i < n
  · refine .inr ⟨w.goes i H hlt q, fun H' => Kp H1 H' ∧ Iv H' ∧ ∃ acc, H' D = some (.lst acc) ∧ Paired (fun i y => F i y H') (List.range (i + 1)) acc, fun H' p' => ⟨n - (i + 1), by omega, rfl, hlt, p'⟩, fun x H' y => ?_⟩
    have z := turn i x H H' hlt s iv (w.yields i H x H' hlt q y) (fun y H4 => ∃ acc, H4 D = some (.lst acc) ∧ acc.length < sizeLine ∧ (Kp H1 (upd H4 D (.lst (acc ++ [y]))) ∧ Iv (upd H4 D (.lst (acc ++ [y]))) ∧ ∃ acc', (upd H4 D (.lst (acc ++ [y]))) D = some (.lst acc') ∧ Paired (fun i y' => F i y' (upd H4 D (.lst (acc ++ [y])))) (List.range (i + 1)) acc')) fun y H4 s4 iv4 f => by
      have a4 := s4.keep _ _ ha rfl
      have lp := Paired.length pr
      rw [List.length_range] at lp
      refine ⟨acc, a4, small (by omega), (s.trans s4).new hD, iP _ _ _ (s.trans s4) a4 iv4, acc ++ [y], upd_same, ?_⟩
      rw [List.range_succ]
      exact staysK_put hF a4 (paired_more (R := fun i y => F i y H4) f (staysK_paired hF s4 pr))
    exact z
  · have e : i = n := by omega
    subst e
    exact .inl ⟨w.stops H q, hd H acc s iv ha pr⟩
/-- a tuple of a truth and a number -/
def FStep (f : Nat → Bool × Nat) : Nat → V → Hp → Prop := fun i y H => ∃ q, y = .ref q ∧ H q = some (.tup [.bl (f i).1, .int ((f i).2 : Nat)])
theorem staysK_step {f : Nat → Bool × Nat} {D : Addr} : StaysK (FStep f) D :=
  ⟨fun _ _ _ _ s ⟨q, e, h⟩ => ⟨q, e, s.keep _ _ h rfl⟩, fun _ _ _ _ _ hD ⟨q, e, h⟩ => ⟨q, e, by rw [upd_ne (fun z => by rw [z, hD] at h; cases h)]; exact h⟩⟩
theorem steps_of {f : Nat → Bool × Nat} {H : Hp} : ∀ {is : List Nat} {acc : List V}, Paired (fun i y => FStep f i y H) is acc → ∃ ps : List Addr, acc = ps.map V.ref ∧ Paired (fun p (r : Bool × Nat) => H p = some (.tup [.bl r.1, .int (r.2 : Nat)])) ps (is.map f)
  | _, _, .nil => ⟨[], rfl, .nil⟩
  | _, _, .cons ⟨q, e, h⟩ t => by
    obtain ⟨ps, e2, h2⟩ := steps_of t
    exact ⟨q :: ps, by rw [e, e2]; rfl, .cons h h2⟩
theorem staysK_int {f : Nat → Int} {D : Addr} : StaysK (FInt f) D := ⟨fun _ _ _ _ _ h => h, fun _ _ _ _ _ _ h => h⟩
section
variable {P : Program} {w : World} {K : PySem.W.Frag} {mg : Str → Option Value} {base : Heap} {C : Addr}
structure RuleOk (n e k : Nat) (rule : List Nat) : Prop where
  len : rule.length = (allViews (allNames n k) e).length
  each : ∀ d ∈ rule, d ≤ 2
def spStep (P : Program) (w : World) (K : PySem.W.Frag) (C : Addr) : Sp := fun vs H Q _ => ∃ (a rr : Addr) (n e k i moves : Nat) (rule : List Nat) (d : CaseD), vs = [.ref a, .int i, .ref rr, .int moves] ∧ CaseR P w K C H a n e k d ∧ SqT K H rr (tN rule) ∧ RuleOk n e k rule ∧ i < (allNames n k).length ∧ moves ≤ 2 ∧
  ∀ H' q xs', Kp H H' → CaseR P w K C H' a n e k { d with xs := xs' } → H q = none → H' q = some (.tup [.bl (step (kase n e k) i rule moves).1, .int ((step (kase n e k) i rule moves).2 : Nat)]) → Q (.ref q) H'
abbrev sStep : Stmt := inClass (top 25) 6
abbrev nStep : List Str := ["self", "i", "rule", "moves", "deeds", "view"]
abbrev pStep : List Str := ["self", "i", "rule", "moves"]
theorem sc_step : FnScope nStep pStep (defScope sStep) := ⟨rfl, rfl, rfl, by decide +kernel, rfl, by decide +kernel, by decide +kernel⟩
theorem ok_step (B : Bts mg) (Cc : Csts mg) (T : CaseTxt K mg C) (D : MDef K C "step" "Case.step" sStep pStep) (Mb : Met P w K mg base CX0 4 C "behind" pBehind (spBehind P w K C)) : Met P w K mg base CX0 5 C "step" pStep (spStep P w K C) := by
  refine D.met fun f fd F => F.ok sc_step (fun vs H Q E h => ?_) (fun cdv A outer s H vs Q E hr h => ?_)
  · obtain ⟨a, rr, n, e, k, i, moves, rule, d, rfl, _⟩ := h
    rfl
  · have nd := sc_step.nd
    refine ⟨_, pss_cons (ps_set (i := 4) nd rfl (Or.inl rfl) (pe_callTy call_tuple_of rfl B.tuple bt_tuple (pa_cons
        (pe_lc (own := [("view", 5)]) (g := gName 5) (tt := tYes) (te := tOp (rIxT K) (tVar 2) (tVar 5)) rfl nd (pi_list (pe_ix ix_list (pe_fld (pv 0) rfl) (pv 1) (fun _ _ => rfl))) (blkOk_by (own := [("view", 5)]) (N := nStep) (sc := defScope sStep) (by decide +kernel))
          (fun _ _ _ _ _ => pg_name (i := 5) nd rfl (Or.inl rfl)) (fun _ _ _ _ _ => pts_nil) (fun _ _ _ _ _ => pe_ix ix_tup (pv 2) (pv 5) (fun _ _ => rfl))) pa_nil)))
      (pss_cons (ps_if (pt_cmpR (op_eqD hr.units) (pv 4) (pe_op op_times (pe_tup (pa_cons (pe_gi Cc.stay) pa_nil)) (pe_callB call_len_seq rfl B.len bt_len (pa_cons (pv 4) pa_nil))) (nomark _))
        (pss_one (ps_ret (pe_tup (pa_cons pe_bl (pa_cons pe_int pa_nil))))) pss_nil)
      (pss_one (ps_ret (pe_tup (pa_cons pe_bl (pa_cons (pe_m T.cl Mb hr (pv 0) (pa_cons (pv 1) (pa_cons (pv 4) (pa_cons (pv 3) pa_nil)))) pa_nil)))))), ?_⟩
    obtain ⟨a, rr, n, e, k, i, moves, rule, d, rfl, c, hrr, hrule, hi, hm, z⟩ := h
    obtain ⟨r, hr0⟩ : ∃ r, (allNames n k)[i]? = some r := ⟨_, List.getElem?_eq_getElem hi⟩
    have hrm := List.mem_of_getElem? hr0
    have rok := names_ok c.st.good hrm
    have hfew := had_few rok
    have hk3 := c.st.good.k3
    have hsome := had_some c.st.good hrm
    have hkh : (kase n e k).had[i]? = some ((viewsIn r e).map fun v => (allViews (allNames n k) e).idxOf v) := kase_had hr0
    have hhl := Paired.length c.st.hdl
    obtain ⟨hp0, hhp⟩ : ∃ p, d.hs[i]? = some p := ⟨d.hs[i]'(by rw [hhl]; exact (List.getElem?_eq_some_iff.mp hkh).1), List.getElem?_eq_getElem _⟩
    obtain ⟨hrow, hh1, hht⟩ := Paired.at c.st.hdl i hp0 hhp
    rw [hkh] at hh1
    cases hh1
    have hvl := viewsIn_len r e
    have hdb := deedsBy_is (e := e) hr0 rule
    generalize hW : ((viewsIn r e).map fun v => (allViews (allNames n k) e).idxOf v) = W at hht hdb
    have hWl : W.length = (hadPlaces r).length := by rw [← hW, List.length_map, hvl]
    have hWin : ∀ v ∈ W, v < rule.length := fun v hv => by
      rw [← hW] at hv
      obtain ⟨x, hx, rfl⟩ := List.mem_map.mp hv
      rw [hrule.len]
      exact (List.getElem?_eq_some_iff.mp (idx_at (view_in hrm hx)).1).1
    refine ⟨_, rfl, a, C, d.dx, _, _, rfl, c.st.obj, T.cl, T.nH, cF_H, _, rfl, d.ah, _, _, _, rfl, rfl, .of c.st.hd, atI_nat (by rw [List.getElem?_map, hhp]; rfl), hp0, rfl, ⟨_, .of hht⟩, fun b hb => ?_⟩
    refine lc_map (walk_list (K := K) (a := hp0) (xs := tN W)) (FInt fun j => (((fun v : Nat => rule.getD v 0) (W.getD j 0) : Nat) : Int)) stays_int hb (by rw [tN_len]; omega) (fun H' s' => .of (s' _ _ hht)) ?_ ?_
    · rintro j x H3 H2 hj s2 ⟨rfl, hx⟩ Z hz
      obtain ⟨v, hv, rfl⟩ := nat_at hx
      have hvlt := hWin v (List.mem_of_getElem? hv)
      have hrv : rule[v]? = some (rule.getD v 0) := by
        rw [List.getD_eq_getElem?_getD, List.getElem?_eq_getElem hvlt]
        rfl
      refine ⟨rfl, _, rfl, _, rfl, rr, _, _, _, rfl, rfl, s2.tup hrr, atI_nat (nat_at' hrv), hz _ _ (Same.refl _) ?_⟩
      show V.int ((rule.getD v 0 : Nat) : Int) = V.int ((rule.getD (W.getD j 0) 0 : Nat) : Int)
      rw [getD_of hv]
    · intro H2 acc s2 ha pr
      have ea := ints_of pr
      rw [tN_len] at ea
      have e1 : (List.range W.length).map (fun j => (((fun v : Nat => rule.getD v 0) (W.getD j 0) : Nat) : Int)) = (deedsBy (kase n e k) i rule).map fun (i : Nat) => (i : Int) := by
        have h := congrArg (List.map fun v : Nat => ((rule.getD v 0 : Nat) : Int)) (range_getD 0 W)
        rw [List.map_map] at h
        rw [hdb, List.map_map]
        exact h
      rw [e1] at ea
      have dlen : (deedsBy (kase n e k) i rule).length = (hadPlaces r).length := by rw [hdb, List.length_map, hWl]
      have deach : ∀ x ∈ deedsBy (kase n e k) i rule, x ≤ 2 := fun x hx => by
        rw [hdb] at hx
        obtain ⟨v, hv, rfl⟩ := List.mem_map.mp hx
        have hvlt := hWin v hv
        rw [List.getD_eq_getElem?_getD, List.getElem?_eq_getElem hvlt]
        exact hrule.each _ (List.getElem_mem hvlt)
      have hstep : step (kase n e k) i rule moves = if deedsBy (kase n e k) i rule = List.replicate (deedsBy (kase n e k) i rule).length 0 then (true, 0) else (false, behind (kase n e k) i (deedsBy (kase n e k) i rule) moves) := rfl
      generalize deedsBy (kase n e k) i rule = dl at ea dlen deach hstep
      subst ea
      refine ⟨b, _, rfl, .inl ⟨.of ha, fun dd hdd => ?_⟩⟩
      have s3 := s2.trans (Same.new (o := .tup (tN dl)) hdd)
      have hdt : upd H2 dd (.tup (tN dl)) dd = some (.tup (tN dl)) := upd_same
      have hc3 := c.same s3
      generalize upd H2 dd (.tup (tN dl)) = H3 at s3 hdt hc3 ⊢
      refine ⟨_, rfl, (by show 1 ≤ sizeLine; decide), fun t ht => ?_⟩
      have st := Same.new (o := .tup [V.int 0]) ht
      refine ⟨_, rfl, dd, tN dl, rfl, .inr (.of (st _ _ hdt)), t, ((tN dl).length : Nat), [V.int 0], rfl, rfl, SqT.of upd_same, by simp, by rw [tN_len]; omega, by rw [tN_len]; omega, by simp, ?_, ?_⟩
      all_goals rw [tN_len]
      all_goals intro h1
      · -- one deed
        have h1 : dl.length = 1 := by omega
        have e2 : decide (dl.map (fun (i : Nat) => (i : Int)) = [0]) = decide (dl = List.replicate dl.length 0) := by
          rw [h1, Bool.eq_iff_iff, decide_eq_true_iff, decide_eq_true_iff]
          match dl, h1 with
          | [x], _ => simp
        refine eq_tups (r := dl.map fun (i : Nat) => (i : Int)) (s := [0]) (SqT.of (st _ _ hdt)) (SqT.of upd_same) ⟨_, rfl, ?_⟩
        rw [e2]
        have hd4 := st _ _ hdt
        have c4 := hc3.same st
        have s4 := s3.trans st
        by_cases cz : dl = List.replicate dl.length 0
        · refine if_true_of (decide_eq_true cz) ⟨(by show 2 ≤ sizeLine; decide), fun q hq => z _ q d.xs (s4.put (s4.free hq)).kp (c4.same (Same.new hq)) (s4.free hq) ?_⟩
          rw [hstep, if_pos cz]
          exact upd_same
        · refine if_false_of (decide_eq_false cz) ?_
          refine ⟨_, rfl, a, d.dx, _, rfl, c4.st.obj, cF_none (by decide +kernel), _, rfl, _, rfl, _, rfl, a, dd, n, e, k, i, moves, dl, d, rfl, c4, hd4, ⟨hi, by rw [getD_of hr0]; exact dlen, deach, hm⟩, fun H5 xs' s5 c5 => ⟨(by show 2 ≤ sizeLine; decide), fun q hq => ?_⟩⟩
          refine z _ q xs' ((s4.kp.trans s5).trans (Same.new hq).kp) (c5.same (Same.new hq)) ((s4.kp.trans s5).free q hq) ?_
          rw [hstep, if_neg cz]
          exact upd_same
      · intro p hp
        have e3 : (List.replicate ((dl.length : Nat) : Int).toNat [V.int 0]).flatten = tI (List.replicate dl.length (0 : Int)) := by
          rw [Int.toNat_natCast]
          have g : ∀ m : Nat, (List.replicate m [V.int 0]).flatten = tI (List.replicate m (0 : Int)) := by
            intro m
            induction m with
            | zero => rfl
            | succ m ih =>
              rw [List.replicate_succ, List.flatten_cons, ih, List.replicate_succ]
              rfl
          exact g _
        rw [e3]
        have sp := st.trans (Same.new (o := .tup (tI (List.replicate dl.length (0 : Int)))) hp)
        have e2 : decide (dl.map (fun (i : Nat) => (i : Int)) = List.replicate dl.length (0 : Int)) = decide (dl = List.replicate dl.length 0) := by
          rw [Bool.eq_iff_iff, decide_eq_true_iff, decide_eq_true_iff]
          have e4 : List.replicate dl.length (0 : Int) = (List.replicate dl.length 0).map fun (i : Nat) => (i : Int) := by
            rw [List.map_replicate]
            rfl
          rw [e4]
          exact List.map_inj_right (fun a b e => by have e : (a : Int) = b := e; omega)
        refine eq_tups (r := dl.map fun (i : Nat) => (i : Int)) (s := List.replicate dl.length (0 : Int)) (SqT.of (sp _ _ hdt)) (SqT.of upd_same) ⟨_, rfl, ?_⟩
        rw [e2]
        have hd4 := sp _ _ hdt
        have c4 := hc3.same sp
        have s4 := s3.trans sp
        by_cases cz : dl = List.replicate dl.length 0
        · refine if_true_of (decide_eq_true cz) ⟨(by show 2 ≤ sizeLine; decide), fun q hq => z _ q d.xs (s4.put (s4.free hq)).kp (c4.same (Same.new hq)) (s4.free hq) ?_⟩
          rw [hstep, if_pos cz]
          exact upd_same
        · refine if_false_of (decide_eq_false cz) ?_
          refine ⟨_, rfl, a, d.dx, _, rfl, c4.st.obj, cF_none (by decide +kernel), _, rfl, _, rfl, _, rfl, a, dd, n, e, k, i, moves, dl, d, rfl, c4, hd4, ⟨hi, by rw [getD_of hr0]; exact dlen, deach, hm⟩, fun H5 xs' s5 c5 => ⟨(by show 2 ≤ sizeLine; decide), fun q hq => ?_⟩⟩
          refine z _ q xs' ((s4.kp.trans s5).trans (Same.new hq).kp) (c5.same (Same.new hq)) ((s4.kp.trans s5).free q hq) ?_
          rw [hstep, if_neg cz]
          exact upd_same
end
end Rf
/-! ## RfW17 -/
namespace Rf
open PySem PySem.Spec PyProof.Rows L2
theorem or_nat (a b : Nat) : Builtin.bitOr (a : Int) (b : Int) = ((a ||| b : Nat) : Int) := by
  have e1 : ∀ x : Nat, ¬ 0 ≤ Builtin.bitNot (x : Int) := fun x => by unfold Builtin.bitNot; omega
  have e2 : ∀ x : Int, Builtin.bitNot (Builtin.bitNot x) = x := fun x => by unfold Builtin.bitNot; omega
  unfold Builtin.bitOr Builtin.bitAnd
  simp only [e1, e2, Int.toNat_natCast, decide_false]
theorem stepsOf_at {n e k i : Nat} {rule : List Nat} {moves : Nat} (h : i < (allNames n k).length) : (stepsOf (kase n e k) rule moves)[i]? = some (step (kase n e k) i rule moves) := by
  unfold stepsOf
  rw [List.getElem?_map, List.getElem?_range (by exact h)]
  rfl
theorem stepsOf_len {n e k : Nat} {rule : List Nat} {moves : Nat} : (stepsOf (kase n e k) rule moves).length = (allNames n k).length := by
  unfold stepsOf
  rw [List.length_map, List.length_range]
  rfl
section
variable {P : Program} {w : World} {K : PySem.W.Frag} {mg : Str → Option Value} {base : Heap} {C : Addr}
def spGath (P : Program) (w : World) (K : PySem.W.Frag) (C : Addr) : Sp := fun vs H Q _ => ∃ (a rr : Addr) (n e k moves : Nat) (rule : List Nat) (d : CaseD), vs = [.ref a, .ref rr, .int moves] ∧ CaseR P w K C H a n e k d ∧ SqT K H rr (tN rule) ∧ RuleOk n e k rule ∧ moves ≤ 2 ∧
  ∀ H' xs', Kp H H' → CaseR P w K C H' a n e k { d with xs := xs' } → Q (.int (gathers (kase n e k) rule moves : Nat)) H'
abbrev sGath : Stmt := inClass (top 25) 7
abbrev nGath : List Str := ["self", "rule", "moves", "steps", "found", "turn", "more", "i", "at_rest", "behind"]
abbrev pGath : List Str := ["self", "rule", "moves"]
abbrev oGath : List (Str × Nat) := [("i", 7), ("at_rest", 8), ("behind", 9)]
theorem sc_gath : FnScope nGath pGath (defScope sGath) := ⟨rfl, rfl, rfl, by decide +kernel, rfl, by decide +kernel, by decide +kernel⟩
theorem ok_gath (B : Bts mg) (T : CaseTxt K mg C) (D : MDef K C "gathers" "Case.gathers" sGath pGath) (Ms : Met P w K mg base CX0 5 C "step" pStep (spStep P w K C)) (Cb : Cal P w K mg base CX0 1 "bits_of" ["numbers"] (spBits K)) : Met P w K mg base CX0 6 C "gathers" pGath (spGath P w K C) := by
  refine D.met fun f fd F => F.ok sc_gath (fun vs H Q E h => ?_) (fun cdv A outer s H vs Q E hr h => ?_)
  · obtain ⟨a, rr, n, e, k, moves, rule, d, rfl, _⟩ := h
    rfl
  · have nd := sc_gath.nd
    refine ⟨_, pss_cons (ps_setLc (i := 3) (own := [("i", 7)]) (g := gName 7) (tt := tYes) rfl nd rfl rfl (sw_true rfl rfl rfl (by decide +kernel)) (pi_range1 rfl B.range (pa_cons (pe_callB call_len_seq rfl B.len bt_len (pa_cons (pe_fld (pv 0) rfl) pa_nil)) pa_nil))
          (blkOk_by (own := [("i", 7)]) (N := nGath) (sc := defScope sGath) (by decide +kernel)) (fun _ _ _ _ _ => pg_name (i := 7) nd rfl (Or.inl rfl)) (fun _ _ _ _ _ => pts_nil) (fun _ _ _ _ _ => pe_m T.cl Ms hr (pv 0) (pa_cons (pv 7) (pa_cons (pv 1) (pa_cons (pv 2) pa_nil)))))
      (pss_cons (ps_set (i := 4) nd rfl (Or.inr rfl) (pe_c Cb hr (pa_cons
          (pe_lc (own := oGath) (g := gTup K 2 (gCons (gName 7) (gCons (gTup K 2 (gCons (gName 8) (gCons (gName 9) gNil))) gNil))) (tt := tAnd (tB (tVar 8)) (tTest (tOp rEq (tCB (rLen K) (tCons (tOp (rIxL K) (tFld K (tVar 0) "had") (tVar 7)) tNil)) (tC (.int 1))))) rfl nd
            (pi_enum rfl B.enumerate (pa_cons (pv 3) pa_nil)) (blkOk_by (own := oGath) (N := nGath) (sc := defScope sGath) (by decide +kernel))
            (fun _ _ _ _ _ => pg_tup rfl (pgs_cons (pg_name (i := 7) nd rfl (Or.inl rfl)) (pgs_cons (pg_tup rfl (pgs_cons (pg_name (i := 8) nd rfl (Or.inl rfl)) (pgs_cons (pg_name (i := 9) nd rfl (Or.inl rfl)) pgs_nil))) pgs_nil)))
            (fun _ _ _ _ _ => pts_one (PW.pt (pw_and (pt_val (pv 8)) (pw_and1 (pt_cmpR op_eq (pe_callB call_len_seq rfl B.len bt_len (pa_cons (pe_ix ix_list (pe_fld (pv 0) rfl) (pv 7) (fun _ _ => rfl)) pa_nil)) pe_int (nomark _)))))) (fun _ _ _ _ _ => pv 7)) pa_nil)))
      (pss_cons (ps_for PassesOwn.never rfl (pi_range1 rfl B.range (pa_cons (pe_callB call_len_seq rfl B.len bt_len (pa_cons (pv 3) pa_nil)) pa_nil)) (pg_name (i := 5) nd rfl (Or.inl rfl))
        (pss_cons (ps_setLc (i := 6) (own := oGath) (g := gTup K 2 (gCons (gName 7) (gCons (gTup K 2 (gCons (gName 8) (gCons (gName 9) gNil))) gNil))) (tt := tAnd (tNot (tB (tVar 8))) (tTest (tOp rEq (tOp rOr (tVar 9) (tVar 4)) (tVar 4)))) rfl nd rfl rfl (sw_true rfl rfl rfl (by decide +kernel))
            (pi_enum rfl B.enumerate (pa_cons (pv 3) pa_nil)) (blkOk_by (own := oGath) (N := nGath) (sc := defScope sGath) (by decide +kernel))
            (fun _ _ _ _ _ => pg_tup rfl (pgs_cons (pg_name (i := 7) nd rfl (Or.inl rfl)) (pgs_cons (pg_tup rfl (pgs_cons (pg_name (i := 8) nd rfl (Or.inl rfl)) (pgs_cons (pg_name (i := 9) nd rfl (Or.inl rfl)) pgs_nil))) pgs_nil)))
            (fun _ _ _ _ _ => pts_one (PW.pt (pw_and (pt_not (pt_val (pv 8))) (pw_and1 (pt_cmpR op_eq (pe_op op_or (pv 9) (pv 4)) (pv 4) (nomark _)))))) (fun _ _ _ _ _ => pv 7))
        (pss_one (ps_set (i := 4) nd rfl (Or.inr rfl) (pe_op op_or (pv 4) (pe_c Cb hr (pa_cons (pv 6) pa_nil)))))))
      (pss_one (ps_ret (pv 4))))), ?_⟩
    obtain ⟨a, rr, n, e, k, moves, rule, d, rfl, c, hrr, hrule, hm, z⟩ := h
    have h8 := (names_few c.st.good).2
    obtain ⟨nps, hnl, hnt⟩ := c.st.nm
    have hnlen := hnt.length
    have hlen := stepsOf_len (n := n) (e := e) (k := k) (rule := rule) (moves := moves)
    have hg : gathers (kase n e k) rule moves = turnsG (stepsOf (kase n e k) rule moves) (stepsOf (kase n e k) rule moves).length (restOf (kase n e k) (stepsOf (kase n e k) rule moves)) := rfl
    refine ⟨_, rfl, a, C, d.dx, _, _, rfl, c.st.obj, T.cl, T.nN, cF_N, _, _, rfl, .inl (.of hnl), _, rfl, by omega, by rw [List.length_map]; omega, fun b hb => ?_⟩
    have enn : ((List.length (nps.map V.ref) : Nat) : Int).toNat = (allNames n k).length := by rw [Int.toNat_natCast, List.length_map, hnlen]
    refine lc_mapK walk_rg (fun H' => ∃ xs, CaseR P w K C H' a n e k { d with xs := xs }) (FStep fun i => step (kase n e k) i rule moves) staysK_step hb (by omega) ⟨d.xs, c.same (Same.new hb)⟩ (fun H' l l' s' hl ⟨xs, c'⟩ => ⟨xs, c.put hb s' hl c'⟩) (fun _ _ _ => trivial) ?_ ?_
    · rintro i x H3 H2 hi s2 ⟨xs, c2⟩ ⟨rfl, rfl⟩ Z hz
      have hi' : i < (allNames n k).length := by rw [← enn]; exact hi
      exact ⟨rfl, _, rfl, a, d.dx, _, rfl, c2.st.obj, cF_none (by decide +kernel), _, rfl, _, rfl, _, rfl, a, rr, n, e, k, i, moves, rule, { d with xs := xs }, rfl, c2, s2.tup hrr, hrule, hi', hm, fun H4 q xs' s4 c4 fq hq => hz _ H4 s4 ⟨xs', c4⟩ ⟨q, rfl, hq⟩⟩
    · rintro H2 acc s2 ⟨xs2, c2⟩ ha pr
      obtain ⟨sps, rfl, hsp⟩ := steps_of pr
      rw [enn] at hsp
      have esteps : (List.range (allNames n k).length).map (fun i => step (kase n e k) i rule moves) = stepsOf (kase n e k) rule moves := rfl
      rw [esteps] at hsp
      generalize hS : stepsOf (kase n e k) rule moves = S at hsp hlen hg
      have hsl := Paired.length hsp
      -- what stands of the steps in a later heap
      have at_ : ∀ {H' : Hp}, Same H2 H' → ∀ {i : Nat} {y : V}, (sps.map V.ref)[i]? = some y → ∃ p r, y = .ref p ∧ S[i]? = some r ∧ H' p = some (.tup [.bl r.1, .int (r.2 : Nat)]) := fun {H'} s' {i y} h => by
        obtain ⟨p, hp, rfl⟩ := ref_at h
        obtain ⟨r, hr, ht⟩ := Paired.at hsp i p hp
        exact ⟨p, r, rfl, hr, s' _ _ ht⟩
      refine ⟨_, rfl, b, _, rfl, .of ha, fun b2 hb2 => ?_⟩
      refine lc_kept (walk_enum (K := K) (a := b) (xs := sps.map V.ref)) (fun i => (S.getD i (false, 0)).1 && decide (((kase n e k).had.getD i []).length = 1)) (FInt fun i => (i : Int)) stays_int hb2 (by rw [List.length_map]; omega) (fun H' s' => .of (s' _ _ ha)) ?_ ?_
      · rintro i x H3 H4 hi s3 ⟨TT, x1, y1, rfl, hT, rfl, hx1, hy1⟩ Z Z2 z1 z2
        cases hx1
        obtain ⟨p, r, rfl, hr, ht⟩ := at_ s3 hy1
        have sT := Same.new (o := .tup [V.int (i : Nat), V.ref p]) hT
        rw [getD_of hr] at z1 z2
        refine ⟨TT, _, rfl, SqT.of upd_same, rfl, _, _, rfl, _, _, rfl, ⟨p, _, rfl, SqT.of (sT _ _ ht), rfl, _, _, rfl, _, _, rfl, rfl, rfl, rfl, _, rfl, _, rfl, ?_⟩⟩
        cases cr : r.1 with
        | false =>
          rw [cr] at z1 z2
          exact iteF (iteF (z2 rfl _ sT))
        | true =>
          rw [cr] at z1 z2
          have c4 := (c2.same s3).same sT
          have hi' : i < (allNames n k).length := by
            have := (List.getElem?_eq_some_iff.mp hr).1
            omega
          obtain ⟨rw0, hr0⟩ : ∃ r, (allNames n k)[i]? = some r := ⟨_, List.getElem?_eq_getElem hi'⟩
          have hkh := kase_had (e := e) hr0
          have hhl := Paired.length c4.st.hdl
          obtain ⟨hp0, hhp⟩ : ∃ p, d.hs[i]? = some p := ⟨d.hs[i]'(by rw [show d.hs.length = _ from hhl]; exact (List.getElem?_eq_some_iff.mp hkh).1), List.getElem?_eq_getElem _⟩
          obtain ⟨hrow, hh1, hht⟩ := Paired.at c4.st.hdl i hp0 hhp
          have hgd := getD_of (d := []) hh1
          rw [hgd] at z1 z2
          refine iteT ⟨_, rfl, a, C, d.dx, _, _, rfl, c4.st.obj, T.cl, T.nH, cF_H, _, rfl, d.ah, _, _, _, rfl, rfl, .of c4.st.hd, atI_nat (by rw [List.getElem?_map, hhp]; rfl), hp0, _, rfl, .inl (.of hht), rfl, _, rfl, ?_⟩
          rw [dec_eq, tN_len]
          have ed : decide ((hrow.length : Int) = 1) = decide (hrow.length = 1) := by
            rw [Bool.eq_iff_iff, decide_eq_true_iff, decide_eq_true_iff]
            omega
          rw [ed]
          cases cl : decide (hrow.length = 1) with
          | true => exact iteT ⟨_, rfl, z1 (by rw [cl]; rfl) _ _ sT rfl⟩
          | false => exact iteF (z2 (by rw [cl]; rfl) _ sT)
      · intro H3 acc3 s3 ha3 pr3
        have ea := ints_of pr3
        rw [List.length_map, hsl] at ea
        subst ea
        refine ⟨b2, _, rfl, .of ha3, Nat.le_trans (List.length_filter_le _ _) (by rw [List.length_range]; omega), fun x hx => ?_, fun H4 s4 => ?_⟩
        · have := List.mem_range.mp (List.mem_filter.mp hx).1
          omega
        · have hrest : bitsOf ((List.range S.length).filter fun i => (S.getD i (false, 0)).1 && decide (((kase n e k).had.getD i []).length = 1)) = restOf (kase n e k) S := rfl
          rw [hrest]
          have s24 := s3.trans s4
          refine ⟨_, rfl, b, _, rfl, .inl (.of (s24 _ _ ha)), _, rfl, by omega, by rw [List.length_map]; omega, ?_⟩
          have em : ((List.length (sps.map V.ref) : Nat) : Int).toNat = S.length := by rw [Int.toNat_natCast, List.length_map, hsl]
          refine for_it walk_rg (fun j σ H' => ∃ (f : Nat) (v5 v6 : Option V), σ = [some (.ref a), some (.ref rr), some (.int moves), some (.ref b), some (.int (f : Nat)), v5, v6, none, none, none] ∧ Same H2 H' ∧ turnsG S (S.length - j) f = gathers (kase n e k) rule moves) ?_ (fun _ _ _ _ _ => trivial) ?_ ?_
          · exact ⟨_, none, none, rfl, s24, hg.symm⟩
          · rintro j x σ H6 H5 hj ⟨f, v5, v6, rfl, s5, hf⟩ ⟨rfl, rfl⟩
            have hj' : j < S.length := by rw [← em]; exact hj
            refine ⟨_, rfl, b, _, rfl, .of (s5 _ _ ha), fun b3 hb3 => ?_⟩
            refine lc_kept (walk_enum (K := K) (a := b) (xs := sps.map V.ref)) (fun i => !(S.getD i (false, 0)).1 && decide ((S.getD i (false, 0)).2 ||| f = f)) (FInt fun i => (i : Int)) stays_int hb3 (by rw [List.length_map]; omega) (fun H' s' => .of (s' _ _ (s5 _ _ ha))) ?_ ?_
            · rintro i x H7 H8 hi s7 ⟨TT, x1, y1, rfl, hT, rfl, hx1, hy1⟩ Z Z2 z1 z2
              cases hx1
              obtain ⟨p, r, rfl, hr, ht⟩ := at_ (s5.trans s7) hy1
              have sT := Same.new (o := .tup [V.int (i : Nat), V.ref p]) hT
              rw [getD_of hr] at z1 z2
              refine ⟨TT, _, rfl, SqT.of upd_same, rfl, _, _, rfl, _, _, rfl, ⟨p, _, rfl, SqT.of (sT _ _ ht), rfl, _, _, rfl, _, _, rfl, rfl, rfl, rfl, _, rfl, _, rfl, ?_⟩⟩
              cases cr : r.1 with
              | true =>
                rw [cr] at z1 z2
                exact iteF (iteF (z2 rfl _ sT))
              | false =>
                rw [cr] at z1 z2
                refine iteT ⟨_, rfl, _, rfl, _, _, rfl, rfl, _, rfl, rfl, _, rfl, ?_⟩
                rw [dec_eq, or_nat]
                have ed : decide (((r.2 ||| f : Nat) : Int) = (f : Int)) = decide (r.2 ||| f = f) := by
                  rw [Bool.eq_iff_iff, decide_eq_true_iff, decide_eq_true_iff]
                  omega
                rw [ed]
                cases cl : decide (r.2 ||| f = f) with
                | true => exact iteT ⟨_, rfl, z1 (by rw [cl]; rfl) _ _ sT rfl⟩
                | false => exact iteF (z2 (by rw [cl]; rfl) _ sT)
            · intro H7 acc7 s7 ha7 pr7
              have ea := ints_of pr7
              rw [List.length_map, hsl] at ea
              subst ea
              refine ⟨_, rfl, _, rfl, b3, _, rfl, .of ha7, Nat.le_trans (List.length_filter_le _ _) (by rw [List.length_range]; omega), fun x hx => ?_, fun H8 s8 => ⟨_, _, rfl, rfl, ?_⟩⟩
              · have := List.mem_range.mp (List.mem_filter.mp hx).1
                omega
              · refine ⟨f ||| bitsOf ((List.range S.length).filter fun i => !(S.getD i (false, 0)).1 && decide ((S.getD i (false, 0)).2 ||| f = f)), some (.int (j : Nat)), some (.ref b3), ?_, (s5.trans s7).trans s8, ?_⟩
                · show [some (V.ref a), some (V.ref rr), some (V.int (moves : Nat)), some (V.ref b), some (V.int (Builtin.bitOr (f : Int) _)), some (V.int (j : Nat)), some (V.ref b3), none, none, none] = _
                  rw [or_nat]
                · have e1 : S.length - j = (S.length - (j + 1)) + 1 := by omega
                  rw [e1] at hf
                  exact hf
          · rintro σ H5 ⟨f, v5, v6, rfl, s5, hf⟩
            rw [em, Nat.sub_self] at hf
            have hf : f = gathers (kase n e k) rule moves := hf
            subst hf
            exact ⟨_, rfl, z H5 xs2 (s2.trans s5.kp) (c2.same s5)⟩
end
end Rf
/-! ## RfW18 -/
namespace Rf
open PySem PySem.Spec PyProof.Rows L2
theorem valV_mem {kvs : List (Key × V)} {k : Key} (h : valV kvs k = none) : k ∉ kvs.map (·.1) := fun hm => by
  unfold valV at h
  rw [Option.map_eq_none_iff, List.find?_eq_none] at h
  obtain ⟨x, hx, e⟩ := List.mem_map.mp hm
  exact h x hx (decide_eq_true e)
theorem gath_few {P : Program} {w : World} {K : PySem.W.Frag} {C : Addr} {H : Hp} {a : Addr} {n e k : Nat} {d : CaseD} (c : CaseR P w K C H a n e k d) : d.kvs.length ≤ 3 := by
  have z := nodup_len (d.kvs.map (·.1)) [Sum.inl 0, Sum.inl 1, Sum.inl 2] c.gnd fun x hx => by
    obtain ⟨y, hy, rfl⟩ := List.mem_map.mp hx
    obtain ⟨mm, h2, e⟩ := c.gks y hy
    rw [e]
    have : mm = 0 ∨ mm = 1 ∨ mm = 2 := by omega
    rcases this with h | h | h <;> subst h <;> simp
  rw [List.length_map] at z
  exact z
theorem CaseR.gath {P : Program} {w : World} {K : PySem.W.Frag} {C : Addr} {H : Hp} {a b : Addr} {n e k m : Nat} {d : CaseD} (c : CaseR P w K C H a n e k d) (hm : m ≤ 2) (hn : valV d.kvs (Sum.inl (m : Int)) = none) (hb : H b = some (.lst (tN (allG n e k m)))) :
    Kp H (upd H d.dg (.dK (putK d.kvs (Sum.inl (m : Int)) (.ref b)))) ∧ CaseR P w K C (upd H d.dg (.dK (putK d.kvs (Sum.inl (m : Int)) (.ref b)))) a n e k { d with kvs := putK d.kvs (Sum.inl (m : Int)) (.ref b) } := by
  have s : Kp H (upd H d.dg (.dK (putK d.kvs (Sum.inl (m : Int)) (.ref b)))) := (Kp.refl H).put c.ga rfl
  have q := c.st.on s
  refine ⟨s, ⟨⟨q.obj, q.nm, q.vw, q.hd, q.hdl, q.sd, q.sdl, q.good, q.e2⟩, ?_, fun x hx => k3In_kp s (c.kin x hx), c.kok, upd_same, fun m' v h => ?_, fun x hx => ?_, ?_⟩⟩
  · show upd H d.dg _ d.dk = _
    rw [upd_ne (fun z => by have := c.kn; rw [z, c.ga] at this; cases this)]
    exact c.kn
  · have h : valV (putK d.kvs (Sum.inl (m : Int)) (.ref b)) (Sum.inl m') = some v := h
    rw [valV_put] at h
    split at h
    · rename_i e
      have e1 : m' = (m : Int) := by injection e
      have e2 : V.ref b = v := Option.some.inj h
      exact ⟨m, b, e1, hm, e2.symm, s.keep _ _ hb rfl⟩
    · obtain ⟨mm, q', h1, h2, h3, h4⟩ := c.gok m' v h
      exact ⟨mm, q', h1, h2, h3, s.keep _ _ h4 rfl⟩
  · have hx : x ∈ putK d.kvs (Sum.inl (m : Int)) (.ref b) := hx
    rw [putK_new _ hn] at hx
    rcases List.mem_append.mp hx with h | h
    · exact c.gks x h
    · have e : x = (Sum.inl (m : Int), .ref b) := by simpa using h
      rw [e]
      exact ⟨m, hm, rfl⟩
  · show ((putK d.kvs (Sum.inl (m : Int)) (.ref b)).map (·.1)).Nodup
    rw [putK_new _ hn, List.map_append]
    refine List.nodup_append.mpr ⟨c.gnd, by simp, fun x hx y hy => ?_⟩
    have e : y = Sum.inl (m : Int) := by simpa using hy
    rw [e]
    exact fun z => valV_mem hn (by rw [← z]; exact hx)
section
variable {P : Program} {w : World} {K : PySem.W.Frag} {mg : Str → Option Value} {base : Heap} {C : Addr}
/-- what is gathered newly stands at a new place -/
def NewK (H : Hp) (d d' : CaseD) : Prop := ∀ m v, valV d'.kvs m = some v → valV d.kvs m = some v ∨ ∃ q, v = V.ref q ∧ H q = none
theorem NewK.back {H H1 : Hp} {d d' : CaseD} (h : NewK H1 d d') (s : ∀ b, H1 b = none → H b = none) : NewK H d d' := fun m v e => (h m v e).imp id fun ⟨q, e1, e2⟩ => ⟨q, e1, s q e2⟩
def spAllGa (P : Program) (w : World) (K : PySem.W.Frag) (C : Addr) : Sp := fun vs H Q _ => ∃ (a : Addr) (n e k moves : Nat) (d : CaseD), vs = [.ref a, .int moves] ∧ CaseR P w K C H a n e k d ∧ manyRules (allViews (allNames n k) e) ≤ 6000 ∧ moves ≤ 2 ∧
  ∀ H' q d', Kp H H' → CaseR P w K C H' a n e k d' → NewK H d d' → H' q = some (.lst (tN (allG n e k moves))) → Q (.ref q) H'
abbrev sAllGa : Stmt := inClass (top 25) 8
abbrev nAllGa : List Str := ["self", "moves", "rule"]
theorem sc_allGa : FnScope nAllGa ["self", "moves"] (defScope sAllGa) := ⟨rfl, rfl, rfl, by decide +kernel, rfl, by decide +kernel, by decide +kernel⟩
theorem ok_allGa (T : CaseTxt K mg C) (D : MDef K C "all_gathered" "Case.all_gathered" sAllGa ["self", "moves"]) (Mg : Met P w K mg base CX0 6 C "gathers" pGath (spGath P w K C)) (Mr : Met P w K mg base CX0 3 C "rules" ["self"] (spRules K C)) : Met P w K mg base CX0 7 C "all_gathered" ["self", "moves"] (spAllGa P w K C) := by
  refine D.met fun f fd F => F.ok sc_allGa (fun vs H Q E h => ?_) (fun cdv A outer s H vs Q E hr h => ?_)
  · obtain ⟨a, n, e, k, moves, d, rfl, _⟩ := h
    rfl
  · have nd := sc_allGa.nd
    have hu := hu_of hr
    refine ⟨_, pss_cons (ps_if (pt_cmp (pc_dnotin hu (pv 1) (pe_fld (pv 0) rfl)))
        (pss_one (ps_dput hu (pe_fld (pv 0) rfl) (pv 1) (pe_lc (own := [("rule", 2)]) (g := gName 2) (tt := tYes) rfl nd (pi_list (pe_m0 T.cl Mr hr (pv 0))) (blkOk_by (own := [("rule", 2)]) (N := nAllGa) (sc := defScope sAllGa) (by decide +kernel))
          (fun _ _ _ _ _ => pg_name (i := 2) nd rfl (Or.inl rfl)) (fun _ _ _ _ _ => pts_nil) (fun _ _ _ _ _ => pe_m T.cl Mg hr (pv 0) (pa_cons (pv 2) (pa_cons (pv 1) pa_nil)))) rfl)) pss_nil)
      (pss_one (ps_ret (pe_dget hu (pe_fld (pv 0) rfl) (pv 1) (fun _ _ => rfl)))), ?_⟩
    obtain ⟨a, n, e, k, moves, d, rfl, c, hmr, hm, z⟩ := h
    refine ⟨_, rfl, _, rfl, a, C, d.dx, _, _, rfl, c.st.obj, T.cl, T.nG, cF_G, d.dg, _, rfl, DGet.k (k := Sum.inl (moves : Int)) c.ga, _, rfl, ?_⟩
    cases hv : valV d.kvs (Sum.inl (moves : Int)) with
    | some v =>
      obtain ⟨mm, q, h1, h2, h3, h4⟩ := c.gok _ v hv
      have h1 : mm = moves := by omega
      subst h1
      subst h3
      exact iteF ⟨_, rfl, a, C, d.dx, _, _, rfl, c.st.obj, T.cl, T.nG, cF_G, _, rfl, d.dg, _, rfl, hv ▸ DGet.k (k := Sum.inl (mm : Int)) c.ga, z H q d (Kp.refl H) c (fun m v h => .inl h) h4⟩
    | none =>
      refine iteT ?_
      refine ⟨_, rfl, a, d.dx, _, rfl, c.st.obj, cF_none (by decide +kernel), a, n, e, k, d, rfl, c.st, hmr, fun H1 q s1 fq hq => ?_⟩
      obtain ⟨rps, hrl, hrt⟩ := hq
      have hrlen := hrt.length
      unfold castRows at hrlen
      have hcount : (rules (allViews (allNames n k) e)).length = manyRules (allViews (allNames n k) e) := rules_len _ _ rfl
      rw [List.length_map, hcount] at hrlen
      have c1 := c.same s1
      refine ⟨q, rfl, ⟨_, .of hrl⟩, fun b hb => ?_⟩
      refine lc_mapK (walk_list (K := K) (a := q) (xs := rps.map V.ref)) (fun H' => ∃ xs, CaseR P w K C H' a n e k { d with xs := xs }) (FInt fun i => (((fun r => gathers (kase n e k) r moves) ((rules (allViews (allNames n k) e)).getD i []) : Nat) : Int)) staysK_int hb (by rw [List.length_map]; omega)
        ⟨d.xs, c1.same (Same.new hb)⟩ (fun H' l l' s' hl ⟨xs, c'⟩ => ⟨xs, c1.put hb s' hl c'⟩) (fun H' s' _ => .of (s'.keep _ _ hrl rfl)) ?_ ?_
      · rintro i x H3 H2 hi s2 ⟨xs, c2⟩ ⟨rfl, hx⟩ Z hz
        obtain ⟨p, hp, rfl⟩ := ref_at hx
        obtain ⟨rowI, hrow, hpt⟩ := Paired.at hrt i p hp
        unfold castRows at hrow
        rw [List.getElem?_map] at hrow
        obtain ⟨row, hrow2, rfl⟩ := Option.map_eq_some_iff.mp hrow
        have hrl := rules_row _ (allViews (allNames n k) e) rfl row (List.mem_of_getElem? hrow2)
        refine ⟨rfl, _, rfl, a, d.dx, _, rfl, c2.st.obj, cF_none (by decide +kernel), _, rfl, _, rfl, a, p, n, e, k, moves, row, { d with xs := xs }, rfl, c2, s2.tup hpt, ⟨hrl.1, hrl.2⟩, hm, fun H4 xs' s4 c4 => hz _ H4 s4 ⟨xs', c4⟩ ?_⟩
        show V.int _ = V.int ((gathers (kase n e k) ((rules (allViews (allNames n k) e)).getD i []) moves : Nat) : Int)
        rw [getD_of hrow2]
      · rintro H2 acc s2 ⟨xs, c2⟩ ha pr
        have ea := ints_of pr
        rw [List.length_map, hrlen, ← hcount] at ea
        have e1 : (List.range (rules (allViews (allNames n k) e)).length).map (fun i => (((fun r => gathers (kase n e k) r moves) ((rules (allViews (allNames n k) e)).getD i []) : Nat) : Int)) = (allG n e k moves).map fun (i : Nat) => (i : Int) := by
          have h := congrArg (List.map fun r => ((gathers (kase n e k) r moves : Nat) : Int)) (range_getD ([] : List Nat) (rules (allViews (allNames n k) e)))
          rw [List.map_map] at h
          unfold allG
          rw [List.map_map]
          exact h
        rw [e1] at ea
        subst ea
        obtain ⟨s3, c3⟩ := c2.gath hm hv ha
        have hv3 : valV (putK d.kvs (Sum.inl (moves : Int)) (V.ref b)) (Sum.inl (moves : Int)) = some (.ref b) := by
          rw [valV_put, if_pos rfl]
        have hfew := gath_few c
        refine ⟨_, rfl, a, C, d.dx, _, _, rfl, c2.st.obj, T.cl, T.nG, cF_G, _, rfl, d.dg, _, rfl, DPut.k (k := Sum.inl (moves : Int)) c2.ga (Nat.lt_of_le_of_lt hfew (by decide)), ?_⟩
        refine ⟨_, rfl, a, C, d.dx, _, _, rfl, c3.st.obj, T.cl, T.nG, cF_G, _, rfl, d.dg, _, rfl, hv3 ▸ DGet.k (k := Sum.inl (moves : Int)) c3.ga, ?_⟩
        refine z _ b _ ((s1.kp.trans s2).trans s3) c3 (fun m v h => ?_) (s3.keep _ _ ha rfl)
        have h : valV (putK d.kvs (Sum.inl (moves : Int)) (V.ref b)) m = some v := h
        rw [valV_put] at h
        split at h
        · injection h with h
          exact .inr ⟨b, h.symm, s1.free hb⟩
        · exact .inl h
end
end Rf
/-! ## RfW19 -/
namespace Rf
open PySem PySem.Spec PyProof.Rows L2
/-! ### a comprehension within a comprehension -/
theorem relabel_cf {env : Env} : ∀ {names : List (Str × NameKind)} {x : Str}, names.lookup x = some .cell ∨ names.lookup x = some .free →
    (names.map fun (n, k) => if (k == NameKind.free && env.scope.kind == .function && env.kindOf n == some .cell) then (n, NameKind.cell) else (n, k)).lookup x = some .cell ∨
    (names.map fun (n, k) => if (k == NameKind.free && env.scope.kind == .function && env.kindOf n == some .cell) then (n, NameKind.cell) else (n, k)).lookup x = some .free
  | [], _, h => by rcases h with h | h <;> simp at h
  | (n, k) :: r, x, h => by
    rw [List.map_cons]
    dsimp only
    cases hx : x == n with
    | true =>
      rw [List.lookup_cons, hx] at h
      by_cases hc : (k == NameKind.free && env.scope.kind == .function && env.kindOf n == some .cell) = true
      · rw [if_pos hc, List.lookup_cons, hx]
        exact .inl rfl
      · rw [if_neg hc, List.lookup_cons, hx]
        rcases h with h | h
        · exact .inl h
        · exact .inr h
    | false =>
      rw [List.lookup_cons, hx] at h
      have ih := @relabel_cf env r x h
      by_cases hc : (k == NameKind.free && env.scope.kind == .function && env.kindOf n == some .cell) = true
      · rw [if_pos hc]
        simp only [List.lookup_cons, hx]
        exact ih
      · rw [if_neg hc]
        simp only [List.lookup_cons, hx]
        exact ih
theorem blkOk_in {N : List Str} {sc scope : Scope} {own : List (Str × Nat)} {env : Env} (h : blkC N sc scope own = true) : BlkOk N (relabel sc env) scope own := by
  have b := blkOk_by h
  exact ⟨b.kind, b.uniq, b.ix, fun y hy e => relabel_cf (b.free y hy e), b.own⟩
/-! ### heaps that keep all but one thing -/
structure But (a : Addr) (H H' : Hp) : Prop where
  keep : ∀ b o, H b = some o → b ≠ a → H' b = some o
  free : ∀ b, H' b = none → H b = none
theorem But.refl (a : Addr) (H : Hp) : But a H H := ⟨fun _ _ e _ => e, fun _ e => e⟩
theorem But.same {a : Addr} {H H1 H2 : Hp} (x : But a H H1) (s : Same H1 H2) : But a H H2 := ⟨fun b o e n => s b o (x.keep b o e n), fun b e => x.free b (s.free e)⟩
theorem But.put {a : Addr} {H H1 : Hp} {o o' : HO} (x : But a H H1) (h : H1 a = some o') : But a H (upd H1 a o) := ⟨fun b u e n => by rw [upd_ne n]; exact x.keep b u e n, fun b e => by
  by_cases z : b = a
  · rw [z, upd_same] at e; cases e
  · rw [upd_ne z] at e; exact x.free b e⟩
section
variable {K : PySem.W.Frag} {H H' : Hp} {a q : Addr}
theorem tup_over {xs : List V} {o : HO} {C dx : Addr} {fs : List (Str × V)} (h : SqT K H q xs) (ha : H a = some (.ins C dx fs)) : SqT K (upd H a o) q xs := by
  rcases h with (h | ⟨o', h⟩) | h
  · exact .inl (.inl (by rw [upd_ne (fun z => by rw [z, ha] at h; cases h)]; exact h))
  · exact .inl (.inr ⟨o', by rw [upd_ne (fun z => by rw [z, ha] at h; cases h)]; exact h⟩)
  · exact .inr h
theorem tups_over {o : HO} {C dx : Addr} {fs : List (Str × V)} (ha : H a = some (.ins C dx fs)) : ∀ {ps : List Addr} {rows : List (List Int)}, Tups K H ps rows → Tups K (upd H a o) ps rows
  | _, _, .nil => .nil
  | _, _, .cons h t => .cons (tup_over h ha) (tups_over ha t)
theorem lst_over {o : HO} {C dx : Addr} {fs : List (Str × V)} {l : List V} (ha : H a = some (.ins C dx fs)) (h : H q = some (.lst l)) : upd H a o q = some (.lst l) := by
  rw [upd_ne (fun z => by rw [z, ha] at h; cases h)]
  exact h
theorem lsT_over {o : HO} {C dx : Addr} {fs : List (Str × V)} {rows : List (List Int)} (ha : H a = some (.ins C dx fs)) (h : LsT K H q rows) : LsT K (upd H a o) q rows := by
  obtain ⟨ps, h1, h2⟩ := h
  exact ⟨ps, lst_over ha h1, tups_over ha h2⟩
theorem lns_over {o : HO} {C dx : Addr} {fs : List (Str × V)} (ha : H a = some (.ins C dx fs)) : ∀ {ps : List Addr} {rows : List (List Nat)}, Lns H ps rows → Lns (upd H a o) ps rows
  | _, _, .nil => .nil
  | _, _, .cons h t => .cons (lst_over ha h) (lns_over ha t)
theorem lis_over {o : HO} {C dx : Addr} {fs : List (Str × V)} (ha : H a = some (.ins C dx fs)) : ∀ {ps : List Addr} {rows : List (List Int)}, Lis H ps rows → Lis (upd H a o) ps rows
  | _, _, .nil => .nil
  | _, _, .cons h t => .cons (lst_over ha h) (lis_over ha t)
/-- lists of ints -/
def FLi (f : Nat → List Int) : Nat → V → Hp → Prop := fun i y H => ∃ q, y = .ref q ∧ H q = some (.lst (tI (f i)))
def FLiA (D : Addr) (f : Nat → List Int) : Nat → V → Hp → Prop := fun i y H => ∃ q, y = .ref q ∧ q ≠ D ∧ H q = some (.lst (tI (f i)))
theorem stays_li {D : Addr} {f : Nat → List Int} : Stays (FLiA D f) D :=
  ⟨fun _ _ _ _ s ⟨q, e, n, h⟩ => ⟨q, e, n, s _ _ h⟩, fun _ _ _ _ _ _ ⟨q, e, n, h⟩ => ⟨q, e, n, by rw [upd_ne n]; exact h⟩⟩
theorem lis_of {D : Addr} {f : Nat → List Int} : ∀ {is : List Nat} {acc : List V}, Paired (fun i y => FLiA D f i y H) is acc → ∃ qs : List Addr, acc = qs.map V.ref ∧ Lis H qs (is.map f)
  | _, _, .nil => ⟨[], rfl, .nil⟩
  | _, _, .cons ⟨q, e, n, h⟩ t => by
    obtain ⟨qs, e2, h2⟩ := lis_of t
    exact ⟨q :: qs, by rw [e, e2]; rfl, .cons h h2⟩
theorem lns_of_lis : ∀ {qs : List Addr} {rows : List (List Nat)}, Lis H qs (castRows rows) → Lns H qs rows
  | [], [], _ => .nil
  | [], _ :: _, h => nomatch h
  | _ :: _, [], h => nomatch h
  | _ :: _, _ :: _, .cons h t => .cons h (lns_of_lis t)
end
section
variable {P : Program} {w : World} {K : PySem.W.Frag} {mg : Str → Option Value} {base : Heap} {C : Addr}
theorem case_end {P : Program} {w : World} {K : PySem.W.Frag} {C a dx an av ah asd dk dg : Addr} {n e k : Nat} {hs ss : List Addr} {G7 : Hp} (o7 : G7 a = some (.ins C dx [(("places" : Str), V.int (n : Nat)), (("eyes" : Str), V.int (e : Nat)), (("robots" : Str), V.int (k : Nat)), (("names" : Str), V.ref an), (("views" : Str), V.ref av), (("had" : Str), V.ref ah), (("sides" : Str), V.ref asd)])) (nm : LsT K G7 an (allNames n k)) (vw : LsT K G7 av (allViews (allNames n k) e)) (hd : G7 ah = some (.lst (hs.map V.ref)))
    (hdl : Lns G7 hs (kase n e k).had) (sd : G7 asd = some (.lst (ss.map V.ref))) (sdl : Lis G7 ss (kase n e k).sides) (g : Good n k) (he : e ≤ 2) (hdk : G7 dk = none) (hdg : (upd (upd G7 dk (KnownO P w dk [])) a (.ins C dx (putF ("known" : Str) (V.ref dk) [(("places" : Str), V.int (n : Nat)), (("eyes" : Str), V.int (e : Nat)), (("robots" : Str), V.int (k : Nat)), (("names" : Str), V.ref an), (("views" : Str), V.ref av), (("had" : Str), V.ref ah), (("sides" : Str), V.ref asd)]))) dg = none) :
    (upd (upd G7 dk (KnownO P w dk [])) a (.ins C dx (putF ("known" : Str) (V.ref dk) [(("places" : Str), V.int (n : Nat)), (("eyes" : Str), V.int (e : Nat)), (("robots" : Str), V.int (k : Nat)), (("names" : Str), V.ref an), (("views" : Str), V.ref av), (("had" : Str), V.ref ah), (("sides" : Str), V.ref asd)]))) a = some (.ins C dx [(("places" : Str), V.int (n : Nat)), (("eyes" : Str), V.int (e : Nat)), (("robots" : Str), V.int (k : Nat)), (("names" : Str), V.ref an), (("views" : Str), V.ref av), (("had" : Str), V.ref ah), (("sides" : Str), V.ref asd), (("known" : Str), V.ref dk)]) ∧ CaseR P w K C (upd (upd (upd (upd G7 dk (KnownO P w dk [])) a (.ins C dx (putF ("known" : Str) (V.ref dk) [(("places" : Str), V.int (n : Nat)), (("eyes" : Str), V.int (e : Nat)), (("robots" : Str), V.int (k : Nat)), (("names" : Str), V.ref an), (("views" : Str), V.ref av), (("had" : Str), V.ref ah), (("sides" : Str), V.ref asd)]))) dg (.dK [])) a (.ins C dx (putF ("gathered" : Str) (V.ref dg) [(("places" : Str), V.int (n : Nat)), (("eyes" : Str), V.int (e : Nat)), (("robots" : Str), V.int (k : Nat)), (("names" : Str), V.ref an), (("views" : Str), V.ref av), (("had" : Str), V.ref ah), (("sides" : Str), V.ref asd), (("known" : Str), V.ref dk)]))) a n e k ⟨dx, an, av, ah, asd, dk, dg, hs, ss, [], []⟩ ∧ ∀ H, But a H G7 → But a H (upd (upd (upd (upd G7 dk (KnownO P w dk [])) a (.ins C dx (putF ("known" : Str) (V.ref dk) [(("places" : Str), V.int (n : Nat)), (("eyes" : Str), V.int (e : Nat)), (("robots" : Str), V.int (k : Nat)), (("names" : Str), V.ref an), (("views" : Str), V.ref av), (("had" : Str), V.ref ah), (("sides" : Str), V.ref asd)]))) dg (.dK [])) a (.ins C dx (putF ("gathered" : Str) (V.ref dg) [(("places" : Str), V.int (n : Nat)), (("eyes" : Str), V.int (e : Nat)), (("robots" : Str), V.int (k : Nat)), (("names" : Str), V.ref an), (("views" : Str), V.ref av), (("had" : Str), V.ref ah), (("sides" : Str), V.ref asd), (("known" : Str), V.ref dk)]))) := by
  have s1 := Same.new (o := KnownO P w dk []) hdk
  have nk : dk ≠ a := fun z => by rw [z, o7] at hdk; cases hdk
  have o8 : (upd (upd G7 dk (KnownO P w dk [])) a (.ins C dx (putF ("known" : Str) (V.ref dk) [(("places" : Str), V.int (n : Nat)), (("eyes" : Str), V.int (e : Nat)), (("robots" : Str), V.int (k : Nat)), (("names" : Str), V.ref an), (("views" : Str), V.ref av), (("had" : Str), V.ref ah), (("sides" : Str), V.ref asd)]))) a = some (.ins C dx [(("places" : Str), V.int (n : Nat)), (("eyes" : Str), V.int (e : Nat)), (("robots" : Str), V.int (k : Nat)), (("names" : Str), V.ref an), (("views" : Str), V.ref av), (("had" : Str), V.ref ah), (("sides" : Str), V.ref asd), (("known" : Str), V.ref dk)]) := upd_same.trans (by rw [putF_new (by show notIn "known" ["places", "eyes", "robots", "names", "views", "had", "sides"] = true; decide +kernel)]; rfl)
  have ng : dg ≠ a := fun z => by rw [z, o8] at hdg; cases hdg
  have kn8 : (upd (upd G7 dk (KnownO P w dk [])) a (.ins C dx (putF ("known" : Str) (V.ref dk) [(("places" : Str), V.int (n : Nat)), (("eyes" : Str), V.int (e : Nat)), (("robots" : Str), V.int (k : Nat)), (("names" : Str), V.ref an), (("views" : Str), V.ref av), (("had" : Str), V.ref ah), (("sides" : Str), V.ref asd)]))) dk = some (KnownO P w dk []) := by rw [upd_ne nk, upd_same]
  have nkg : dk ≠ dg := fun z => by rw [← z, kn8] at hdg; cases hdg
  have s2 := Same.new (o := .dK []) hdg
  have a7 := s1 _ _ o7
  have a8 := s2 _ _ o8
  refine ⟨o8, ⟨⟨?_, lsT_over a8 (lsT_same s2 (lsT_over a7 (lsT_same s1 nm))), lsT_over a8 (lsT_same s2 (lsT_over a7 (lsT_same s1 vw))), lst_over a8 (s2 _ _ (lst_over a7 (s1 _ _ hd))), lns_over a8 (lns_same s2 (lns_over a7 (lns_same s1 hdl))), lst_over a8 (s2 _ _ (lst_over a7 (s1 _ _ sd))), lis_over a8 (s2.kp.lis (lis_over a7 (s1.kp.lis sdl))), g, he⟩,
    ?_, (fun _ h => nomatch h), ⟨List.nodup_nil, (fun _ h => nomatch h)⟩, ?_, (fun m v h => by cases h), (fun _ h => nomatch h), List.nodup_nil⟩, fun H b => ?_⟩
  · rw [upd_same, putF_new (by show notIn "gathered" ["places", "eyes", "robots", "names", "views", "had", "sides", "known"] = true; decide +kernel)]
    rfl
  · show upd _ a _ dk = _
    rw [upd_ne nk]
    exact s2 _ _ kn8
  · show upd _ a _ dg = _
    rw [upd_ne ng, upd_same]
  · exact ((((b.same s1).put a7)).same s2).put a8
def spCase (P : Program) (w : World) (K : PySem.W.Frag) (C : Addr) : Sp := fun vs H Q _ => ∃ (a dx : Addr) (n e k : Nat), vs = [.ref a, .int n, .int e, .int k] ∧ H a = some (.ins C dx []) ∧ Good n k ∧ e ≤ 2 ∧
  ∀ H' d, But a H H' → CaseR P w K C H' a n e k d → Q .non H'
abbrev sCase : Stmt := inClass (top 25) 0
abbrev nCase : List Str := ["self", "places", "eyes", "robots", "ring", "place"]
abbrev pCase : List Str := ["self", "places", "eyes", "robots"]
theorem sc_case : FnScope nCase pCase (defScope sCase) := ⟨rfl, rfl, rfl, by decide +kernel, rfl, by decide +kernel, by decide +kernel⟩
theorem ok_case (T : CaseTxt K mg C) {f : Addr} {fd : FuncData} (F : Fun K "__init__" "Case.__init__" sCase f fd) (Cn : Cal P w K mg base CX0 3 "all_names" ["places", "robots"] (spNames K)) (Cv : Cal P w K mg base CX0 4 "all_views" ["names", "eyes"] (spViews K)) (Mv : Met P w K mg base CX0 4 C "views_in" ["self", "ring"] (spViewsIn K C))
    (Ch : Cal P w K mg base CX0 1 "had_places" ["ring"] (spHad K)) (Cs : Cal P w K mg base CX0 3 "side_of" ["ring", "place", "eyes"] (spSide K)) : FnOk P w K mg base CX0 5 f fd pCase (spCase P w K C) := by
  refine F.ok sc_case (fun vs H Q E h => ?_) (fun cdv A outer s H vs Q E hr h => ?_)
  · obtain ⟨a, dx, n, e, k, rfl, _⟩ := h
    rfl
  · have nd := sc_case.nd
    refine ⟨_, pss_cons (ps_fld (pv 0) (pv 1) rfl) (pss_cons (ps_fld (pv 0) (pv 2) rfl) (pss_cons (ps_fld (pv 0) (pv 3) rfl)
      (pss_cons (ps_fld (pv 0) (pe_c Cn hr (pa_cons (pv 1) (pa_cons (pv 3) pa_nil))) rfl)
      (pss_cons (ps_fld (pv 0) (pe_c Cv hr (pa_cons (pe_fld (pv 0) rfl) (pa_cons (pv 2) pa_nil))) rfl)
      (pss_cons (ps_fld (pv 0) (pe_lc (own := [("ring", 4)]) (g := gName 4) (tt := tYes) rfl nd (pi_list (pe_fld (pv 0) rfl)) (blkOk_by (own := [("ring", 4)]) (N := nCase) (sc := defScope sCase) (by decide +kernel))
          (fun _ _ _ _ _ => pg_name (i := 4) nd rfl (Or.inl rfl)) (fun _ _ _ _ _ => pts_nil) (fun _ _ _ _ _ => pe_m T.cl Mv hr (pv 0) (pa_cons (pv 4) pa_nil))) rfl)
      (pss_cons (ps_fld (pv 0) (pe_lc (own := [("ring", 4)]) (g := gName 4) (tt := tYes) (te := tLc (iList K (tCall (spHad K) [] E0 (tCons (tVar 4) tNil))) (gName 5) tYes (tCall (spSide K) [] E0 (tCons (tVar 4) (tCons (tVar 5) (tCons (tVar 2) tNil)))) [5]) rfl nd (pi_list (pe_fld (pv 0) rfl)) (blkOk_by (own := [("ring", 4)]) (N := nCase) (sc := defScope sCase) (by decide +kernel))
          (fun _ _ _ _ _ => pg_name (i := 4) nd rfl (Or.inr rfl)) (fun _ _ _ _ _ => pts_nil)
          (fun _ _ _ _ _ => pe_lc (own := [("place", 5)]) (g := gName 5) (tt := tYes) rfl nd (pi_list (pe_c Ch hr (pa_cons (pv 4) pa_nil))) (blkOk_in (own := [("place", 5)]) (N := nCase) (by decide +kernel))
            (fun _ _ _ _ _ => pg_name (i := 5) nd rfl (Or.inl rfl)) (fun _ _ _ _ _ => pts_nil) (fun _ _ _ _ _ => pe_c Cs hr (pa_cons (pv 4) (pa_cons (pv 5) (pa_cons (pv 2) pa_nil)))))) rfl)
      (pss_cons (ps_fld (pv 0) pe_knownNew rfl) (pss_one (ps_fld (pv 0) pe_dnewK rfl))))))))), ?_⟩
    obtain ⟨a, dx, n, e, k, rfl, ha, g, he, z⟩ := h
    refine ⟨_, rfl, _, rfl, a, C, dx, _, rfl, ha, T.cl, T.nP, (by show 0 < 1000; decide), ?_⟩
    have o1 : (upd H a (.ins C dx (putF ("places" : Str) (V.int (n : Nat)) []))) a = some (.ins C dx [(("places" : Str), V.int (n : Nat))]) := upd_same
    have b1 : But a H (upd H a (.ins C dx (putF ("places" : Str) (V.int (n : Nat)) []))) := (But.refl a H).put (ha)
    generalize upd H a (.ins C dx (putF ("places" : Str) (V.int (n : Nat)) [])) = G1 at o1 b1 ⊢
    refine ⟨_, rfl, _, rfl, a, C, dx, _, rfl, o1, T.cl, T.nE, (by show 1 < 1000; decide), ?_⟩
    have o2 : (upd G1 a (.ins C dx (putF ("eyes" : Str) (V.int (e : Nat)) [(("places" : Str), V.int (n : Nat))]))) a = some (.ins C dx [(("places" : Str), V.int (n : Nat)), (("eyes" : Str), V.int (e : Nat))]) := upd_same.trans (by rw [putF_new (by show notIn "eyes" ["places"] = true; decide +kernel)]; rfl)
    have b2 : But a H (upd G1 a (.ins C dx (putF ("eyes" : Str) (V.int (e : Nat)) [(("places" : Str), V.int (n : Nat))]))) := (b1).put (o1)
    generalize upd G1 a (.ins C dx (putF ("eyes" : Str) (V.int (e : Nat)) [(("places" : Str), V.int (n : Nat))])) = G2 at o2 b2 ⊢
    refine ⟨_, rfl, _, rfl, a, C, dx, _, rfl, o2, T.cl, T.nR, (by show 2 < 1000; decide), ?_⟩
    have o3 : (upd G2 a (.ins C dx (putF ("robots" : Str) (V.int (k : Nat)) [(("places" : Str), V.int (n : Nat)), (("eyes" : Str), V.int (e : Nat))]))) a = some (.ins C dx [(("places" : Str), V.int (n : Nat)), (("eyes" : Str), V.int (e : Nat)), (("robots" : Str), V.int (k : Nat))]) := upd_same.trans (by rw [putF_new (by show notIn "robots" ["places", "eyes"] = true; decide +kernel)]; rfl)
    have b3 : But a H (upd G2 a (.ins C dx (putF ("robots" : Str) (V.int (k : Nat)) [(("places" : Str), V.int (n : Nat)), (("eyes" : Str), V.int (e : Nat))]))) := (b2).put (o2)
    generalize upd G2 a (.ins C dx (putF ("robots" : Str) (V.int (k : Nat)) [(("places" : Str), V.int (n : Nat)), (("eyes" : Str), V.int (e : Nat))])) = G3 at o3 b3 ⊢
    refine ⟨_, rfl, _, rfl, n, k, rfl, g, fun J4 an t4 f4 l4 => ⟨_, rfl, a, C, dx, _, rfl, t4 _ _ o3, T.cl, T.nN, (by show 3 < 1000; decide), ?_⟩⟩
    have o4 : (upd J4 a (.ins C dx (putF ("names" : Str) (V.ref an) [(("places" : Str), V.int (n : Nat)), (("eyes" : Str), V.int (e : Nat)), (("robots" : Str), V.int (k : Nat))]))) a = some (.ins C dx [(("places" : Str), V.int (n : Nat)), (("eyes" : Str), V.int (e : Nat)), (("robots" : Str), V.int (k : Nat)), (("names" : Str), V.ref an)]) := upd_same.trans (by rw [putF_new (by show notIn "names" ["places", "eyes", "robots"] = true; decide +kernel)]; rfl)
    have b4 : But a H (upd J4 a (.ins C dx (putF ("names" : Str) (V.ref an) [(("places" : Str), V.int (n : Nat)), (("eyes" : Str), V.int (e : Nat)), (("robots" : Str), V.int (k : Nat))]))) := (b3.same t4).put (t4 _ _ o3)
    have n4 : LsT K (upd J4 a (.ins C dx (putF ("names" : Str) (V.ref an) [(("places" : Str), V.int (n : Nat)), (("eyes" : Str), V.int (e : Nat)), (("robots" : Str), V.int (k : Nat))]))) an (allNames n k) := lsT_over (t4 _ _ o3) l4
    generalize upd J4 a (.ins C dx (putF ("names" : Str) (V.ref an) [(("places" : Str), V.int (n : Nat)), (("eyes" : Str), V.int (e : Nat)), (("robots" : Str), V.int (k : Nat))])) = G4 at o4 b4 n4 ⊢
    refine ⟨_, rfl, a, C, dx, _, _, rfl, o4, T.cl, T.nN, (lookup_at 3 rfl (by show notIn "names" (List.take 3 ["places", "eyes", "robots", "names"]) = true; decide +kernel)), _, rfl, an, n, k, e, rfl, n4, g, he, fun J5 av t5 f5 l5 => ⟨_, rfl, a, C, dx, _, rfl, t5 _ _ o4, T.cl, T.nV, (by show 4 < 1000; decide), ?_⟩⟩
    have o5 : (upd J5 a (.ins C dx (putF ("views" : Str) (V.ref av) [(("places" : Str), V.int (n : Nat)), (("eyes" : Str), V.int (e : Nat)), (("robots" : Str), V.int (k : Nat)), (("names" : Str), V.ref an)]))) a = some (.ins C dx [(("places" : Str), V.int (n : Nat)), (("eyes" : Str), V.int (e : Nat)), (("robots" : Str), V.int (k : Nat)), (("names" : Str), V.ref an), (("views" : Str), V.ref av)]) := upd_same.trans (by rw [putF_new (by show notIn "views" ["places", "eyes", "robots", "names"] = true; decide +kernel)]; rfl)
    have b5 : But a H (upd J5 a (.ins C dx (putF ("views" : Str) (V.ref av) [(("places" : Str), V.int (n : Nat)), (("eyes" : Str), V.int (e : Nat)), (("robots" : Str), V.int (k : Nat)), (("names" : Str), V.ref an)]))) := (b4.same t5).put (t5 _ _ o4)
    have n5 : LsT K (upd J5 a (.ins C dx (putF ("views" : Str) (V.ref av) [(("places" : Str), V.int (n : Nat)), (("eyes" : Str), V.int (e : Nat)), (("robots" : Str), V.int (k : Nat)), (("names" : Str), V.ref an)]))) an (allNames n k) := lsT_over (t5 _ _ o4) (lsT_same t5 n4)
    have v5 : LsT K (upd J5 a (.ins C dx (putF ("views" : Str) (V.ref av) [(("places" : Str), V.int (n : Nat)), (("eyes" : Str), V.int (e : Nat)), (("robots" : Str), V.int (k : Nat)), (("names" : Str), V.ref an)]))) av (allViews (allNames n k) e) := lsT_over (t5 _ _ o4) l5
    generalize upd J5 a (.ins C dx (putF ("views" : Str) (V.ref av) [(("places" : Str), V.int (n : Nat)), (("eyes" : Str), V.int (e : Nat)), (("robots" : Str), V.int (k : Nat)), (("names" : Str), V.ref an)])) = G5 at o5 b5 n5 v5 ⊢
    obtain ⟨nps, hnl, hnt⟩ := n5
    have hnlen := hnt.length
    have h8 := (names_few g).2
    have hn7 := g.n7
    refine ⟨_, rfl, a, C, dx, _, _, rfl, o5, T.cl, T.nN, (lookup_at 3 rfl (by show notIn "names" (List.take 3 ["places", "eyes", "robots", "names", "views"]) = true; decide +kernel)), an, rfl, ⟨_, .of hnl⟩, fun ah hah => ?_⟩
    refine lc_mapD (walk_list (K := K) (a := an) (xs := nps.map V.ref)) (FLiA ah fun i => (fun r => ((viewsIn r e).map fun v => (allViews (allNames n k) e).idxOf v).map fun (i : Nat) => (i : Int)) ((allNames n k).getD i [])) stays_li hah (by rw [List.length_map]; omega) (fun H' s' => .of (s' _ _ hnl)) ?_ ?_
    · rintro i x X3 X2 hi s2 ⟨bacc, hbl⟩ ⟨rfl, hx⟩ Z hz
      obtain ⟨p, hp, rfl⟩ := ref_at hx
      obtain ⟨row, hrow, hpt⟩ := Paired.at hnt i p hp
      refine ⟨rfl, _, rfl, a, dx, _, rfl, s2 _ _ o5, lookup_none (by show notIn "views_in" ["places", "eyes", "robots", "names", "views"] = true; decide +kernel), _, rfl, a, p, dx, av, _, row, n, k, e, rfl, s2 _ _ o5, (lookup_at 1 rfl (by show notIn "eyes" (List.take 1 ["places", "eyes", "robots", "names", "views"]) = true; decide +kernel)), (lookup_at 4 rfl (by show notIn "views" (List.take 4 ["places", "eyes", "robots", "names", "views"]) = true; decide +kernel)), lsT_same s2 v5, s2.tup hpt, List.mem_of_getElem? hrow, g, he, fun X4 q s4 fq hq => hz _ X4 s4 ⟨q, rfl, (fun z => by rw [z, hbl] at fq; cases fq), ?_⟩⟩
      rw [hq]
      show _ = some (HO.lst (tI (((viewsIn ((allNames n k).getD i []) e).map fun v => (allViews (allNames n k) e).idxOf v).map fun (i : Nat) => (i : Int))))
      rw [getD_of hrow]
    intro J6 acc t6 ha6 pr
    obtain ⟨hs, rfl, hhs⟩ := lis_of pr
    have hd6 : Lns J6 hs (kase n e k).had := by
      refine lns_of_lis ?_
      have e1 : (List.range (nps.map V.ref).length).map (fun i => (fun r => ((viewsIn r e).map fun v => (allViews (allNames n k) e).idxOf v).map fun (i : Nat) => (i : Int)) ((allNames n k).getD i [])) = castRows (kase n e k).had := by
        rw [List.length_map, hnlen]
        have h := congrArg (List.map fun r => ((viewsIn r e).map fun v => (allViews (allNames n k) e).idxOf v).map fun (i : Nat) => (i : Int)) (range_getD ([] : List Int) (allNames n k))
        rw [List.map_map] at h
        unfold castRows
        show _ = List.map _ ((allNames n k).map fun r => (viewsIn r e).map fun v => (allViews (allNames n k) e).idxOf v)
        rw [List.map_map]
        exact h
      rw [e1] at hhs
      exact hhs
    refine ⟨_, rfl, a, C, dx, _, rfl, t6 _ _ o5, T.cl, T.nH, (by show 5 < 1000; decide), ?_⟩
    have o6 : (upd J6 a (.ins C dx (putF ("had" : Str) (V.ref ah) [(("places" : Str), V.int (n : Nat)), (("eyes" : Str), V.int (e : Nat)), (("robots" : Str), V.int (k : Nat)), (("names" : Str), V.ref an), (("views" : Str), V.ref av)]))) a = some (.ins C dx [(("places" : Str), V.int (n : Nat)), (("eyes" : Str), V.int (e : Nat)), (("robots" : Str), V.int (k : Nat)), (("names" : Str), V.ref an), (("views" : Str), V.ref av), (("had" : Str), V.ref ah)]) := upd_same.trans (by rw [putF_new (by show notIn "had" ["places", "eyes", "robots", "names", "views"] = true; decide +kernel)]; rfl)
    have b6 : But a H (upd J6 a (.ins C dx (putF ("had" : Str) (V.ref ah) [(("places" : Str), V.int (n : Nat)), (("eyes" : Str), V.int (e : Nat)), (("robots" : Str), V.int (k : Nat)), (("names" : Str), V.ref an), (("views" : Str), V.ref av)]))) := (b5.same t6).put (t6 _ _ o5)
    have n6 : LsT K (upd J6 a (.ins C dx (putF ("had" : Str) (V.ref ah) [(("places" : Str), V.int (n : Nat)), (("eyes" : Str), V.int (e : Nat)), (("robots" : Str), V.int (k : Nat)), (("names" : Str), V.ref an), (("views" : Str), V.ref av)]))) an (allNames n k) := lsT_over (t6 _ _ o5) (lsT_same t6 ⟨nps, hnl, hnt⟩)
    have v6 : LsT K (upd J6 a (.ins C dx (putF ("had" : Str) (V.ref ah) [(("places" : Str), V.int (n : Nat)), (("eyes" : Str), V.int (e : Nat)), (("robots" : Str), V.int (k : Nat)), (("names" : Str), V.ref an), (("views" : Str), V.ref av)]))) av (allViews (allNames n k) e) := lsT_over (t6 _ _ o5) (lsT_same t6 v5)
    have h6 : (upd J6 a (.ins C dx (putF ("had" : Str) (V.ref ah) [(("places" : Str), V.int (n : Nat)), (("eyes" : Str), V.int (e : Nat)), (("robots" : Str), V.int (k : Nat)), (("names" : Str), V.ref an), (("views" : Str), V.ref av)]))) ah = some (.lst (hs.map V.ref)) := lst_over (t6 _ _ o5) ha6
    have hl6 : Lns (upd J6 a (.ins C dx (putF ("had" : Str) (V.ref ah) [(("places" : Str), V.int (n : Nat)), (("eyes" : Str), V.int (e : Nat)), (("robots" : Str), V.int (k : Nat)), (("names" : Str), V.ref an), (("views" : Str), V.ref av)]))) hs (kase n e k).had := lns_over (t6 _ _ o5) hd6
    generalize upd J6 a (.ins C dx (putF ("had" : Str) (V.ref ah) [(("places" : Str), V.int (n : Nat)), (("eyes" : Str), V.int (e : Nat)), (("robots" : Str), V.int (k : Nat)), (("names" : Str), V.ref an), (("views" : Str), V.ref av)])) = G6 at o6 b6 n6 v6 h6 hl6 ⊢
    obtain ⟨nps, hnl, hnt⟩ := n6
    have hnlen := hnt.length
    refine ⟨_, rfl, a, C, dx, _, _, rfl, o6, T.cl, T.nN, (lookup_at 3 rfl (by show notIn "names" (List.take 3 ["places", "eyes", "robots", "names", "views", "had"]) = true; decide +kernel)), an, rfl, ⟨_, .of hnl⟩, fun asd hasd => ?_⟩
    refine lc_mapD (walk_list (K := K) (a := an) (xs := nps.map V.ref)) (FLiA asd fun i => (fun r => (hadPlaces r).map fun p => sideOf r p e) ((allNames n k).getD i [])) stays_li hasd (by rw [List.length_map]; omega) (fun H' s' => .of (s' _ _ hnl)) ?_ ?_
    · rintro i x X3 X2 hi s2 ⟨bacc, hbl⟩ ⟨rfl, hx⟩ Z hz
      obtain ⟨p, hp, rfl⟩ := ref_at hx
      obtain ⟨row, hrow, hpt⟩ := Paired.at hnt i p hp
      have rok := names_ok g (List.mem_of_getElem? hrow)
      have rlen := rok.len
      have hlen := had_len row
      refine ⟨rfl, _, rfl, p, row, rfl, s2.tup hpt, by omega, fun X4 c s4 fc hc => ⟨c, rfl, ⟨_, .of hc⟩, fun b3 hb3 => ?_⟩⟩
      refine lc_map (walk_list (K := K) (a := c) (xs := tN (hadPlaces row))) (FInt fun j => (fun pl : Nat => sideOf row pl e) ((hadPlaces row).getD j 0)) stays_int hb3 (by rw [tN_len]; omega) (fun H' s' => .of (s' _ _ hc)) ?_ ?_
      · rintro j y X6 X5 hj s5 ⟨rfl, hy⟩ Z' hz'
        obtain ⟨pl, hpl, rfl⟩ := nat_at hy
        have hlt := mem_had (List.mem_of_getElem? hpl)
        refine ⟨rfl, _, rfl, _, rfl, _, rfl, p, row, pl, e, rfl, s5.tup (s4.tup (s2.tup hpt)), by omega, hlt, he, fun X7 s7 => hz' _ X7 s7 ?_⟩
        show V.int _ = V.int (sideOf row ((hadPlaces row).getD j 0) e)
        rw [getD_of hpl]
      · intro X5 acc5 s5 ha5 pr5
        have ea := ints_of pr5
        rw [tN_len] at ea
        have s45 := s4.trans s5
        refine hz _ X5 s45 ⟨b3, rfl, (fun z => by rw [z, s4 _ _ hbl] at hb3; cases hb3), ?_⟩
        rw [ha5, ea]
        show _ = some (HO.lst (tI ((hadPlaces ((allNames n k).getD i [])).map fun p => sideOf ((allNames n k).getD i []) p e)))
        rw [getD_of hrow]
        have h := congrArg (List.map fun pl : Nat => sideOf row pl e) (range_getD 0 (hadPlaces row))
        rw [List.map_map] at h
        exact congrArg (fun l => some (HO.lst (tI l))) h
    intro J7 acc t7 ha7 pr
    obtain ⟨ss, rfl, hss⟩ := lis_of pr
    have sd7 : Lis J7 ss (kase n e k).sides := by
      have e1 : (List.range (nps.map V.ref).length).map (fun i => (fun r => (hadPlaces r).map fun p => sideOf r p e) ((allNames n k).getD i [])) = (kase n e k).sides := by
        rw [List.length_map, hnlen]
        have h := congrArg (List.map fun r => (hadPlaces r).map fun p => sideOf r p e) (range_getD ([] : List Int) (allNames n k))
        rw [List.map_map] at h
        exact h
      rw [e1] at hss
      exact hss
    refine ⟨_, rfl, a, C, dx, _, rfl, t7 _ _ o6, T.cl, T.nS, (by show 6 < 1000; decide), ?_⟩
    have o7 : (upd J7 a (.ins C dx (putF ("sides" : Str) (V.ref asd) [(("places" : Str), V.int (n : Nat)), (("eyes" : Str), V.int (e : Nat)), (("robots" : Str), V.int (k : Nat)), (("names" : Str), V.ref an), (("views" : Str), V.ref av), (("had" : Str), V.ref ah)]))) a = some (.ins C dx [(("places" : Str), V.int (n : Nat)), (("eyes" : Str), V.int (e : Nat)), (("robots" : Str), V.int (k : Nat)), (("names" : Str), V.ref an), (("views" : Str), V.ref av), (("had" : Str), V.ref ah), (("sides" : Str), V.ref asd)]) := upd_same.trans (by rw [putF_new (by show notIn "sides" ["places", "eyes", "robots", "names", "views", "had"] = true; decide +kernel)]; rfl)
    have b7 : But a H (upd J7 a (.ins C dx (putF ("sides" : Str) (V.ref asd) [(("places" : Str), V.int (n : Nat)), (("eyes" : Str), V.int (e : Nat)), (("robots" : Str), V.int (k : Nat)), (("names" : Str), V.ref an), (("views" : Str), V.ref av), (("had" : Str), V.ref ah)]))) := (b6.same t7).put (t7 _ _ o6)
    have n7 : LsT K (upd J7 a (.ins C dx (putF ("sides" : Str) (V.ref asd) [(("places" : Str), V.int (n : Nat)), (("eyes" : Str), V.int (e : Nat)), (("robots" : Str), V.int (k : Nat)), (("names" : Str), V.ref an), (("views" : Str), V.ref av), (("had" : Str), V.ref ah)]))) an (allNames n k) := lsT_over (t7 _ _ o6) (lsT_same t7 ⟨nps, hnl, hnt⟩)
    have v7 : LsT K (upd J7 a (.ins C dx (putF ("sides" : Str) (V.ref asd) [(("places" : Str), V.int (n : Nat)), (("eyes" : Str), V.int (e : Nat)), (("robots" : Str), V.int (k : Nat)), (("names" : Str), V.ref an), (("views" : Str), V.ref av), (("had" : Str), V.ref ah)]))) av (allViews (allNames n k) e) := lsT_over (t7 _ _ o6) (lsT_same t7 v6)
    have h7 : (upd J7 a (.ins C dx (putF ("sides" : Str) (V.ref asd) [(("places" : Str), V.int (n : Nat)), (("eyes" : Str), V.int (e : Nat)), (("robots" : Str), V.int (k : Nat)), (("names" : Str), V.ref an), (("views" : Str), V.ref av), (("had" : Str), V.ref ah)]))) ah = some (.lst (hs.map V.ref)) := lst_over (t7 _ _ o6) (t7 _ _ h6)
    have hl7 : Lns (upd J7 a (.ins C dx (putF ("sides" : Str) (V.ref asd) [(("places" : Str), V.int (n : Nat)), (("eyes" : Str), V.int (e : Nat)), (("robots" : Str), V.int (k : Nat)), (("names" : Str), V.ref an), (("views" : Str), V.ref av), (("had" : Str), V.ref ah)]))) hs (kase n e k).had := lns_over (t7 _ _ o6) (lns_same t7 hl6)
    have d7 : (upd J7 a (.ins C dx (putF ("sides" : Str) (V.ref asd) [(("places" : Str), V.int (n : Nat)), (("eyes" : Str), V.int (e : Nat)), (("robots" : Str), V.int (k : Nat)), (("names" : Str), V.ref an), (("views" : Str), V.ref av), (("had" : Str), V.ref ah)]))) asd = some (.lst (ss.map V.ref)) := lst_over (t7 _ _ o6) ha7
    have dl7 : Lis (upd J7 a (.ins C dx (putF ("sides" : Str) (V.ref asd) [(("places" : Str), V.int (n : Nat)), (("eyes" : Str), V.int (e : Nat)), (("robots" : Str), V.int (k : Nat)), (("names" : Str), V.ref an), (("views" : Str), V.ref av), (("had" : Str), V.ref ah)]))) ss (kase n e k).sides := lis_over (t7 _ _ o6) sd7
    generalize upd J7 a (.ins C dx (putF ("sides" : Str) (V.ref asd) [(("places" : Str), V.int (n : Nat)), (("eyes" : Str), V.int (e : Nat)), (("robots" : Str), V.int (k : Nat)), (("names" : Str), V.ref an), (("views" : Str), V.ref av), (("had" : Str), V.ref ah)])) = G7 at o7 b7 n7 v7 h7 hl7 d7 dl7 ⊢
    intro dk hdk
    refine ⟨_, rfl, a, C, dx, _, rfl, (Same.new hdk) _ _ o7, T.cl, T.nK, (by show 7 < 1000; decide), ?_⟩
    intro dg hdg
    obtain ⟨o8, c9, b9⟩ := case_end (P := P) (w := w) o7 n7 v7 h7 hl7 d7 dl7 g he hdk hdg
    refine ⟨_, rfl, a, C, dx, _, rfl, (Same.new hdg) _ _ o8, T.cl, T.nG, (by show 8 < 1000; decide), ?_⟩
    exact z _ _ (b9 H b7) c9
end
end Rf
/-! ## RfW20 -/
namespace Rf
open PySem PySem.Spec PyProof.Rows L2
/-! ### Refused, refuse, counted -/
structure RefTxt (K : PySem.W.Frag) (mg : Str → Option Value) (R : Addr) : Prop where
  gR : mg "Refused" = some (.ref R)
  ox : OexC K R
  vV : PySem.W.findCls K (.type "ValueError") (.type "type") "__init__" = some (.val (.builtin "ValueError.__init__"))
  noN : PySem.W.findIn K (.ref R) "number" = some none
  te : PySem.W.exmOne K (.ref R) (.ref R) = some true
  xf : XfC K R
structure RDef (K : PySem.W.Frag) (R : Addr) (st : Stmt) : Prop where
  ex : ∃ (f : Addr) (fd : FuncData), Fun K "__init__" "Refused.__init__" st f fd ∧ PySem.W.findIn K (.ref R) "__init__" = some (some (.ref f)) ∧ PySem.W.typeIn K (.ref f) = some (.type "function") ∧ Binds K fd ["self", "number"] []
section
variable {P : Program} {w : World} {K : PySem.W.Frag} {mg : Str → Option Value} {base : Heap} {R : Addr}
abbrev xN (z : Int) : List (Str × V) := [("number", .int z)]
def spRefI (R : Addr) : Sp := fun vs H Q _ => ∃ (a : Addr) (z : Int), vs = [.ref a, .int z] ∧ H a = some (exo a R none) ∧
  ∀ H' d, (∀ b o, H b = some o → b ≠ a → H' b = some o) → H d = none → d ≠ a → H' a = some (exo a R (some d)) → H' d = some (exd d (xN z)) → Q .non H'
abbrev sRefI : Stmt := inClass (top 39) 0
theorem sc_refI : FnScope ["self", "number"] ["self", "number"] (defScope sRefI) := ⟨rfl, rfl, rfl, by decide +kernel, rfl, by decide +kernel, by decide +kernel⟩
theorem ok_refI (B : Bts mg) (T : RefTxt K mg R) {f : Addr} {fd : FuncData} (F : Fun K "__init__" "Refused.__init__" sRefI f fd) : FnOk P w K mg base CX0 1 f fd ["self", "number"] (spRefI R) := by
  refine F.ok sc_refI (fun vs H Q E h => ?_) (fun cdv A outer s H vs Q E hr h => ?_)
  · obtain ⟨a, z, rfl, _⟩ := h
    rfl
  · refine ⟨_, pss_cons (ps_expr (pe_veinit rfl B.verr T.vV (pa_cons (pv 0) (pa_cons pe_str pa_nil)))) (pss_one (ps_ost (pv 0) (pv 1) rfl)), ?_⟩
    obtain ⟨a, z, rfl, ha, k⟩ := h
    refine ⟨_, rfl, a, R, _, rfl, (by show 1 ≤ 1000; decide), T.ox, ha, ?_⟩
    refine ⟨_, rfl, _, rfl, a, R, rfl, T.ox, T.noN, .inl ⟨ha, fun d hd ne => ?_⟩⟩
    refine k _ d (fun b o e n => ?_) hd ne upd_same ?_
    · rw [upd_ne n, upd_ne (ne_of_none e hd)]
      exact e
    · rw [upd_ne ne, upd_same]
def spRefuse (R : Addr) : Sp := fun vs H Q E => ∃ (b : Bool) (z : Int), vs = [.bl b, .int z] ∧ (b = true → ∀ H' d, Same H H' → H' d = some (.xd (xN z)) → E (.ref R) (some d) H') ∧ (b = false → Q .non H)
theorem sc_refuse : FnScope ["bad", "number"] ["bad", "number"] (defScope (top 40)) := ⟨rfl, rfl, rfl, by decide +kernel, rfl, by decide +kernel, by decide +kernel⟩
theorem ok_refuse (B : Bts mg) (T : RefTxt K mg R) (DR : RDef K R sRefI) (D : GDef K mg "refuse" (top 40) ["bad", "number"]) : Cal P w K mg base (L2.CX P w) 3 "refuse" ["bad", "number"] (spRefuse R) := by
  obtain ⟨fI, fdI, FI, iC, tI', bI⟩ := DR.ex
  have GI : FnOk P w K mg base CX0 1 fI fdI ["self", "number"] (spRefI R) := ok_refI B T FI
  refine D.cal fun f fd F => F.okX sc_refuse (fun vs H Q E h => ?_) (fun cdv A outer s H vs Q E hr h => ?_)
  · obtain ⟨b, z, rfl, _⟩ := h
    rfl
  · refine ⟨_, pss_one (ps_if (pt_val (pv 0)) (pss_one (ps_raise rfl (takes_of rfl rfl rfl rfl) (pmk_oex T.ox iC tI' GI hr bI .nil (fun _ _ _ _ _ _ _ h => h.elim) rfl T.gR (pa_cons (pv 1) pa_nil)))) pss_nil), ?_⟩
    obtain ⟨b, z, rfl, kT, kF⟩ := h
    refine ⟨_, rfl, b, rfl, ?_⟩
    cases b with
    | false => exact iteF (kF rfl)
    | true =>
      refine iteT ⟨_, rfl, (by show 1 ≤ 1000; decide), fun a ha => ⟨a, z, rfl, upd_same, fun H' d hk hd nd h1 h2 => ⟨rfl, d, xN z, h1, h2, ?_, ?_⟩⟩⟩
      · rw [upd_ne nd] at hd
        exact hd
      · rw [upd_ne nd] at hd
        refine kT rfl _ d (fun b o e => ?_) upd_same
        rw [upd_ne (ne_of_none e hd), del_ne (ne_of_none e ha)]
        exact hk b o (by rw [upd_ne (ne_of_none e ha)]; exact e) (ne_of_none e ha)
def spCounted (K : PySem.W.Frag) : Sp := fun vs H Q _ => ∃ (q : Addr) (l : List Int), vs = [.ref q] ∧ (SqL K H q (tI l) ∨ SqT K H q (tI l)) ∧ l.length ≤ 100000 ∧ ∀ H' p, Same H H' → H p = none → H' p = some (.lst (tI ((l.length : Int) :: l))) → Q (.ref p) H'
theorem sc_counted : FnScope ["row"] ["row"] (defScope (top 41)) := ⟨rfl, rfl, rfl, by decide +kernel, rfl, by decide +kernel, by decide +kernel⟩
theorem ok_counted (B : Bts mg) (D : GDef K mg "counted" (top 41) ["row"]) : Cal P w K mg base CX0 1 "counted" ["row"] (spCounted K) := by
  refine D.cal fun f fd F => F.ok sc_counted (fun vs H Q E h => ?_) (fun cdv A outer s H vs Q E hr h => ?_)
  · obtain ⟨q, l, rfl, _⟩ := h
    rfl
  · refine ⟨_, pss_one (ps_ret (pe_op op_cat (pe_lst (pa_cons (pe_callB call_len_seq rfl B.len bt_len (pa_cons (pv 0) pa_nil)) pa_nil)) (pe_callTy call_list_of rfl B.list bt_list (pa_cons (pv 0) pa_nil)))), ?_⟩
    obtain ⟨q, l, rfl, hq, hl, z⟩ := h
    have ll : (tI l).length = l.length := tI_len l
    refine ⟨_, rfl, q, tI l, rfl, hq, (by show 1 ≤ sizeLine; decide), fun p hp => ?_⟩
    have s1 := Same.new (o := .lst [V.int ((tI l).length : Nat)]) hp
    refine ⟨_, rfl, q, tI l, rfl, hq.elim (fun h => .inl (s1.seq h)) (fun h => .inr (s1.tup h)), fun r hr' => ?_⟩
    have s2 := Same.new (o := .lst (tI l)) hr'
    refine ⟨p, r, _, _, rfl, rfl, s2 _ _ upd_same, upd_same, ?_, fun u hu => ?_⟩
    · rw [ll]
      exact small_line (by show 1 + l.length ≤ 1000000; omega)
    · have s3 := Same.new (o := .lst ([V.int ((tI l).length : Nat)] ++ tI l)) hu
      refine z _ u ((s1.trans s2).trans s3) ((s1.trans s2).free hu) ?_
      rw [upd_same, ll]
      rfl
end
end Rf
/-! ## RfW21 -/
namespace Rf
open PySem PySem.Spec PyProof.Rows L2
/-! ### methods that may raise -/
section
variable {X : Cx} {CX : CXT} {j k : Nat} {C : Addr} {sp : Sp} {E : L2.St → XK} {m x : Str} {ps : List Str} {pos apos p : Pos} {e o : Expr} {es : List Expr} {ta : TE} {t : TA} {pl : Sem Bool}
def tMethS (C : Addr) (m : Str) (sp : Sp) (E : L2.St → XK) (ta : TE) (t : TA) : TE := fun σ H Q => ta σ H fun x H1 => ∃ a dx fs, x = .ref a ∧ H1 a = some (.ins C dx fs) ∧ fs.lookup m = none ∧ t σ H1 fun vs H2 => sp (x :: vs) H2 Q (E σ)
theorem pe_mS (c : Cls X.K C) (M : Met X.prog X.w X.K X.mg X.base CX k C m ps sp) (hr : Room j X.A) (hx : ∀ σ, PassesAt CX X σ (E σ)) (he : PE X o ta) (ha : PA X (e :: es) t) (hk : k ≤ j := by decide)
    (hst : starEach (e :: es) X.env = (false, eval e X.env) :: starEach es X.env := by rfl) (hpl : (backTo pos (starEach es X.env)).any (·.1) = false := by rfl)
    (ht : eval (.Call (.Attribute o m apos) (e :: es) [] pos) X.env = (do
      let ov ← eval o X.env
      standAt apos.atName
      let (f, first) ← holding [ov] (getMethod ov m pl)
      callWith pos f first (backTo pos (starEach (e :: es) X.env)) (backToKw pos (keywordEach [] X.env))) := by rfl) :
    PE X (.Call (.Attribute o m apos) (e :: es) [] pos) (tMethS C m sp E ta t) := by
  obtain ⟨f, fd, G, hm, b⟩ := M.ex
  refine ⟨fun pins s σ H Q I h => ?_⟩
  refine PySem.W.methodCall_KW (pl := pl) (thn (he.run pins s σ H _ I h) fun u s1 ⟨x, H1, I1, rx, a, dx, fs, ex, ea, l, q⟩ => ?_) ht
  subst ex
  obtain rfl : u = Value.ref a := rx
  refine getmeth_ok I1 ea c hm l ?_
  refine PySem.W.callWith_K (first := [.ref a]) (h₀ := X.base) I.ok.mod.kin hm.kp (thn (ha.run pos pins s1 σ H1 _ I1 q) fun us s2 ⟨vs, H2, I2, r, q2⟩ => ⟨I2.kIn, ?_⟩) hst hpl
  exact run_fnS (us := .ref a :: us) (vs := .ref a :: vs) G (hr.mono hk) b (hx σ) I2 (.cons rfl r) q2
theorem pe_mS0 (c : Cls X.K C) (M : Met X.prog X.w X.K X.mg X.base CX k C m ps sp) (hr : Room j X.A) (hx : ∀ σ, PassesAt CX X σ (E σ)) (he : PE X o ta) (hk : k ≤ j := by decide)
    (ht : eval (.Call (.Attribute o m apos) [] [] pos) X.env = (do
      let ov ← eval o X.env
      standAt apos.atName
      let (f, first) ← holding [ov] (getMethod ov m pl)
      callWith pos f first (backTo pos (starEach [] X.env)) (backToKw pos (keywordEach [] X.env))) := by rfl) :
    PE X (.Call (.Attribute o m apos) [] [] pos) (tMethS C m sp E ta tNil) := by
  obtain ⟨f, fd, G, hm, b⟩ := M.ex
  refine ⟨fun pins s σ H Q I h => ?_⟩
  refine PySem.W.methodCall_KW (pl := pl) (thn (he.run pins s σ H _ I h) fun u s1 ⟨x, H1, I1, rx, a, dx, fs, ex, ea, l, q⟩ => ?_) ht
  subst ex
  obtain rfl : u = Value.ref a := rx
  refine getmeth_ok I1 ea c hm l ?_
  exact PySem.W.callWith_K0 (first := [.ref a]) I1.kIn hm.kp (run_fnS (us := [.ref a]) (vs := [.ref a]) G (hr.mono hk) b (hx σ) I1 (.cons rfl .nil) q)
theorem pe_cS (Ca : Cal X.prog X.w X.K X.mg X.base CX k x ps sp) (hr : Room j X.A) (hx : ∀ σ, PassesAt CX X σ (E σ)) (ha : PA X (e :: es) t) (hk : k ≤ j := by decide) (hg : Gl X x := by rfl)
    (hdb : (x == ("__debug__" : Str)) = false := by decide) (he : starEach (e :: es) X.env = (false, eval e X.env) :: starEach es X.env := by rfl) (hpl : (backTo pos (starEach es X.env)).any (·.1) = false := by rfl) :
    PE X (.Call (.Name x p) (e :: es) [] pos) (tCallS sp E t) := by
  obtain ⟨f, fd, G, g, kp, b⟩ := Ca.ex
  exact pe_callS G (hr.mono hk) hg g kp b hx ha hdb he hpl
end
/-! ### the class Desk -/
structure DeskTxt (K : PySem.W.Frag) (mg : Str → Option Value) (C : Addr) : Prop where
  cl : Cls K C
  gC : mg "Desk" = some (.ref C)
  nC : NoAttr K C "case"
  nM : NoAttr K C "moves"
  nB : NoAttr K C "marked"
  nN : NoAttr K C "now"
abbrev dKeys : List Str := ["case", "moves", "marked", "now"]
def dF (vc : V) (m b : Nat) (nw : Addr) : List (Str × V) := [("case", vc), ("moves", .int m), ("marked", .int b), ("now", .ref nw)]
section
variable {vc : V} {m b : Nat} {nw : Addr}
theorem dF_C : (dF vc m b nw).lookup ("case" : Str) = some vc := lookup_at 0 rfl rfl
theorem dF_M : (dF vc m b nw).lookup ("moves" : Str) = some (.int m) := lookup_at 1 rfl (by show notIn "moves" (dKeys.take 1) = true; decide +kernel)
theorem dF_B : (dF vc m b nw).lookup ("marked" : Str) = some (.int b) := lookup_at 2 rfl (by show notIn "marked" (dKeys.take 2) = true; decide +kernel)
theorem dF_N : (dF vc m b nw).lookup ("now" : Str) = some (.ref nw) := lookup_at 3 rfl (by show notIn "now" (dKeys.take 3) = true; decide +kernel)
theorem dF_none {f : Str} (h : notIn f dKeys = true) : (dF vc m b nw).lookup f = none := lookup_none h
end
/-- a desk on which a case lies -/
structure DeskR (P : Program) (w : World) (K : PySem.W.Frag) (CD CC : Addr) (H : Hp) (a : Addr) (s : Dsk) (n e k : Nat) (dx ca nw : Addr) (d : CaseD) : Prop where
  obj : H a = some (.ins CD dx (dF (.ref ca) s.moves s.marked nw))
  cs : CaseR P w K CC H ca n e k d
  nw : SqT K H nw (tN s.now)
  eq : s.case = some (n, e, k)
  rule : RuleOk n e k s.now
  mv : s.moves ≤ 2
  mb : s.marked < 2 ^ (allNames n k).length
/-- what is kept but the desk and the dicts -/
structure KpB (a : Addr) (H H' : Hp) : Prop where
  keep : ∀ b o, H b = some o → calmO o = true → b ≠ a → H' b = some o
  free : ∀ b, H' b = none → H b = none
theorem KpB.of {a : Addr} {H H' : Hp} (s : Kp H H') : KpB a H H' := ⟨fun b o e c _ => s.keep b o e c, s.free⟩
theorem KpB.trans {a : Addr} {H H1 H2 : Hp} (x : KpB a H H1) (y : KpB a H1 H2) : KpB a H H2 := ⟨fun b o e c n => y.keep b o (x.keep b o e c n) c n, fun b e => x.free b (y.free b e)⟩
theorem DeskR.same {P : Program} {w : World} {K : PySem.W.Frag} {CD CC : Addr} {H H' : Hp} {a : Addr} {s : Dsk} {n e k : Nat} {dx ca nw : Addr} {d : CaseD} (h : DeskR P w K CD CC H a s n e k dx ca nw d) (q : Same H H') : DeskR P w K CD CC H' a s n e k dx ca nw d :=
  ⟨q _ _ h.obj, h.cs.same q, q.tup h.nw, h.eq, h.rule, h.mv, h.mb⟩
/-- the ways out of a method of the desk -/
def DEnds (P : Program) (w : World) (K : PySem.W.Frag) (CD CC R : Addr) (H : Hp) (a : Addr) (s : Dsk) (n e k : Nat) (out : Out) (Q : VK) (E : XK) : Prop := match out with
  | .ok (s', l) => ∀ H' q dx ca nw d, KpB a H H' → DeskR P w K CD CC H' a s' n e k dx ca nw d → H q = none → H' q = some (.lst (tI l)) → Q (.ref q) H'
  | .error z => ∀ H' dd dx ca nw d, KpB a H H' → DeskR P w K CD CC H' a s n e k dx ca nw d → H' dd = some (.xd (xN z)) → E (.ref R) (some dd) H'
section
variable {P : Program} {w : World} {K : PySem.W.Frag} {mg : Str → Option Value} {base : Heap} {CD CC R : Addr}
/-- need_name(i), need_view(v): no more than a refusal -/
def spNeedN (P : Program) (w : World) (K : PySem.W.Frag) (CD CC R : Addr) : Sp := fun vs H Q E => ∃ (a : Addr) (s : Dsk) (n e k i : Nat) (dx ca nw : Addr) (d : CaseD), vs = [.ref a, .int i] ∧ DeskR P w K CD CC H a s n e k dx ca nw d ∧
  ((allNames n k).length ≤ i → ∀ H' dd, Same H H' → H' dd = some (.xd (xN (-2))) → E (.ref R) (some dd) H') ∧ (i < (allNames n k).length → Q .non H)
abbrev sNeedN : Stmt := inClass (top 42) 2
theorem sc_needN : FnScope ["self", "i"] ["self", "i"] (defScope sNeedN) := ⟨rfl, rfl, rfl, by decide +kernel, rfl, by decide +kernel, by decide +kernel⟩
theorem ok_needN (B : Bts mg) (Cc : Csts mg) (T : DeskTxt K mg CD) (TC : CaseTxt K mg CC) (D : MDef K CD "need_name" "Desk.need_name" sNeedN ["self", "i"]) (Cr : Cal P w K mg base (L2.CX P w) 3 "refuse" ["bad", "number"] (spRefuse R)) :
    Met P w K mg base (L2.CX P w) 4 CD "need_name" ["self", "i"] (spNeedN P w K CD CC R) := by
  refine D.met fun f fd F => F.okX sc_needN (fun vs H Q E h => ?_) (fun cdv A outer s H vs Q E hr h => ?_)
  · obtain ⟨a, s, n, e, k, i, dx, ca, nw, d, rfl, _⟩ := h
    rfl
  · refine ⟨_, pss_one (ps_expr (pe_cS (E := WE (fun cls d _ H => E cls d H)) Cr hr (fun σ => passAt (takes_of rfl rfl rfl rfl) σ) (pa_cons (pe_cmpR op_ge (pv 1) (pe_callB call_len_seq rfl B.len bt_len (pa_cons (pe_fld (pe_fld (pv 0) rfl) rfl) pa_nil)) (nomark _)) (pa_cons (pe_gi Cc.such) pa_nil)))), ?_⟩
    obtain ⟨a, s, n, e, k, i, dx, ca, nw, d, rfl, h, kE, kQ⟩ := h
    obtain ⟨nps, hnl, hnt⟩ := h.cs.st.nm
    have hl : (List.map V.ref nps).length = (allNames n k).length := by rw [List.length_map, hnt.length]
    refine ⟨_, rfl, _, rfl, a, CD, dx, _, _, rfl, h.obj, T.cl, T.nC, dF_C, ca, CC, d.dx, _, _, rfl, h.cs.st.obj, TC.cl, TC.nN, cF_N, _, _, rfl, .inl (.of hnl), _, _, rfl, rfl, _, _, rfl, fun hb => ?_, fun hb => ?_⟩
    · have hb := of_decide_eq_true hb
      exact fun H' dd s' hd => kE (by omega) H' dd s' hd
    · have hb := of_decide_eq_false hb
      exact kQ (by omega)
end
end Rf
/-! ## RfW22 -/
namespace Rf
open PySem PySem.Spec PyProof.Rows L2
theorem put_here {f : Str} {v x : V} {r : List (Str × V)} : putF f v ((f, x) :: r) = (f, v) :: r := if_pos rfl
theorem put_past {f g : Str} {v x : V} {r : List (Str × V)} (h : ¬ g = f) : putF f v ((g, x) :: r) = (g, x) :: putF f v r := if_neg h
section
variable {vc v' : V} {m m' b b' : Nat} {nw nw' : Addr}
theorem dF_putC : putF ("case" : Str) v' (dF vc m b nw) = dF v' m b nw := put_here
theorem dF_putM : putF ("moves" : Str) (.int (m' : Nat)) (dF vc m b nw) = dF vc m' b nw := (put_past (by decide +kernel)).trans (congrArg _ put_here)
theorem dF_putB : putF ("marked" : Str) (.int (b' : Nat)) (dF vc m b nw) = dF vc m b' nw := (put_past (by decide +kernel)).trans (congrArg _ ((put_past (by decide +kernel)).trans (congrArg _ put_here)))
theorem dF_putN : putF ("now" : Str) (.ref nw') (dF vc m b nw) = dF vc m b nw' :=
  (put_past (by decide +kernel)).trans (congrArg _ ((put_past (by decide +kernel)).trans (congrArg _ ((put_past (by decide +kernel)).trans (congrArg _ put_here)))))
end
theorem KpB.put {a : Addr} {H H' : Hp} {o o' : HO} (x : KpB a H H') (h : H' a = some o') : KpB a H (upd H' a o) := ⟨fun b u e c n => by rw [upd_ne n]; exact x.keep b u e c n, fun b e => by
  by_cases z : b = a
  · rw [z, upd_same] at e; cases e
  · rw [upd_ne z] at e; exact x.free b e⟩
section
variable {P : Program} {w : World} {K : PySem.W.Frag} {CD CC : Addr} {H : Hp} {a : Addr}
theorem CaseR.over {ca : Addr} {n e k : Nat} {d : CaseD} {dx nw : Addr} {vc : V} {m b : Nat} {o : HO} (c : CaseR P w K CC H ca n e k d) (ha : H a = some (.ins CD dx (dF vc m b nw))) : CaseR P w K CC (upd H a o) ca n e k d := by
  have q := c.st
  have nca : ca ≠ a := fun z => by
    have h := q.obj
    rw [z, ha] at h
    have h : dF vc m b nw = cF n e k d.an d.av d.ah d.asd d.dk d.dg := by
      injection h with h
      injection h
    have l := congrArg List.length h
    simp [dF, cF] at l
  refine ⟨⟨by rw [upd_ne nca]; exact q.obj, lsT_over ha q.nm, lsT_over ha q.vw, lst_over ha q.hd, lns_over ha q.hdl, lst_over ha q.sd, lis_over ha q.sdl, q.good, q.e2⟩, ?_, fun x hx => ?_, c.kok, ?_, fun m' v h => ?_, c.gks, c.gnd⟩
  · rw [upd_ne (fun z => by have := c.kn; rw [z, ha] at this; cases this)]
    exact c.kn
  · obtain ⟨b', h1, h2⟩ := c.kin x hx
    exact ⟨b', by rw [upd_ne (fun z => by rw [z, ha] at h1; cases h1)]; exact h1, by rw [upd_ne (fun z => by rw [z, ha] at h2; cases h2)]; exact h2⟩
  · rw [upd_ne (fun z => by have := c.ga; rw [z, ha] at this; cases this)]
    exact c.ga
  · obtain ⟨mm, q', h1, h2, h3, h4⟩ := c.gok m' v h
    exact ⟨mm, q', h1, h2, h3, lst_over ha h4⟩
theorem DeskR.set {s s' : Dsk} {n e k : Nat} {dx ca nw nw' : Addr} {d : CaseD} (h : DeskR P w K CD CC H a s n e k dx ca nw d) (hc : s'.case = s.case) (hw : SqT K H nw' (tN s'.now)) (hr : RuleOk n e k s'.now) (hm : s'.moves ≤ 2) (hb : s'.marked < 2 ^ (allNames n k).length) :
    DeskR P w K CD CC (upd H a (.ins CD dx (dF (.ref ca) s'.moves s'.marked nw'))) a s' n e k dx ca nw' d :=
  ⟨upd_same, h.cs.over h.obj, tup_over hw h.obj, hc.trans h.eq, hr, hm, hb⟩
end
section
variable {P : Program} {w : World} {K : PySem.W.Frag} {mg : Str → Option Value} {base : Heap} {CD CC R : Addr}
def spNeedV (P : Program) (w : World) (K : PySem.W.Frag) (CD CC R : Addr) : Sp := fun vs H Q E => ∃ (a : Addr) (s : Dsk) (n e k i : Nat) (dx ca nw : Addr) (d : CaseD), vs = [.ref a, .int i] ∧ DeskR P w K CD CC H a s n e k dx ca nw d ∧
  ((allViews (allNames n k) e).length ≤ i → ∀ H' dd, Same H H' → H' dd = some (.xd (xN (-2))) → E (.ref R) (some dd) H') ∧ (i < (allViews (allNames n k) e).length → Q .non H)
abbrev sNeedV : Stmt := inClass (top 42) 3
theorem sc_needV : FnScope ["self", "v"] ["self", "v"] (defScope sNeedV) := ⟨rfl, rfl, rfl, by decide +kernel, rfl, by decide +kernel, by decide +kernel⟩
theorem ok_needV (B : Bts mg) (Cc : Csts mg) (T : DeskTxt K mg CD) (TC : CaseTxt K mg CC) (D : MDef K CD "need_view" "Desk.need_view" sNeedV ["self", "v"]) (Cr : Cal P w K mg base (L2.CX P w) 3 "refuse" ["bad", "number"] (spRefuse R)) :
    Met P w K mg base (L2.CX P w) 4 CD "need_view" ["self", "v"] (spNeedV P w K CD CC R) := by
  refine D.met fun f fd F => F.okX sc_needV (fun vs H Q E h => ?_) (fun cdv A outer s H vs Q E hr h => ?_)
  · obtain ⟨a, s, n, e, k, i, dx, ca, nw, d, rfl, _⟩ := h
    rfl
  · refine ⟨_, pss_one (ps_expr (pe_cS (E := WE (fun cls d _ H => E cls d H)) Cr hr (fun σ => passAt (takes_of rfl rfl rfl rfl) σ) (pa_cons (pe_cmpR op_ge (pv 1) (pe_callB call_len_seq rfl B.len bt_len (pa_cons (pe_fld (pe_fld (pv 0) rfl) rfl) pa_nil)) (nomark _)) (pa_cons (pe_gi Cc.such) pa_nil)))), ?_⟩
    obtain ⟨a, s, n, e, k, i, dx, ca, nw, d, rfl, h, kE, kQ⟩ := h
    obtain ⟨nps, hnl, hnt⟩ := h.cs.st.vw
    have hl : (List.map V.ref nps).length = (allViews (allNames n k) e).length := by rw [List.length_map, hnt.length]
    refine ⟨_, rfl, _, rfl, a, CD, dx, _, _, rfl, h.obj, T.cl, T.nC, dF_C, ca, CC, d.dx, _, _, rfl, h.cs.st.obj, TC.cl, TC.nV, cF_V, _, _, rfl, .inl (.of hnl), _, _, rfl, rfl, _, _, rfl, fun hb => ?_, fun hb => ?_⟩
    · have hb := of_decide_eq_true hb
      exact fun H' dd s' hd => kE (by omega) H' dd s' hd
    · have hb := of_decide_eq_false hb
      exact kQ (by omega)
/-! set_moves -/
def spSetM (P : Program) (w : World) (K : PySem.W.Frag) (CD CC R : Addr) : Sp := fun vs H Q E => ∃ (a : Addr) (s : Dsk) (n e k m : Nat) (dx ca nw : Addr) (d : CaseD), vs = [.ref a, .int m] ∧ DeskR P w K CD CC H a s n e k dx ca nw d ∧ DEnds P w K CD CC R H a s n e k (dSet s m) Q E
abbrev sSetM : Stmt := inClass (top 42) 4
abbrev nSetM : List Str := ["self", "moves", "elder"]
theorem sc_setM : FnScope nSetM ["self", "moves"] (defScope sSetM) := ⟨rfl, rfl, rfl, by decide +kernel, rfl, by decide +kernel, by decide +kernel⟩
theorem ok_setM (Cc : Csts mg) (T : DeskTxt K mg CD) (D : MDef K CD "set_moves" "Desk.set_moves" sSetM ["self", "moves"]) (Cr : Cal P w K mg base (L2.CX P w) 3 "refuse" ["bad", "number"] (spRefuse R)) :
    Met P w K mg base (L2.CX P w) 4 CD "set_moves" ["self", "moves"] (spSetM P w K CD CC R) := by
  refine D.met fun f fd F => F.okX sc_setM (fun vs H Q E h => ?_) (fun cdv A outer s H vs Q E hr h => ?_)
  · obtain ⟨a, s, n, e, k, m, dx, ca, nw, d, rfl, _⟩ := h
    rfl
  · have nd := sc_setM.nd
    refine ⟨_, pss_cons (ps_expr (pe_cS (E := WE (fun cls d _ H => E cls d H)) Cr hr (fun σ => passAt (takes_of rfl rfl rfl rfl) σ) (pa_cons (pe_cmpR op_gt (pv 1) (pe_gi Cc.moves) (nomark _)) (pa_cons (pe_gi Cc.num) pa_nil))))
      (pss_cons (ps_set (i := 2) nd rfl (Or.inl rfl) (pe_fld (pv 0) rfl)) (pss_cons (ps_fld (pv 0) (pv 1) rfl) (pss_one (ps_ret (pe_lst (pa_cons (pv 2) pa_nil)))))), ?_⟩
    obtain ⟨a, s, n, e, k, m, dx, ca, nw, d, rfl, h, z⟩ := h
    unfold dSet at z
    refine ⟨_, rfl, _, _, rfl, rfl, _, _, rfl, fun hb => ?_, fun hb => ?_⟩
    · have hb := of_decide_eq_true hb
      rw [if_pos (by omega)] at z
      exact fun H' dd s' hd => z H' dd dx ca nw d (.of s'.kp) (h.same s') hd
    · have hb := of_decide_eq_false hb
      rw [if_neg (by omega)] at z
      refine ⟨_, rfl, a, CD, dx, _, _, rfl, h.obj, T.cl, T.nM, dF_M, ?_⟩
      refine ⟨_, rfl, _, rfl, a, CD, dx, _, rfl, h.obj, T.cl, T.nM, (by show 4 < 1000; decide), ?_⟩
      have h2 := h.set (s' := { s with moves := m }) (nw' := nw) rfl h.nw h.rule (by show m ≤ 2; omega) h.mb
      refine ⟨_, rfl, (by show 1 ≤ sizeLine; decide), fun q hq => ?_⟩
      have e2 : upd H a (.ins CD dx (putF ("moves" : Str) (V.int (m : Nat)) (dF (.ref ca) s.moves s.marked nw))) = upd H a (.ins CD dx (dF (.ref ca) m s.marked nw)) := by rw [dF_putM]
      rw [e2] at hq ⊢
      have kb : KpB a H (upd H a (.ins CD dx (dF (.ref ca) m s.marked nw))) := (KpB.of (Kp.refl H)).put h.obj
      exact z _ q dx ca nw d (kb.trans (.of (Same.new hq).kp)) (h2.same (Same.new hq)) (kb.free q hq) upd_same
end
end Rf
/-! ## RfW23 -/
namespace Rf
open PySem PySem.Spec PyProof.Rows L2
section
variable {P : Program} {w : World} {K : PySem.W.Frag} {mg : Str → Option Value} {base : Heap} {CD CC R : Addr}
def spNm (P : Program) (w : World) (K : PySem.W.Frag) (CD CC R : Addr) : Sp := fun vs H Q E => ∃ (a : Addr) (s : Dsk) (n e k i : Nat) (dx ca nw : Addr) (d : CaseD), vs = [.ref a, .int i] ∧ DeskR P w K CD CC H a s n e k dx ca nw d ∧ DEnds P w K CD CC R H a s n e k (dName s n k i) Q E
abbrev sNm : Stmt := inClass (top 42) 5
theorem sc_nm : FnScope ["self", "i"] ["self", "i"] (defScope sNm) := ⟨rfl, rfl, rfl, by decide +kernel, rfl, by decide +kernel, by decide +kernel⟩
theorem ok_nm (T : DeskTxt K mg CD) (TC : CaseTxt K mg CC) (D : MDef K CD "name" "Desk.name" sNm ["self", "i"]) (Mn : Met P w K mg base (L2.CX P w) 4 CD "need_name" ["self", "i"] (spNeedN P w K CD CC R)) (Co : Cal P w K mg base CX0 1 "counted" ["row"] (spCounted K)) :
    Met P w K mg base (L2.CX P w) 5 CD "name" ["self", "i"] (spNm P w K CD CC R) := by
  refine D.met fun f fd F => F.okX sc_nm (fun vs H Q E h => ?_) (fun cdv A outer s H vs Q E hr h => ?_)
  · obtain ⟨a, s, n, e, k, i, dx, ca, nw, d, rfl, _⟩ := h
    rfl
  · refine ⟨_, pss_cons (ps_expr (pe_mS (E := WE (fun cls d _ H => E cls d H)) T.cl Mn hr (fun σ => passAt (takes_of rfl rfl rfl rfl) σ) (pv 0) (pa_cons (pv 1) pa_nil)))
      (pss_one (ps_ret (pe_c Co hr (pa_cons (pe_ix ix_list (pe_fld (pe_fld (pv 0) rfl) rfl) (pv 1) (fun _ _ => rfl)) pa_nil)))), ?_⟩
    obtain ⟨a, s, n, e, k, i, dx, ca, nw, d, rfl, h, z⟩ := h
    unfold dName at z
    refine ⟨_, rfl, a, dx, _, rfl, h.obj, dF_none (by decide +kernel), _, rfl, a, s, n, e, k, i, dx, ca, nw, d, rfl, h, fun hi => ?_, fun hi => ?_⟩
    · rw [if_pos hi] at z
      exact fun H' dd s' hd => z H' dd dx ca nw d (.of s'.kp) (h.same s') hd
    · rw [if_neg (by omega)] at z
      obtain ⟨nps, hnl, hnt⟩ := h.cs.st.nm
      obtain ⟨p, hp⟩ : ∃ p, nps[i]? = some p := ⟨nps[i]'(by rw [hnt.length]; exact hi), List.getElem?_eq_getElem _⟩
      obtain ⟨r, hr0, hpt⟩ := Paired.at hnt i p hp
      have hlen := (names_ok h.cs.st.good (List.mem_of_getElem? hr0)).len
      have hn7 := h.cs.st.good.n7
      rw [getD_of hr0] at z
      refine ⟨_, rfl, a, CD, dx, _, _, rfl, h.obj, T.cl, T.nC, dF_C, ca, CC, d.dx, _, _, rfl, h.cs.st.obj, TC.cl, TC.nN, cF_N, _, rfl, d.an, _, _, _, rfl, rfl, .of hnl, atI_nat (by rw [List.getElem?_map, hp]; rfl), p, r, rfl, .inr hpt, by omega, fun H' q s' fq hq => ?_⟩
      exact z H' q dx ca nw d (.of s'.kp) (h.same s') fq hq
def spVw (P : Program) (w : World) (K : PySem.W.Frag) (CD CC R : Addr) : Sp := fun vs H Q E => ∃ (a : Addr) (s : Dsk) (n e k i : Nat) (dx ca nw : Addr) (d : CaseD), vs = [.ref a, .int i] ∧ DeskR P w K CD CC H a s n e k dx ca nw d ∧ DEnds P w K CD CC R H a s n e k (dView s n e k i) Q E
abbrev sVw : Stmt := inClass (top 42) 6
theorem sc_vw : FnScope ["self", "v", "row"] ["self", "v"] (defScope sVw) := ⟨rfl, rfl, rfl, by decide +kernel, rfl, by decide +kernel, by decide +kernel⟩
theorem ok_vw (B : Bts mg) (T : DeskTxt K mg CD) (TC : CaseTxt K mg CC) (D : MDef K CD "view" "Desk.view" sVw ["self", "v"]) (Mn : Met P w K mg base (L2.CX P w) 4 CD "need_view" ["self", "v"] (spNeedV P w K CD CC R)) (Ce : Cal P w K mg base CX0 1 "is_even_handed" ["row"] (spEven K)) :
    Met P w K mg base (L2.CX P w) 5 CD "view" ["self", "v"] (spVw P w K CD CC R) := by
  refine D.met fun f fd F => F.okX sc_vw (fun vs H Q E h => ?_) (fun cdv A outer s H vs Q E hr h => ?_)
  · obtain ⟨a, s, n, e, k, i, dx, ca, nw, d, rfl, _⟩ := h
    rfl
  · have nd := sc_vw.nd
    refine ⟨_, pss_cons (ps_expr (pe_mS (E := WE (fun cls d _ H => E cls d H)) T.cl Mn hr (fun σ => passAt (takes_of rfl rfl rfl rfl) σ) (pv 0) (pa_cons (pv 1) pa_nil)))
      (pss_cons (ps_set (i := 2) nd rfl (Or.inl rfl) (pe_ix ix_list (pe_fld (pe_fld (pv 0) rfl) rfl) (pv 1) (fun _ _ => rfl)))
      (pss_one (ps_ret (pe_op op_cat (pe_lst (pa_cons (pe_callTy call_int1 rfl B.int bt_int (pa_cons (pe_c Ce hr (pa_cons (pv 2) pa_nil)) pa_nil)) pa_nil)) (pe_callTy call_list_of rfl B.list bt_list (pa_cons (pv 2) pa_nil)))))), ?_⟩
    obtain ⟨a, s, n, e, k, i, dx, ca, nw, d, rfl, h, z⟩ := h
    unfold dView at z
    refine ⟨_, rfl, a, dx, _, rfl, h.obj, dF_none (by decide +kernel), _, rfl, a, s, n, e, k, i, dx, ca, nw, d, rfl, h, fun hi => ?_, fun hi => ?_⟩
    · rw [if_pos hi] at z
      exact fun H' dd s' hd => z H' dd dx ca nw d (.of s'.kp) (h.same s') hd
    · rw [if_neg (by omega)] at z
      obtain ⟨nps, hnl, hnt⟩ := h.cs.st.vw
      obtain ⟨p, hp⟩ : ∃ p, nps[i]? = some p := ⟨nps[i]'(by rw [hnt.length]; exact hi), List.getElem?_eq_getElem _⟩
      obtain ⟨r, hr0, hpt⟩ := Paired.at hnt i p hp
      have hlen := (view_row h.cs.st.good hr0).1
      have hn7 := h.cs.st.good.n7
      rw [getD_of hr0] at z
      refine ⟨_, rfl, a, CD, dx, _, _, rfl, h.obj, T.cl, T.nC, dF_C, ca, CC, d.dx, _, _, rfl, h.cs.st.obj, TC.cl, TC.nV, cF_V, _, rfl, d.av, _, _, _, rfl, rfl, .of hnl, atI_nat (by rw [List.getElem?_map, hp]; rfl), ?_⟩
      refine ⟨_, rfl, p, r, rfl, hpt, by omega, fun H1 s1 => .inr ⟨_, rfl, (by show 1 ≤ sizeLine; decide), fun q1 hq1 => ?_⟩⟩
      have s2 := s1.trans (Same.new (o := .lst [V.int (b2i (isEven r))]) hq1)
      refine ⟨_, rfl, p, tI r, rfl, .inr (s2.tup hpt), fun q2 hq2 => ?_⟩
      have s3 := s2.trans (Same.new (o := .lst (tI r)) hq2)
      refine ⟨q1, q2, _, _, rfl, rfl, (Same.new hq2) _ _ upd_same, upd_same, ?_, fun q3 hq3 => ?_⟩
      · rw [tI_len]
        exact small_line (by show 1 + r.length ≤ 1000000; omega)
      · have s4 := s3.trans (Same.new (o := .lst ([V.int (b2i (isEven r))] ++ tI r)) hq3)
        refine z _ q3 dx ca nw d (.of s4.kp) (h.same s4) (s3.free hq3) ?_
        rw [upd_same]
        cases isEven r <;> rfl
end
end Rf
/-! ## RfW24 -/
namespace Rf
open PySem PySem.Spec PyProof.Rows L2
theorem bit_one (b i : Nat) : Builtin.bitAnd ((b : Int) / 2 ^ ((i : Int)).toNat) 1 = if b.testBit i = true then 1 else 0 := by
  rw [shr_nat]
  have h := and_nat (b / 2 ^ i) 1
  have h' : Builtin.bitAnd ((b / 2 ^ i : Nat) : Int) 1 = (((b / 2 ^ i) &&& 1 : Nat) : Int) := h
  rw [h', and_one]
  split <;> rfl
theorem bit_test (b i : Nat) : decide (V.int (Builtin.bitAnd ((b : Int) / 2 ^ ((i : Int)).toNat) 1) = V.int 1) = b.testBit i := by
  rw [dec_eq, bit_one]
  cases b.testBit i <;> simp
theorem bit_test0 (b i : Nat) : decide (V.int (Builtin.bitAnd ((b : Int) / 2 ^ ((i : Int)).toNat) 1) = V.int 0) = !b.testBit i := by
  rw [dec_eq, bit_one]
  cases b.testBit i <;> simp
theorem add_bit0 : ((List.range 9).all fun L => (List.range (2 ^ L)).all fun m => (List.range L).all fun i => m.testBit i || decide (m + 2 ^ i < 2 ^ L)) = true := by decide +kernel
theorem add_bit {L m i : Nat} (hL : L ≤ 8) (hm : m < 2 ^ L) (hi : i < L) (h : m.testBit i = false) : m + 2 ^ i < 2 ^ L := by
  have z := add_bit0
  rw [List.all_eq_true] at z
  have z := z L (List.mem_range.mpr (by omega))
  rw [List.all_eq_true] at z
  have z := z m (List.mem_range.mpr hm)
  rw [List.all_eq_true] at z
  have z := z i (List.mem_range.mpr hi)
  rw [h, Bool.false_or] at z
  exact of_decide_eq_true z
theorem small_bits {L m : Nat} (hL : L ≤ 8) (hm : m < 2 ^ L) : m < 2 ^ 50 := Nat.lt_of_lt_of_le hm (Nat.pow_le_pow_right (by decide) (by omega))
section
variable {P : Program} {w : World} {K : PySem.W.Frag} {mg : Str → Option Value} {base : Heap} {CD CC R : Addr}
/-- put_marks: never raises -/
def spPut (P : Program) (w : World) (K : PySem.W.Frag) (CD CC : Addr) : Sp := fun vs H Q _ => ∃ (a : Addr) (s : Dsk) (n e k b : Nat) (dx ca nw : Addr) (d : CaseD), vs = [.ref a, .int b] ∧ DeskR P w K CD CC H a s n e k dx ca nw d ∧ b < 2 ^ (allNames n k).length ∧
  ∀ H' q dx ca nw d, KpB a H H' → DeskR P w K CD CC H' a (putMarks s b).1 n e k dx ca nw d → H q = none → H' q = some (.lst (tI (putMarks s b).2)) → Q (.ref q) H'
abbrev sPut : Stmt := inClass (top 42) 8
theorem sc_put : FnScope ["self", "bits"] ["self", "bits"] (defScope sPut) := ⟨rfl, rfl, rfl, by decide +kernel, rfl, by decide +kernel, by decide +kernel⟩
theorem ok_put (B : Bts mg) (T : DeskTxt K mg CD) (D : MDef K CD "put_marks" "Desk.put_marks" sPut ["self", "bits"]) (Cm : Cal P w K mg base CX0 1 "members" ["bits"] (spMembers K)) : Met P w K mg base CX0 2 CD "put_marks" ["self", "bits"] (spPut P w K CD CC) := by
  refine D.met fun f fd F => F.ok sc_put (fun vs H Q E h => ?_) (fun cdv A outer s H vs Q E hr h => ?_)
  · obtain ⟨a, s, n, e, k, b, dx, ca, nw, d, rfl, _⟩ := h
    rfl
  · refine ⟨_, pss_cons (ps_fld (pv 0) (pv 1) rfl) (pss_one (ps_ret (pe_lst (pa_cons (pe_callB call_len_seq rfl B.len bt_len (pa_cons (pe_c Cm hr (pa_cons (pv 1) pa_nil)) pa_nil)) pa_nil)))), ?_⟩
    obtain ⟨a, s, n, e, k, b, dx, ca, nw, d, rfl, h, hb, z⟩ := h
    have h8 := (names_few h.cs.st.good).2
    refine ⟨_, rfl, _, rfl, a, CD, dx, _, rfl, h.obj, T.cl, T.nB, (by show 4 < 1000; decide), ?_⟩
    have h2 := h.set (s' := { s with marked := b }) (nw' := nw) rfl h.nw h.rule h.mv hb
    have e2 : upd H a (.ins CD dx (putF ("marked" : Str) (V.int (b : Nat)) (dF (.ref ca) s.moves s.marked nw))) = upd H a (.ins CD dx (dF (.ref ca) s.moves b nw)) := by rw [dF_putB]
    have kb : KpB a H (upd H a (.ins CD dx (dF (.ref ca) s.moves b nw))) := (KpB.of (Kp.refl H)).put h.obj
    rw [e2]
    have h2 : DeskR P w K CD CC (upd H a (.ins CD dx (dF (.ref ca) s.moves b nw))) a { s with marked := b } n e k dx ca nw d := h2
    generalize upd H a (.ins CD dx (dF (.ref ca) s.moves b nw)) = H1 at h2 kb ⊢
    refine ⟨_, rfl, b, rfl, small_bits h8 hb, fun H2 q s2 fq hq => ⟨q, _, rfl, .inl (.of hq), (by show 1 ≤ sizeLine; decide), fun r hr' => ?_⟩⟩
    have s3 := s2.trans (Same.new (o := .lst [V.int ((tN (members b)).length : Nat)]) hr')
    refine z _ r dx ca nw d (kb.trans (.of s3.kp)) (h2.same s3) (kb.free r (s2.free hr')) ?_
    rw [upd_same, tN_len]
    rfl
def spMark (P : Program) (w : World) (K : PySem.W.Frag) (CD CC R : Addr) (g : Dsk → Nat → Nat → Nat → Out) : Sp := fun vs H Q E => ∃ (a : Addr) (s : Dsk) (n e k i : Nat) (dx ca nw : Addr) (d : CaseD), vs = [.ref a, .int i] ∧ DeskR P w K CD CC H a s n e k dx ca nw d ∧ DEnds P w K CD CC R H a s n e k (g s n k i) Q E
abbrev sMark : Stmt := inClass (top 42) 9
theorem sc_mark : FnScope ["self", "i"] ["self", "i"] (defScope sMark) := ⟨rfl, rfl, rfl, by decide +kernel, rfl, by decide +kernel, by decide +kernel⟩
theorem ok_mark (Cc : Csts mg) (T : DeskTxt K mg CD) (D : MDef K CD "mark" "Desk.mark" sMark ["self", "i"]) (Mn : Met P w K mg base (L2.CX P w) 4 CD "need_name" ["self", "i"] (spNeedN P w K CD CC R)) (Cr : Cal P w K mg base (L2.CX P w) 3 "refuse" ["bad", "number"] (spRefuse R))
    (Mp : Met P w K mg base CX0 2 CD "put_marks" ["self", "bits"] (spPut P w K CD CC)) : Met P w K mg base (L2.CX P w) 5 CD "mark" ["self", "i"] (spMark P w K CD CC R dMark) := by
  refine D.met fun f fd F => F.okX sc_mark (fun vs H Q E h => ?_) (fun cdv A outer s H vs Q E hr h => ?_)
  · obtain ⟨a, s, n, e, k, i, dx, ca, nw, d, rfl, _⟩ := h
    rfl
  · refine ⟨_, pss_cons (ps_expr (pe_mS (E := WE (fun cls d _ H => E cls d H)) T.cl Mn hr (fun σ => passAt (takes_of rfl rfl rfl rfl) σ) (pv 0) (pa_cons (pv 1) pa_nil)))
      (pss_cons (ps_expr (pe_cS (E := WE (fun cls d _ H => E cls d H)) Cr hr (fun σ => passAt (takes_of rfl rfl rfl rfl) σ) (pa_cons (pe_cmpR op_eq (pe_op op_and (pe_op op_shr (pe_fld (pv 0) rfl) (pv 1)) pe_int) pe_int (nomark _)) (pa_cons (pe_gi Cc.mark) pa_nil))))
      (pss_one (ps_ret (pe_m T.cl Mp hr (pv 0) (pa_cons (pe_op op_add (pe_fld (pv 0) rfl) (pe_op op_shl pe_int (pv 1))) pa_nil))))), ?_⟩
    obtain ⟨a, s, n, e, k, i, dx, ca, nw, d, rfl, h, z⟩ := h
    have h8 := (names_few h.cs.st.good).2
    unfold dMark at z
    refine ⟨_, rfl, a, dx, _, rfl, h.obj, dF_none (by decide +kernel), _, rfl, a, s, n, e, k, i, dx, ca, nw, d, rfl, h, fun hi => ?_, fun hi => ?_⟩
    · rw [if_pos hi] at z
      exact fun H' dd s' hd => z H' dd dx ca nw d (.of s'.kp) (h.same s') hd
    · rw [if_neg (by omega)] at z
      refine ⟨_, rfl, a, CD, dx, _, _, rfl, h.obj, T.cl, T.nB, dF_B, _, rfl, _, _, rfl, rfl, by omega, _, _, rfl, rfl, rfl, _, _, rfl, fun hb => ?_, fun hb => ?_⟩
      · have hb : s.marked.testBit i = true := by rw [← bit_test]; exact hb
        rw [if_pos hb] at z
        exact fun H' dd s' hd => z H' dd dx ca nw d (.of s'.kp) (h.same s') hd
      · have hb : s.marked.testBit i = false := by rw [← bit_test]; exact hb
        rw [if_neg (by rw [hb]; decide)] at z
        have hz := add_bit h8 h.mb hi hb
        have e2 : (s.marked : Int) + 1 * 2 ^ ((i : Int)).toNat = ((s.marked + 2 ^ i : Nat) : Int) := by
          rw [Int.toNat_natCast]
          simp
        refine ⟨_, rfl, a, dx, _, rfl, h.obj, dF_none (by decide +kernel), _, rfl, a, CD, dx, _, _, rfl, h.obj, T.cl, T.nB, dF_B, _, rfl, _, _, rfl, rfl, ⟨by omega, by omega, by decide⟩, _, _, rfl, rfl, a, s, n, e, k, s.marked + 2 ^ i, dx, ca, nw, d, ?_, h, hz, fun H' q dx ca nw d kb h2 fq hq => z H' q dx ca nw d kb h2 fq hq⟩
        show [V.ref a, V.int ((s.marked : Int) + 1 * 2 ^ ((i : Int)).toNat)] = _
        rw [e2]
abbrev sUnmark : Stmt := inClass (top 42) 10
theorem sc_unmark : FnScope ["self", "i"] ["self", "i"] (defScope sUnmark) := ⟨rfl, rfl, rfl, by decide +kernel, rfl, by decide +kernel, by decide +kernel⟩
theorem ok_unmark (Cc : Csts mg) (T : DeskTxt K mg CD) (D : MDef K CD "unmark" "Desk.unmark" sUnmark ["self", "i"]) (Mn : Met P w K mg base (L2.CX P w) 4 CD "need_name" ["self", "i"] (spNeedN P w K CD CC R)) (Cr : Cal P w K mg base (L2.CX P w) 3 "refuse" ["bad", "number"] (spRefuse R))
    (Mp : Met P w K mg base CX0 2 CD "put_marks" ["self", "bits"] (spPut P w K CD CC)) : Met P w K mg base (L2.CX P w) 5 CD "unmark" ["self", "i"] (spMark P w K CD CC R dUnmark) := by
  refine D.met fun f fd F => F.okX sc_unmark (fun vs H Q E h => ?_) (fun cdv A outer s H vs Q E hr h => ?_)
  · obtain ⟨a, s, n, e, k, i, dx, ca, nw, d, rfl, _⟩ := h
    rfl
  · refine ⟨_, pss_cons (ps_expr (pe_mS (E := WE (fun cls d _ H => E cls d H)) T.cl Mn hr (fun σ => passAt (takes_of rfl rfl rfl rfl) σ) (pv 0) (pa_cons (pv 1) pa_nil)))
      (pss_cons (ps_expr (pe_cS (E := WE (fun cls d _ H => E cls d H)) Cr hr (fun σ => passAt (takes_of rfl rfl rfl rfl) σ) (pa_cons (pe_cmpR op_eq (pe_op op_and (pe_op op_shr (pe_fld (pv 0) rfl) (pv 1)) pe_int) pe_int (nomark _)) (pa_cons (pe_gi Cc.unm) pa_nil))))
      (pss_one (ps_ret (pe_m T.cl Mp hr (pv 0) (pa_cons (pe_op op_sub (pe_fld (pv 0) rfl) (pe_op op_shl pe_int (pv 1))) pa_nil))))), ?_⟩
    obtain ⟨a, s, n, e, k, i, dx, ca, nw, d, rfl, h, z⟩ := h
    have h8 := (names_few h.cs.st.good).2
    unfold dUnmark at z
    refine ⟨_, rfl, a, dx, _, rfl, h.obj, dF_none (by decide +kernel), _, rfl, a, s, n, e, k, i, dx, ca, nw, d, rfl, h, fun hi => ?_, fun hi => ?_⟩
    · rw [if_pos hi] at z
      exact fun H' dd s' hd => z H' dd dx ca nw d (.of s'.kp) (h.same s') hd
    · rw [if_neg (by omega)] at z
      refine ⟨_, rfl, a, CD, dx, _, _, rfl, h.obj, T.cl, T.nB, dF_B, _, rfl, _, _, rfl, rfl, by omega, _, _, rfl, rfl, rfl, _, _, rfl, fun hb => ?_, fun hb => ?_⟩
      · have hb : s.marked.testBit i = false := by
          have q : (!s.marked.testBit i) = true := by rw [← bit_test0]; exact hb
          simpa using q
        rw [if_pos hb] at z
        exact fun H' dd s' hd => z H' dd dx ca nw d (.of s'.kp) (h.same s') hd
      · have hb : s.marked.testBit i = true := by
          have q : (!s.marked.testBit i) = false := by rw [← bit_test0]; exact hb
          simpa using q
        rw [if_neg (by rw [hb]; decide)] at z
        have hge : 2 ^ i ≤ s.marked := Nat.ge_two_pow_of_testBit hb
        have e2 : (s.marked : Int) - 1 * 2 ^ ((i : Int)).toNat = ((s.marked - 2 ^ i : Nat) : Int) := by
          rw [Int.toNat_natCast, Int.one_mul]
          have e3 : ((2 ^ i : Nat) : Int) = (2 : Int) ^ i := by simp
          rw [← e3]
          omega
        refine ⟨_, rfl, a, dx, _, rfl, h.obj, dF_none (by decide +kernel), _, rfl, a, CD, dx, _, _, rfl, h.obj, T.cl, T.nB, dF_B, _, rfl, _, _, rfl, rfl, ⟨by omega, by omega, by decide⟩, _, _, rfl, rfl, a, s, n, e, k, s.marked - 2 ^ i, dx, ca, nw, d, ?_, h, Nat.lt_of_le_of_lt (Nat.sub_le _ _) h.mb, fun H' q dx ca nw d kb h2 fq hq => z H' q dx ca nw d kb h2 fq hq⟩
        show [V.ref a, V.int ((s.marked : Int) - 1 * 2 ^ ((i : Int)).toNat)] = _
        rw [e2]
end
end Rf
/-! ## RfW25 -/
namespace Rf
open PySem PySem.Spec PyProof.Rows L2
theorem max_fold : ∀ (l : List Int) (a : Int), a ≤ l.foldl (fun a b => if a < b then b else a) a ∧ (∀ y ∈ l, y ≤ l.foldl (fun a b => if a < b then b else a) a) ∧ (l.foldl (fun a b => if a < b then b else a) a = a ∨ l.foldl (fun a b => if a < b then b else a) a ∈ l)
  | [], a => ⟨Int.le_refl _, (fun _ h => nomatch h), .inl rfl⟩
  | x :: l, a => by
    obtain ⟨h1, h2, h3⟩ := max_fold l (if a < x then x else a)
    rw [List.foldl_cons]
    have ha : a ≤ (if a < x then x else a) := by split <;> omega
    have hx : x ≤ (if a < x then x else a) := by split <;> omega
    refine ⟨Int.le_trans ha h1, fun y hy => ?_, ?_⟩
    · rcases List.mem_cons.mp hy with e | hy
      · rw [e]; exact Int.le_trans hx h1
      · exact h2 y hy
    · rcases h3 with e | h
      · rw [e]
        split
        · exact .inr List.mem_cons_self
        · exact .inl rfl
      · exact .inr (List.mem_cons_of_mem _ h)
theorem maxI_is {l : List Int} {m : Int} (hm : m ∈ l) (h : ∀ y ∈ l, y ≤ m) : maxI l = m := by
  cases l with
  | nil => cases hm
  | cons x l =>
    obtain ⟨h1, h2, h3⟩ := max_fold l x
    show l.foldl (fun a b => if a < b then b else a) x = m
    refine Int.le_antisymm ?_ ?_
    · rcases h3 with e | hin
      · rw [e]; exact h x List.mem_cons_self
      · exact h _ (List.mem_cons_of_mem _ hin)
    · rcases List.mem_cons.mp hm with e | hin
      · rw [e]; exact h1
      · exact h2 m hin
theorem bits_lt (p : Nat → Bool) : ∀ L, bitsOf ((List.range L).filter p) < 2 ^ L
  | 0 => by simp [bitsOf]
  | L + 1 => by
    have ih := bits_lt p L
    rw [List.range_succ, List.filter_append]
    have e : bitsOf ((List.range L).filter p ++ [L].filter p) = bitsOf ((List.range L).filter p) + bitsOf ([L].filter p) := by
      unfold bitsOf
      rw [List.map_append, List.sum_append]
    rw [e, Nat.pow_succ]
    by_cases c : p L = true
    · have e2 : [L].filter p = [L] := by simp [List.filter, c]
      rw [e2]
      have e3 : bitsOf [L] = 2 ^ L := by simp [bitsOf]
      omega
    · have c : p L = false := by simpa using c
      have e2 : [L].filter p = [] := by simp [List.filter, c]
      rw [e2]
      have e3 : bitsOf [] = 0 := rfl
      omega
theorem DeskR.kp {P : Program} {w : World} {K : PySem.W.Frag} {CD CC : Addr} {H H' : Hp} {a : Addr} {s : Dsk} {n e k : Nat} {dx ca nw : Addr} {d d' : CaseD} (h : DeskR P w K CD CC H a s n e k dx ca nw d) (q : Kp H H') (c : CaseR P w K CC H' ca n e k d') : DeskR P w K CD CC H' a s n e k dx ca nw d' :=
  ⟨q.keep _ _ h.obj rfl, c, q.tup h.nw, h.eq, h.rule, h.mv, h.mb⟩
section
variable {P : Program} {w : World} {K : PySem.W.Frag} {mg : Str → Option Value} {base : Heap} {CD CC R : Addr}
def spApart (P : Program) (w : World) (K : PySem.W.Frag) (CD CC : Addr) : Sp := fun vs H Q _ => ∃ (a : Addr) (s : Dsk) (n e k : Nat) (dx ca nw : Addr) (d : CaseD), vs = [.ref a] ∧ DeskR P w K CD CC H a s n e k dx ca nw d ∧
  ∀ H' q dx ca nw d, KpB a H H' → DeskR P w K CD CC H' a (dApart s n k).1 n e k dx ca nw d → H q = none → H' q = some (.lst (tI (dApart s n k).2)) → Q (.ref q) H'
abbrev sApart : Stmt := inClass (top 42) 11
abbrev nApart : List Str := ["self", "i", "ring"]
theorem sc_apart : FnScope nApart ["self"] (defScope sApart) := ⟨rfl, rfl, rfl, by decide +kernel, rfl, by decide +kernel, by decide +kernel⟩
theorem ok_apart (B : Bts mg) (T : DeskTxt K mg CD) (TC : CaseTxt K mg CC) (D : MDef K CD "mark_apart" "Desk.mark_apart" sApart ["self"]) (Cb : Cal P w K mg base CX0 1 "bits_of" ["numbers"] (spBits K)) (Mp : Met P w K mg base CX0 2 CD "put_marks" ["self", "bits"] (spPut P w K CD CC)) : Met P w K mg base CX0 3 CD "mark_apart" ["self"] (spApart P w K CD CC) := by
  refine D.met fun f fd F => F.ok sc_apart (fun vs H Q E h => ?_) (fun cdv A outer s H vs Q E hr h => ?_)
  · obtain ⟨a, s, n, e, k, dx, ca, nw, d, rfl, _⟩ := h
    rfl
  · have nd := sc_apart.nd
    refine ⟨_, pss_one (ps_ret (pe_m T.cl Mp hr (pv 0) (pa_cons (pe_c Cb hr (pa_cons
      (pe_lc (own := [("i", 1), ("ring", 2)]) (g := gTup K 2 (gCons (gName 1) (gCons (gName 2) gNil))) (tt := tTest (tOp rEq (tCB (rMaxT K) (tCons (tVar 2) tNil)) (tC (.int 1)))) rfl nd (pi_enum rfl B.enumerate (pa_cons (pe_fld (pe_fld (pv 0) rfl) rfl) pa_nil))
        (blkOk_by (own := [("i", 1), ("ring", 2)]) (N := nApart) (sc := defScope sApart) (by decide +kernel)) (fun _ _ _ _ _ => pg_tup rfl (pgs_cons (pg_name (i := 1) nd rfl (Or.inl rfl)) (pgs_cons (pg_name (i := 2) nd rfl (Or.inl rfl)) pgs_nil)))
        (fun _ _ _ _ _ => pts_one (pt_cmpR op_eq (pe_callB (cr_maxT rfl) rfl B.max bt_max (pa_cons (pv 2) pa_nil)) pe_int (nomark _))) (fun _ _ _ _ _ => pv 1)) pa_nil)) pa_nil))), ?_⟩
    obtain ⟨a, s, n, e, k, dx, ca, nw, d, rfl, h, z⟩ := h
    have h8 := (names_few h.cs.st.good).2
    obtain ⟨nps, hnl, hnt⟩ := h.cs.st.nm
    have hnlen := hnt.length
    refine ⟨_, rfl, a, dx, _, rfl, h.obj, dF_none (by decide +kernel), _, rfl, a, CD, dx, _, _, rfl, h.obj, T.cl, T.nC, dF_C, ca, CC, d.dx, _, _, rfl, h.cs.st.obj, TC.cl, TC.nN, cF_N, d.an, _, rfl, .of hnl, fun b hb => ?_⟩
    refine lc_kept (walk_enum (K := K) (a := d.an) (xs := nps.map V.ref)) (fun i => decide (maxI ((allNames n k).getD i []) = 1)) (FInt fun i => (i : Int)) stays_int hb (by rw [List.length_map]; omega) (fun H' s' => .of (s' _ _ hnl)) ?_ ?_
    · rintro i x H3 H4 hi s3 ⟨TT, x1, y1, rfl, hT, rfl, hx1, hy1⟩ Z Z2 z1 z2
      cases hx1
      obtain ⟨p, hp, rfl⟩ := ref_at hy1
      obtain ⟨r, hr0, hpt⟩ := Paired.at hnt i p hp
      have hlen := (names_ok h.cs.st.good (List.mem_of_getElem? hr0)).len
      have hn3 := h.cs.st.good.n3
      have sT := Same.new (o := .tup [V.int (i : Nat), V.ref p]) hT
      rw [getD_of hr0] at z1 z2
      refine ⟨TT, _, rfl, SqT.of upd_same, rfl, _, _, rfl, _, _, rfl, rfl, rfl, _, rfl, p, r, rfl, sT.tup (s3.tup hpt), by omega, fun m hm hall => ⟨rfl, _, rfl, ?_⟩⟩
      rw [dec_eq]
      rw [maxI_is hm hall] at z1 z2
      cases cm : decide (m = 1) with
      | true => exact iteT ⟨_, rfl, z1 cm _ _ sT rfl⟩
      | false => exact iteF (z2 cm _ sT)
    · intro H2 acc s2 ha pr
      have ea := ints_of pr
      rw [List.length_map, hnlen] at ea
      subst ea
      have hlt := bits_lt (fun i => decide (maxI ((allNames n k).getD i []) = 1)) (allNames n k).length
      refine ⟨b, _, rfl, .of ha, Nat.le_trans (List.length_filter_le _ _) (by rw [List.length_range]; omega), fun x hx => ?_, fun H3 s3 => ?_⟩
      · have := List.mem_range.mp (List.mem_filter.mp hx).1
        omega
      · have s13 := s2.trans s3
        exact ⟨a, s, n, e, k, _, dx, ca, nw, d, rfl, h.same s13, hlt, fun H' q dx ca nw d kb h2 fq hq => z H' q dx ca nw d ((KpB.of s13.kp).trans kb) h2 (s13.free fq) hq⟩
/-! what_rules_do -/
def spWhat (P : Program) (w : World) (K : PySem.W.Frag) (CD CC R : Addr) : Sp := fun vs H Q E => ∃ (a : Addr) (s : Dsk) (n e k m : Nat) (dx ca nw : Addr) (d : CaseD), vs = [.ref a, .int m] ∧ DeskR P w K CD CC H a s n e k dx ca nw d ∧ m ≤ 2 ∧
  (6000 < manyRules (allViews (allNames n k) e) → ∀ H' dd, Same H H' → H' dd = some (.xd (xN (-28))) → E (.ref R) (some dd) H') ∧
  (manyRules (allViews (allNames n k) e) ≤ 6000 → ∀ H' q d', Kp H H' → DeskR P w K CD CC H' a s n e k dx ca nw d' → NewK H d d' → H' q = some (.lst (tN (allG n e k m))) → Q (.ref q) H')
abbrev sWhat : Stmt := inClass (top 42) 13
theorem sc_what : FnScope ["self", "moves"] ["self", "moves"] (defScope sWhat) := ⟨rfl, rfl, rfl, by decide +kernel, rfl, by decide +kernel, by decide +kernel⟩
theorem ok_what (Cc : Csts mg) (T : DeskTxt K mg CD) (TC : CaseTxt K mg CC) (D : MDef K CD "what_rules_do" "Desk.what_rules_do" sWhat ["self", "moves"]) (Cr : Cal P w K mg base (L2.CX P w) 3 "refuse" ["bad", "number"] (spRefuse R)) (Mm : Met P w K mg base CX0 3 CC "many_rules" ["self"] (spMany K CC))
    (Ma : Met P w K mg base CX0 7 CC "all_gathered" ["self", "moves"] (spAllGa P w K CC)) : Met P w K mg base (L2.CX P w) 8 CD "what_rules_do" ["self", "moves"] (spWhat P w K CD CC R) := by
  refine D.met fun f fd F => F.okX sc_what (fun vs H Q E h => ?_) (fun cdv A outer s H vs Q E hr h => ?_)
  · obtain ⟨a, s, n, e, k, m, dx, ca, nw, d, rfl, _⟩ := h
    rfl
  · refine ⟨_, pss_cons (ps_expr (pe_cS (E := WE (fun cls d _ H => E cls d H)) Cr hr (fun σ => passAt (takes_of rfl rfl rfl rfl) σ) (pa_cons (pe_cmpR op_gt (pe_m0 TC.cl Mm hr (pe_fld (pv 0) rfl)) (pe_gi Cc.rules) (nomark _)) (pa_cons (pe_gi Cc.many) pa_nil))))
      (pss_one (ps_ret (pe_m TC.cl Ma hr (pe_fld (pv 0) rfl) (pa_cons (pv 1) pa_nil)))), ?_⟩
    obtain ⟨a, s, n, e, k, m, dx, ca, nw, d, rfl, h, hm, kE, kQ⟩ := h
    refine ⟨_, rfl, a, CD, dx, _, _, rfl, h.obj, T.cl, T.nC, dF_C, ca, d.dx, _, rfl, h.cs.st.obj, cF_none (by decide +kernel), ca, n, e, k, d, rfl, h.cs.st, fun H1 s1 => ⟨_, _, rfl, rfl, _, _, rfl, fun hb => ?_, fun hb => ?_⟩⟩
    · have hb := of_decide_eq_true hb
      exact fun H' dd s' hd => kE (by omega) H' dd (s1.trans s') hd
    · have hb := of_decide_eq_false hb
      have h1 := h.same s1
      refine ⟨_, rfl, a, CD, dx, _, _, rfl, h1.obj, T.cl, T.nC, dF_C, ca, d.dx, _, rfl, h1.cs.st.obj, cF_none (by decide +kernel), _, rfl, ca, n, e, k, m, d, rfl, h1.cs, by omega, hm, fun H' q d' s' c' nk hq => ?_⟩
      exact kQ (by omega) H' q d' (s1.kp.trans s') (h1.kp s' c') (nk.back fun b e => s1.free e) hq
end
end Rf
/-! ## RfW26 -/
namespace Rf
open PySem PySem.Spec PyProof.Rows L2
section
variable {P : Program} {w : World} {K : PySem.W.Frag} {mg : Str → Option Value} {base : Heap} {CD CC R : Addr}
def spIsG (P : Program) (w : World) (K : PySem.W.Frag) (CD CC : Addr) : Sp := fun vs H Q _ => ∃ (a : Addr) (s : Dsk) (n e k b : Nat) (dx ca nw : Addr) (d : CaseD), vs = [.ref a, .int b] ∧ DeskR P w K CD CC H a s n e k dx ca nw d ∧ Q (.bl (decide (b &&& s.marked = s.marked))) H
abbrev sIsG : Stmt := inClass (top 42) 14
theorem sc_isG : FnScope ["self", "bits"] ["self", "bits"] (defScope sIsG) := ⟨rfl, rfl, rfl, by decide +kernel, rfl, by decide +kernel, by decide +kernel⟩
theorem ok_isG (T : DeskTxt K mg CD) (D : MDef K CD "is_good" "Desk.is_good" sIsG ["self", "bits"]) : Met P w K mg base CX0 1 CD "is_good" ["self", "bits"] (spIsG P w K CD CC) := by
  refine D.met fun f fd F => F.ok sc_isG (fun vs H Q E h => ?_) (fun cdv A outer s H vs Q E hr h => ?_)
  · obtain ⟨a, s, n, e, k, b, dx, ca, nw, d, rfl, _⟩ := h
    rfl
  · refine ⟨_, pss_one (ps_ret (pe_cmpR op_eq (pe_op op_and (pv 1) (pe_fld (pv 0) rfl)) (pe_fld (pv 0) rfl) (nomark _))), ?_⟩
    obtain ⟨a, s, n, e, k, b, dx, ca, nw, d, rfl, h, q⟩ := h
    refine ⟨_, rfl, _, rfl, a, CD, dx, _, _, rfl, h.obj, T.cl, T.nB, dF_B, _, _, rfl, rfl, _, rfl, a, CD, dx, _, _, rfl, h.obj, T.cl, T.nB, dF_B, rfl, ?_⟩
    rw [dec_eq, and_nat]
    have e1 : decide (((b &&& s.marked : Nat) : Int) = (s.marked : Int)) = decide (b &&& s.marked = s.marked) := by
      rw [Bool.eq_iff_iff, decide_eq_true_iff, decide_eq_true_iff]
      omega
    rw [e1]
    exact q
def spGoodP (P : Program) (w : World) (K : PySem.W.Frag) (CD CC R : Addr) : Sp := fun vs H Q E => ∃ (a : Addr) (s : Dsk) (n e k m : Nat) (dx ca nw : Addr) (d : CaseD), vs = [.ref a, .int m] ∧ DeskR P w K CD CC H a s n e k dx ca nw d ∧ m ≤ 2 ∧
  (6000 < manyRules (allViews (allNames n k) e) → ∀ H' dd, Same H H' → H' dd = some (.xd (xN (-28))) → E (.ref R) (some dd) H') ∧
  (manyRules (allViews (allNames n k) e) ≤ 6000 → ∀ H' q d', Kp H H' → DeskR P w K CD CC H' a s n e k dx ca nw d' → NewK H d d' → H q = none → H' q = some (.lst (tN (goodP s n e k m))) → Q (.ref q) H')
abbrev sGoodP : Stmt := inClass (top 42) 15
abbrev nGoodP : List Str := ["self", "moves", "k", "bits"]
theorem sc_goodP : FnScope nGoodP ["self", "moves"] (defScope sGoodP) := ⟨rfl, rfl, rfl, by decide +kernel, rfl, by decide +kernel, by decide +kernel⟩
theorem ok_goodP (B : Bts mg) (T : DeskTxt K mg CD) (D : MDef K CD "good_places" "Desk.good_places" sGoodP ["self", "moves"]) (Mw : Met P w K mg base (L2.CX P w) 8 CD "what_rules_do" ["self", "moves"] (spWhat P w K CD CC R)) (Mi : Met P w K mg base CX0 1 CD "is_good" ["self", "bits"] (spIsG P w K CD CC)) :
    Met P w K mg base (L2.CX P w) 9 CD "good_places" ["self", "moves"] (spGoodP P w K CD CC R) := by
  refine D.met fun f fd F => F.okX sc_goodP (fun vs H Q E h => ?_) (fun cdv A outer s H vs Q E hr h => ?_)
  · obtain ⟨a, s, n, e, k, m, dx, ca, nw, d, rfl, _⟩ := h
    rfl
  · have nd := sc_goodP.nd
    refine ⟨_, pss_one (ps_ret (pe_lc (own := [("k", 2), ("bits", 3)]) (g := gTup K 2 (gCons (gName 2) (gCons (gName 3) gNil))) (tt := tB (tMeth CD "is_good" (spIsG P w K CD CC) [] E0 (tVar 0) (tCons (tVar 3) tNil))) rfl nd
        (pi_enum rfl B.enumerate (pa_cons (pe_mS (E := WE (fun cls d _ H => E cls d H)) T.cl Mw hr (fun σ => passAt (takes_of rfl rfl rfl rfl) σ) (pv 0) (pa_cons (pv 1) pa_nil)) pa_nil)) (blkOk_by (own := [("k", 2), ("bits", 3)]) (N := nGoodP) (sc := defScope sGoodP) (by decide +kernel))
        (fun _ _ _ _ _ => pg_tup rfl (pgs_cons (pg_name (i := 2) nd rfl (Or.inl rfl)) (pgs_cons (pg_name (i := 3) nd rfl (Or.inl rfl)) pgs_nil)))
        (fun _ _ _ _ _ => pts_one (pt_val (pe_m T.cl Mi hr (pv 0) (pa_cons (pv 3) pa_nil)))) (fun _ _ _ _ _ => pv 2))), ?_⟩
    obtain ⟨a, s, n, e, k, m, dx, ca, nw, d, rfl, h, hm, kE, kQ⟩ := h
    refine ⟨_, rfl, a, dx, _, rfl, h.obj, dF_none (by decide +kernel), _, rfl, a, s, n, e, k, m, dx, ca, nw, d, rfl, h, hm, kE, fun hle H1 q d1 s1 h1 nk hq => ?_⟩
    have hlen := allG_len n e k m
    refine ⟨q, _, rfl, .of hq, fun b hb => ?_⟩
    refine lc_kept (walk_enum (K := K) (a := q) (xs := tN (allG n e k m))) (fun i => decide ((allG n e k m).getD i 0 &&& s.marked = s.marked)) (FInt fun i => (i : Int)) stays_int hb (by rw [tN_len]; omega) (fun H' s' => .of (s' _ _ hq)) ?_ ?_
    · rintro i x H3 H4 hi s3 ⟨TT, x1, y1, rfl, hT, rfl, hx1, hy1⟩ Z Z2 z1 z2
      cases hx1
      obtain ⟨v, hv, rfl⟩ := nat_at hy1
      have sT := Same.new (o := .tup [V.int (i : Nat), V.int (v : Nat)]) hT
      rw [getD_of hv] at z1 z2
      have h4 := (h1.same s3).same sT
      refine ⟨TT, _, rfl, SqT.of upd_same, rfl, _, _, rfl, _, _, rfl, rfl, rfl, _, rfl, a, dx, _, rfl, h4.obj, dF_none (by decide +kernel), _, rfl, a, s, n, e, k, v, dx, ca, nw, d1, rfl, h4, ⟨_, rfl, ?_⟩⟩
      cases cm : decide (v &&& s.marked = s.marked) with
      | true => exact iteT ⟨_, rfl, z1 cm _ _ sT rfl⟩
      | false => exact iteF (z2 cm _ sT)
    · intro H2 acc s2 ha pr
      have ea := ints_of pr
      rw [tN_len] at ea
      subst ea
      exact kQ hle H2 b d1 (s1.trans s2.kp) (h1.same s2) nk (s1.free b hb) ha
end
end Rf
/-! ## RfW27 -/
namespace Rf
open PySem PySem.Spec PyProof.Rows L2
section
variable {P : Program} {w : World} {K : PySem.W.Frag} {mg : Str → Option Value} {base : Heap} {CD CC R : Addr}
def spNth (P : Program) (w : World) (K : PySem.W.Frag) (CD CC R : Addr) : Sp := fun vs H Q E => ∃ (a : Addr) (s : Dsk) (n e k i : Nat) (dx ca nw : Addr) (d : CaseD), vs = [.ref a, .int i] ∧ DeskR P w K CD CC H a s n e k dx ca nw d ∧
  (6000 < manyRules (allViews (allNames n k) e) → ∀ H' dd, Same H H' → H' dd = some (.xd (xN (-28))) → E (.ref R) (some dd) H') ∧
  (manyRules (allViews (allNames n k) e) ≤ 6000 → (goodP s n e k s.moves).length ≤ i → ∀ H' dd d', Kp H H' → DeskR P w K CD CC H' a s n e k dx ca nw d' → H' dd = some (.xd (xN (-33))) → E (.ref R) (some dd) H') ∧
  (manyRules (allViews (allNames n k) e) ≤ 6000 → i < (goodP s n e k s.moves).length → ∀ H' q d', Kp H H' → DeskR P w K CD CC H' a s n e k dx ca nw d' → SqT K H' q (tN ((rules (allViews (allNames n k) e)).getD ((goodP s n e k s.moves).getD i 0) [])) → Q (.ref q) H')
abbrev sNth : Stmt := inClass (top 42) 16
abbrev nNth : List Str := ["self", "i", "some"]
theorem sc_nth : FnScope nNth ["self", "i"] (defScope sNth) := ⟨rfl, rfl, rfl, by decide +kernel, rfl, by decide +kernel, by decide +kernel⟩
theorem ok_nth (B : Bts mg) (Cc : Csts mg) (T : DeskTxt K mg CD) (TC : CaseTxt K mg CC) (D : MDef K CD "nth_good" "Desk.nth_good" sNth ["self", "i"]) (Mg : Met P w K mg base (L2.CX P w) 9 CD "good_places" ["self", "moves"] (spGoodP P w K CD CC R)) (Cr : Cal P w K mg base (L2.CX P w) 3 "refuse" ["bad", "number"] (spRefuse R))
    (Mr : Met P w K mg base CX0 3 CC "rules" ["self"] (spRules K CC)) : Met P w K mg base (L2.CX P w) 10 CD "nth_good" ["self", "i"] (spNth P w K CD CC R) := by
  refine D.met fun f fd F => F.okX sc_nth (fun vs H Q E h => ?_) (fun cdv A outer s H vs Q E hr h => ?_)
  · obtain ⟨a, s, n, e, k, i, dx, ca, nw, d, rfl, _⟩ := h
    rfl
  · have nd := sc_nth.nd
    refine ⟨_, pss_cons (ps_set (i := 2) nd rfl (Or.inl rfl) (pe_mS (E := WE (fun cls d _ H => E cls d H)) T.cl Mg hr (fun σ => passAt (takes_of rfl rfl rfl rfl) σ) (pv 0) (pa_cons (pe_fld (pv 0) rfl) pa_nil)))
      (pss_cons (ps_expr (pe_cS (E := WE (fun cls d _ H => E cls d H)) Cr hr (fun σ => passAt (takes_of rfl rfl rfl rfl) σ) (pa_cons (pe_cmpR op_ge (pv 1) (pe_callB call_len_seq rfl B.len bt_len (pa_cons (pv 2) pa_nil)) (nomark _)) (pa_cons (pe_gi Cc.norule) pa_nil))))
      (pss_one (ps_ret (pe_ix ix_list (pe_m0 TC.cl Mr hr (pe_fld (pv 0) rfl)) (pe_ix ix_list (pv 2) (pv 1) (fun _ _ => rfl)) (fun _ _ => rfl))))), ?_⟩
    obtain ⟨a, s, n, e, k, i, dx, ca, nw, d, rfl, h, k1, k2, k3⟩ := h
    refine ⟨_, rfl, a, dx, _, rfl, h.obj, dF_none (by decide +kernel), _, rfl, a, CD, dx, _, _, rfl, h.obj, T.cl, T.nM, dF_M, a, s, n, e, k, s.moves, dx, ca, nw, d, rfl, h, h.mv, k1, fun hle H1 q d1 s1 h1 nk fq hq => ?_⟩
    refine ⟨_, rfl, _, rfl, q, _, rfl, .inl (.of hq), _, _, rfl, rfl, _, _, rfl, fun hb => ?_, fun hb => ?_⟩
    · have hb := of_decide_eq_true hb
      rw [tN_len] at hb
      exact fun H' dd s' hd => k2 hle (by omega) H' dd d1 (s1.trans s'.kp) (h1.same s') hd
    · have hb := of_decide_eq_false hb
      rw [tN_len] at hb
      have hi : i < (goodP s n e k s.moves).length := by omega
      have hg : (goodP s n e k s.moves)[i]? = some ((goodP s n e k s.moves).getD i 0) := by
        rw [List.getD_eq_getElem?_getD, List.getElem?_eq_getElem hi]
        rfl
      have hlt := goodP_lt (List.mem_of_getElem? hg)
      generalize (goodP s n e k s.moves).getD i 0 = g at hg hlt k3
      refine ⟨_, rfl, a, CD, dx, _, _, rfl, h1.obj, T.cl, T.nC, dF_C, ca, d1.dx, _, rfl, h1.cs.st.obj, cF_none (by decide +kernel), ca, n, e, k, d1, rfl, h1.cs.st, hle, fun H2 r s2 fr hrr => ?_⟩
      obtain ⟨rps, hrl, hrt⟩ := hrr
      refine ⟨_, rfl, _, rfl, q, _, _, _, rfl, rfl, .of (s2 _ _ hq), atI_nat (nat_at' hg), ?_⟩
      have hlen := hrt.length
      unfold castRows at hlen
      rw [List.length_map] at hlen
      obtain ⟨p, hp⟩ : ∃ p, rps[g]? = some p := ⟨rps[g]'(by omega), List.getElem?_eq_getElem _⟩
      obtain ⟨rowI, hrow, hpt⟩ := Paired.at hrt g p hp
      unfold castRows at hrow
      rw [List.getElem?_map] at hrow
      obtain ⟨row, hrow2, rfl⟩ := Option.map_eq_some_iff.mp hrow
      rw [getD_of hrow2] at k3
      exact ⟨r, _, _, _, rfl, rfl, .of hrl, atI_nat (by rw [List.getElem?_map, hp]; rfl), k3 hle hi H2 p d1 (s1.trans s2.kp) (h1.same s2) hpt⟩
end
end Rf
/-! ## RfW28 -/
namespace Rf
open PySem PySem.Spec PyProof.Rows L2
section
variable {P : Program} {w : World} {K : PySem.W.Frag} {mg : Str → Option Value} {base : Heap} {CD CC R : Addr}
def spTake (P : Program) (w : World) (K : PySem.W.Frag) (CD CC R : Addr) : Sp := fun vs H Q E => ∃ (a : Addr) (s : Dsk) (n e k : Nat) (dx ca nw : Addr) (d : CaseD), vs = [.ref a] ∧ DeskR P w K CD CC H a s n e k dx ca nw d ∧ DEnds P w K CD CC R H a s n e k (dTake s n e k) Q E
abbrev sTake : Stmt := inClass (top 42) 17
theorem sc_take : FnScope ["self"] ["self"] (defScope sTake) := ⟨rfl, rfl, rfl, by decide +kernel, rfl, by decide +kernel, by decide +kernel⟩
theorem ok_take (T : DeskTxt K mg CD) (D : MDef K CD "take" "Desk.take" sTake ["self"]) (Mn : Met P w K mg base (L2.CX P w) 10 CD "nth_good" ["self", "i"] (spNth P w K CD CC R)) : Met P w K mg base (L2.CX P w) 11 CD "take" ["self"] (spTake P w K CD CC R) := by
  refine D.met fun f fd F => F.okX sc_take (fun vs H Q E h => ?_) (fun cdv A outer s H vs Q E hr h => ?_)
  · obtain ⟨a, s, n, e, k, dx, ca, nw, d, rfl, _⟩ := h
    rfl
  · refine ⟨_, pss_cons (ps_fld (pv 0) (pe_mS (E := WE (fun cls d _ H => E cls d H)) T.cl Mn hr (fun σ => passAt (takes_of rfl rfl rfl rfl) σ) (pv 0) (pa_cons pe_int pa_nil)) rfl) (pss_one (ps_ret (pe_lst (pa_cons pe_int pa_nil)))), ?_⟩
    obtain ⟨a, s, n, e, k, dx, ca, nw, d, rfl, h, z⟩ := h
    unfold dTake at z
    refine ⟨_, rfl, a, dx, _, rfl, h.obj, dF_none (by decide +kernel), a, s, n, e, k, 0, dx, ca, nw, d, rfl, h, fun hm => ?_, fun hm hg => ?_, fun hm hg H1 q d1 s1 h1 hq => ?_⟩
    · rw [if_pos hm] at z
      exact fun H' dd s' hd => z H' dd dx ca nw d (.of s'.kp) (h.same s') hd
    · rw [if_neg (by omega), if_pos (by omega)] at z
      exact fun H' dd d' s' h' hd => z H' dd dx ca nw d' (.of s') h' hd
    · rw [if_neg (by omega), if_neg (by omega)] at z
      refine ⟨_, rfl, a, CD, dx, _, rfl, h1.obj, T.cl, T.nN, (by show 4 < 1000; decide), ?_⟩
      have hgi : (goodP s n e k s.moves)[0]? = some ((goodP s n e k s.moves).getD 0 0) := by
        rw [List.getD_eq_getElem?_getD, List.getElem?_eq_getElem hg]
        rfl
      have hlt := goodP_lt (List.mem_of_getElem? hgi)
      generalize (goodP s n e k s.moves).getD 0 0 = g at hlt z hq
      have hrow : (rules (allViews (allNames n k) e))[g]? = some ((rules (allViews (allNames n k) e)).getD g []) := by
        rw [List.getD_eq_getElem?_getD, List.getElem?_eq_getElem hlt]
        rfl
      have hr1 := rules_row _ _ rfl _ (List.mem_of_getElem? hrow)
      generalize (rules (allViews (allNames n k) e)).getD g [] = row at hr1 z hq
      have h2 := h1.set (s' := { s with now := row }) (nw' := q) rfl hq ⟨hr1.1, hr1.2⟩ h1.mv h1.mb
      have e2 : upd H1 a (.ins CD dx (putF ("now" : Str) (V.ref q) (dF (.ref ca) s.moves s.marked nw))) = upd H1 a (.ins CD dx (dF (.ref ca) s.moves s.marked q)) := by rw [dF_putN]
      have kb : KpB a H1 (upd H1 a (.ins CD dx (dF (.ref ca) s.moves s.marked q))) := (KpB.of (Kp.refl H1)).put h1.obj
      rw [e2]
      have h2 : DeskR P w K CD CC (upd H1 a (.ins CD dx (dF (.ref ca) s.moves s.marked q))) a { s with now := row } n e k dx ca q d1 := h2
      generalize upd H1 a (.ins CD dx (dF (.ref ca) s.moves s.marked q)) = H2 at h2 kb ⊢
      refine ⟨(by show 1 ≤ sizeLine; decide), fun p hp => ?_⟩
      have kb2 := (KpB.of s1).trans kb
      exact z _ p dx ca q d1 (kb2.trans (.of (Same.new hp).kp)) (h2.same (Same.new hp)) (kb2.free p hp) upd_same
/-! good -/
def spGood (P : Program) (w : World) (K : PySem.W.Frag) (CD CC : Addr) : Sp := fun vs H Q _ => ∃ (a : Addr) (s : Dsk) (n e k : Nat) (dx ca nw : Addr) (d : CaseD), vs = [.ref a] ∧ DeskR P w K CD CC H a s n e k dx ca nw d ∧
  ∀ H' q d', Kp H H' → DeskR P w K CD CC H' a s n e k dx ca nw d' → H q = none → H' q = some (.lst (tI (dGood s n e k))) → Q (.ref q) H'
abbrev sGood : Stmt := inClass (top 42) 18
theorem sc_good : FnScope ["self", "bits"] ["self"] (defScope sGood) := ⟨rfl, rfl, rfl, by decide +kernel, rfl, by decide +kernel, by decide +kernel⟩
theorem ok_good (B : Bts mg) (T : DeskTxt K mg CD) (TC : CaseTxt K mg CC) (D : MDef K CD "good" "Desk.good" sGood ["self"]) (Mg : Met P w K mg base CX0 6 CC "gathers" pGath (spGath P w K CC)) (Cm : Cal P w K mg base CX0 1 "members" ["bits"] (spMembers K)) : Met P w K mg base CX0 7 CD "good" ["self"] (spGood P w K CD CC) := by
  refine D.met fun f fd F => F.ok sc_good (fun vs H Q E h => ?_) (fun cdv A outer s H vs Q E hr h => ?_)
  · obtain ⟨a, s, n, e, k, dx, ca, nw, d, rfl, _⟩ := h
    rfl
  · have nd := sc_good.nd
    refine ⟨_, pss_cons (ps_set (i := 1) nd rfl (Or.inl rfl) (pe_op op_and (pe_m TC.cl Mg hr (pe_fld (pv 0) rfl) (pa_cons (pe_fld (pv 0) rfl) (pa_cons (pe_fld (pv 0) rfl) pa_nil))) (pe_fld (pv 0) rfl)))
      (pss_one (ps_ret (pe_lst (pa_cons (pe_callB call_len_seq rfl B.len bt_len (pa_cons (pe_c Cm hr (pa_cons (pv 1) pa_nil)) pa_nil)) (pa_cons (pe_callB call_len_seq rfl B.len bt_len (pa_cons (pe_c Cm hr (pa_cons (pe_fld (pv 0) rfl) pa_nil)) pa_nil)) pa_nil))))), ?_⟩
    obtain ⟨a, s, n, e, k, dx, ca, nw, d, rfl, h, z⟩ := h
    have h8 := (names_few h.cs.st.good).2
    have hsm := small_bits h8 h.mb
    refine ⟨_, rfl, a, CD, dx, _, _, rfl, h.obj, T.cl, T.nC, dF_C, ca, d.dx, _, rfl, h.cs.st.obj, cF_none (by decide +kernel), _, rfl, a, CD, dx, _, _, rfl, h.obj, T.cl, T.nN, dF_N, _, rfl, a, CD, dx, _, _, rfl, h.obj, T.cl, T.nM, dF_M,
      ca, nw, n, e, k, s.moves, s.now, d, rfl, h.cs, h.nw, h.rule, h.mv, fun H1 xs1 s1 c1 => ?_⟩
    have h1 := h.kp s1 c1
    refine ⟨_, rfl, a, CD, dx, _, _, rfl, h1.obj, T.cl, T.nB, dF_B, _, _, rfl, rfl, ?_⟩
    have hb : gathers (kase n e k) s.now s.moves &&& s.marked < 2 ^ 50 := Nat.lt_of_le_of_lt Nat.and_le_right hsm
    refine ⟨_, rfl, gathers (kase n e k) s.now s.moves &&& s.marked, congrArg (fun x => [V.int x]) (and_nat _ _), hb, fun H2 q2 s2 f2 hq2 => ⟨q2, _, rfl, .inl (.of hq2), ?_⟩⟩
    have h2 := h1.same s2
    refine ⟨_, rfl, a, CD, dx, _, _, rfl, h2.obj, T.cl, T.nB, dF_B, s.marked, rfl, hsm, fun H3 q3 s3 f3 hq3 => ⟨q3, _, rfl, .inl (.of hq3), (by show 2 ≤ sizeLine; decide), fun p hp => ?_⟩⟩
    have s4 := (s2.trans s3).trans (Same.new (o := .lst [V.int ((tN (members (gathers (kase n e k) s.now s.moves &&& s.marked))).length : Nat), V.int ((tN (members s.marked)).length : Nat)]) hp)
    refine z _ p _ (s1.trans s4.kp) (h1.same s4) (s1.free p ((s2.trans s3).free hp)) ?_
    rw [upd_same, tN_len, tN_len]
    rfl
end
end Rf
/-! ## RfW29 -/
namespace Rf
open PySem PySem.Spec PyProof.Rows L2
section
variable {P : Program} {w : World} {K : PySem.W.Frag} {mg : Str → Option Value} {base : Heap} {CD CC R : Addr}
def spTold (P : Program) (w : World) (K : PySem.W.Frag) (CD CC : Addr) : Sp := fun vs H Q _ => ∃ (a : Addr) (s : Dsk) (n e k : Nat) (dx ca nw : Addr) (d : CaseD), vs = [.ref a] ∧ DeskR P w K CD CC H a s n e k dx ca nw d ∧
  ∀ H' q, Same H H' → H q = none → H' q = some (.lst (tI (dTold s n e k))) → Q (.ref q) H'
abbrev sTold : Stmt := inClass (top 42) 22
theorem sc_told : FnScope ["self", "case"] ["self"] (defScope sTold) := ⟨rfl, rfl, rfl, by decide +kernel, rfl, by decide +kernel, by decide +kernel⟩
theorem ok_told (B : Bts mg) (T : DeskTxt K mg CD) (TC : CaseTxt K mg CC) (D : MDef K CD "told" "Desk.told" sTold ["self"]) (Cm : Cal P w K mg base CX0 1 "members" ["bits"] (spMembers K)) : Met P w K mg base CX0 2 CD "told" ["self"] (spTold P w K CD CC) := by
  refine D.met fun f fd F => F.ok sc_told (fun vs H Q E h => ?_) (fun cdv A outer s H vs Q E hr h => ?_)
  · obtain ⟨a, s, n, e, k, dx, ca, nw, d, rfl, _⟩ := h
    rfl
  · have nd := sc_told.nd
    refine ⟨_, pss_cons (ps_set (i := 1) nd rfl (Or.inl rfl) (pe_fld (pv 0) rfl))
      (pss_one (ps_ret (pe_lst (pa_cons (pe_fld (pv 1) rfl) (pa_cons (pe_fld (pv 1) rfl) (pa_cons (pe_fld (pv 1) rfl) (pa_cons (pe_fld (pv 0) rfl) (pa_cons (pe_callB call_len_seq rfl B.len bt_len (pa_cons (pe_c Cm hr (pa_cons (pe_fld (pv 0) rfl) pa_nil)) pa_nil)) pa_nil)))))))), ?_⟩
    obtain ⟨a, s, n, e, k, dx, ca, nw, d, rfl, h, z⟩ := h
    have h8 := (names_few h.cs.st.good).2
    have hsm := small_bits h8 h.mb
    have oc := h.cs.st.obj
    refine ⟨_, rfl, a, CD, dx, _, _, rfl, h.obj, T.cl, T.nC, dF_C, ?_⟩
    refine ⟨_, rfl, ca, CC, d.dx, _, _, rfl, oc, TC.cl, TC.nP, cF_P, _, rfl, ca, CC, d.dx, _, _, rfl, oc, TC.cl, TC.nE, cF_E, _, rfl, ca, CC, d.dx, _, _, rfl, oc, TC.cl, TC.nR, cF_R, _, rfl, a, CD, dx, _, _, rfl, h.obj, T.cl, T.nM, dF_M, _, rfl, a, CD, dx, _, _, rfl, h.obj, T.cl, T.nB, dF_B,
      s.marked, rfl, hsm, fun H2 q2 s2 f2 hq2 => ⟨q2, _, rfl, .inl (.of hq2), (by show 5 ≤ sizeLine; decide), fun p hp => ?_⟩⟩
    refine z _ p (s2.put (s2.free hp)) (s2.free hp) ?_
    rw [upd_same, tN_len]
    rfl
end
end Rf
/-! ## RfW30 -/
namespace Rf
open PySem PySem.Spec PyProof.Rows L2
def kvT (o : List Nat) : List (Key × V) := o.map fun (v : Nat) => ((Sum.inl (v : Int) : Key), V.bl true)
theorem put_kvT (o : List Nat) (x : Nat) : putK (kvT o) (Sum.inl (x : Int)) (V.bl true) = kvT (if x ∈ o then o else o ++ [x]) := by
  unfold putK
  have hany : ((kvT o).any fun kv => decide (kv.1 = Sum.inl (x : Int))) = decide (x ∈ o) := by
    rw [Bool.eq_iff_iff, List.any_eq_true, decide_eq_true_iff]
    constructor
    · rintro ⟨kv, hkv, e⟩
      obtain ⟨v, hv, rfl⟩ := List.mem_map.mp hkv
      have e : (Sum.inl (v : Int) : Key) = Sum.inl (x : Int) := of_decide_eq_true e
      have e : (v : Int) = (x : Int) := by injection e
      have e : v = x := by omega
      rw [← e]
      exact hv
    · intro h
      exact ⟨(Sum.inl (x : Int), V.bl true), List.mem_map.mpr ⟨x, h, rfl⟩, decide_eq_true rfl⟩
  rw [hany]
  by_cases c : x ∈ o
  · rw [if_pos (decide_eq_true c), if_pos c]
    have g : ∀ kv ∈ kvT o, (if kv.1 = (Sum.inl (x : Int) : Key) then (kv.1, V.bl true) else kv) = kv := fun kv hkv => by
      obtain ⟨v, hv, rfl⟩ := List.mem_map.mp hkv
      split <;> rfl
    exact (List.map_congr_left g).trans (List.map_id' _)
  · rw [if_neg (by simpa using c), if_neg c]
    unfold kvT
    rw [List.map_append]
    rfl
theorem merge_kvT (l : List Nat) : mergeK [] (kvT l) = kvT (onceEach l) := by
  have g : ∀ (l o : List Nat), mergeK (kvT o) (kvT l) = kvT (l.foldl (fun o x => if x ∈ o then o else o ++ [x]) o) := by
    intro l
    induction l with
    | nil => intro o; rfl
    | cons x l ih =>
      intro o
      show mergeK (putK (kvT o) (Sum.inl (x : Int)) (V.bl true)) (kvT l) = _
      rw [put_kvT, ih]
      rfl
  exact g l []
end Rf
/-! ## RfW31 -/
namespace Rf
open PySem PySem.Spec PyProof.Rows L2
def FPr (K : PySem.W.Frag) (f : Nat → Nat) : Nat → V → Hp → Prop := fun i y H => ∃ q, y = .ref q ∧ SqT K H q [V.int (f i : Nat), V.bl true]
theorem stays_pr {K : PySem.W.Frag} {f : Nat → Nat} {D : Addr} : Stays (FPr K f) D :=
  ⟨fun _ _ _ _ s ⟨q, e, h⟩ => ⟨q, e, s.tup h⟩, fun _ _ _ _ _ hD ⟨q, e, h⟩ => ⟨q, e, tup_put h hD⟩⟩
theorem prs_of {K : PySem.W.Frag} {f : Nat → Nat} {H : Hp} : ∀ {is : List Nat} {acc : List V}, Paired (fun i y => FPr K f i y H) is acc → ∃ ps : List Addr, acc = ps.map V.ref ∧ Paired (fun p (kv : Key × V) => SqT K H p [kV kv.1, kv.2]) ps (kvT (is.map f))
  | _, _, .nil => ⟨[], rfl, .nil⟩
  | _, _, .cons ⟨q, e, h⟩ t => by
    obtain ⟨ps, e2, h2⟩ := prs_of t
    exact ⟨q :: ps, by rw [e, e2]; rfl, .cons h h2⟩
theorem keys_kvT (l : List Nat) : (kvT l).map (fun kv => kV kv.1) = tN l := by
  unfold kvT tN tI
  rw [List.map_map, List.map_map]
  rfl
theorem onceEach_len (l : List Nat) : (onceEach l).length ≤ l.length := by
  have g : ∀ (l o : List Nat), (l.foldl (fun o x => if x ∈ o then o else o ++ [x]) o).length ≤ o.length + l.length := by
    intro l
    induction l with
    | nil => intro o; exact Nat.le_refl _
    | cons x l ih =>
      intro o
      rw [List.foldl_cons]
      refine Nat.le_trans (ih _) ?_
      split
      · rw [List.length_cons]; omega
      · rw [List.length_append, List.length_cons, List.length_cons, List.length_nil]; omega
  have := g l []
  simpa [onceEach] using this
section
variable {P : Program} {w : World} {K : PySem.W.Frag} {mg : Str → Option Value} {base : Heap} {CD CC R : Addr}
def spWho (P : Program) (w : World) (K : PySem.W.Frag) (CD CC R : Addr) : Sp := fun vs H Q E => ∃ (a : Addr) (s : Dsk) (n e k i : Nat) (dx ca nw : Addr) (d : CaseD), vs = [.ref a, .int i] ∧ DeskR P w K CD CC H a s n e k dx ca nw d ∧ DEnds P w K CD CC R H a s n e k (dWho s n e k i) Q E
abbrev sWho : Stmt := inClass (top 42) 7
abbrev nWho : List Str := ["self", "i", "view"]
theorem sc_who : FnScope nWho ["self", "i"] (defScope sWho) := ⟨rfl, rfl, rfl, by decide +kernel, rfl, by decide +kernel, by decide +kernel⟩
theorem ok_who (B : Bts mg) (T : DeskTxt K mg CD) (TC : CaseTxt K mg CC) (D : MDef K CD "who" "Desk.who" sWho ["self", "i"]) (Mn : Met P w K mg base (L2.CX P w) 4 CD "need_name" ["self", "i"] (spNeedN P w K CD CC R)) (Co : Cal P w K mg base CX0 1 "counted" ["row"] (spCounted K)) :
    Met P w K mg base (L2.CX P w) 5 CD "who" ["self", "i"] (spWho P w K CD CC R) := by
  refine D.met fun f fd F => F.okX sc_who (fun vs H Q E h => ?_) (fun cdv A outer s H vs Q E hr h => ?_)
  · obtain ⟨a, s, n, e, k, i, dx, ca, nw, d, rfl, _⟩ := h
    rfl
  · have nd := sc_who.nd
    refine ⟨_, pss_cons (ps_expr (pe_mS (E := WE (fun cls d _ H => E cls d H)) T.cl Mn hr (fun σ => passAt (takes_of rfl rfl rfl rfl) σ) (pv 0) (pa_cons (pv 1) pa_nil)))
      (pss_one (ps_ret (pe_c Co hr (pa_cons (pe_callTy (call_listD rfl) rfl B.list bt_list (pa_cons (pe_callTy (call_dictP rfl) rfl B.dict bt_dict (pa_cons
        (pe_lc (own := [("view", 2)]) (g := gName 2) (tt := tYes) rfl nd (pi_list (pe_ix ix_list (pe_fld (pe_fld (pv 0) rfl) rfl) (pv 1) (fun _ _ => rfl))) (blkOk_by (own := [("view", 2)]) (N := nWho) (sc := defScope sWho) (by decide +kernel))
          (fun _ _ _ _ _ => pg_name (i := 2) nd rfl (Or.inl rfl)) (fun _ _ _ _ _ => pts_nil) (fun _ _ _ _ _ => pe_tup (pa_cons (pv 2) (pa_cons pe_bl pa_nil)))) pa_nil)) pa_nil)) pa_nil)))), ?_⟩
    obtain ⟨a, s, n, e, k, i, dx, ca, nw, d, rfl, h, z⟩ := h
    unfold dWho at z
    refine ⟨_, rfl, a, dx, _, rfl, h.obj, dF_none (by decide +kernel), _, rfl, a, s, n, e, k, i, dx, ca, nw, d, rfl, h, fun hi => ?_, fun hi => ?_⟩
    · rw [if_pos hi] at z
      exact fun H' dd s' hd => z H' dd dx ca nw d (.of s'.kp) (h.same s') hd
    · rw [if_neg (by omega)] at z
      obtain ⟨r, hr0⟩ : ∃ r, (allNames n k)[i]? = some r := ⟨_, List.getElem?_eq_getElem hi⟩
      have hrow := kase_had (e := e) hr0
      have hlr := (names_ok h.cs.st.good (List.mem_of_getElem? hr0)).len
      have hn7 := h.cs.st.good.n7
      have hhl := had_len r
      have hdl := h.cs.st.hdl
      have ehd : (kase n e k).had.getD i [] = (viewsIn r e).map fun v => (allViews (allNames n k) e).idxOf v := getD_of hrow
      rw [ehd] at z
      have hll : ((viewsIn r e).map fun v => (allViews (allNames n k) e).idxOf v).length ≤ 7 := by
        rw [List.length_map, viewsIn_len]
        omega
      generalize ((viewsIn r e).map fun v => (allViews (allNames n k) e).idxOf v) = row at hrow z hll
      obtain ⟨p, hp⟩ : ∃ p, d.hs[i]? = some p := by
        have hl := hdl.length
        have hlt := (List.getElem?_eq_some_iff.mp hrow).1
        exact ⟨d.hs[i]'(by omega), List.getElem?_eq_getElem _⟩
      obtain ⟨row', hrow', hpl⟩ := Paired.at hdl i p hp
      rw [hrow] at hrow'
      obtain rfl : row = row' := by simpa using hrow'
      refine ⟨_, rfl, a, CD, dx, _, _, rfl, h.obj, T.cl, T.nC, dF_C, ca, CC, d.dx, _, _, rfl, h.cs.st.obj, TC.cl, TC.nH, cF_H, _, rfl, d.ah, _, _, _, rfl, rfl, .of h.cs.st.hd, atI_nat (by rw [List.getElem?_map, hp]; rfl), ?_⟩
      refine ⟨p, rfl, ⟨_, .of hpl⟩, fun b hb => ?_⟩
      refine lc_map (walk_list (K := K) (a := p) (xs := tN row)) (FPr K fun i => row.getD i 0) stays_pr hb (by rw [tN_len]; omega) (fun H' s' => .of (s' _ _ hpl)) ?_ ?_
      · rintro m x H3 H2 hm s2 ⟨rfl, hx⟩ Z hz
        obtain ⟨v, hv, rfl⟩ := nat_at hx
        refine ⟨rfl, _, rfl, (by show 2 ≤ sizeLine; decide), fun u hu => ?_⟩
        refine hz _ _ (Same.new hu) ⟨u, rfl, ?_⟩
        show SqT K _ u [V.int ((row.getD m 0 : Nat) : Int), V.bl true]
        rw [getD_of hv]
        exact SqT.of upd_same
      · intro H2 acc s2 ha pr
        obtain ⟨qs, rfl, hqs⟩ := prs_of pr
        have erow : (List.range (tN row).length).map (fun i => row.getD i 0) = row := by
          rw [tN_len]
          exact range_getD 0 row
        rw [erow] at hqs
        refine ⟨b, qs, kvT row, rfl, .of ha, hqs, fun dd hdd => ?_⟩
        have s3 := s2.trans (Same.new (o := .dK (mergeK [] (kvT row))) hdd)
        refine ⟨dd, _, rfl, .of upd_same, fun l hl => ?_⟩
        have s4 := s3.trans (Same.new (o := .lst ((mergeK [] (kvT row)).map fun kv => kV kv.1)) hl)
        refine ⟨l, nI (onceEach row), rfl, .inl (.of ?_), ?_, fun H5 q s5 fq hq => ?_⟩
        · rw [upd_same, merge_kvT, keys_kvT]
          rfl
        · have := onceEach_len row
          unfold nI
          rw [List.length_map]
          omega
        · have s6 := s4.trans s5
          refine z H5 q dx ca nw d (.of s6.kp) (h.same s6) (s4.free fq) ?_
          rw [hq]
          rfl
end
end Rf
/-! ## RfW32 -/
namespace Rf
open PySem PySem.Spec PyProof.Rows L2
theorem flat_tN (l : List Nat) : (tN l).all flatV = true := by
  unfold tN tI
  rw [List.map_map, List.all_map, List.all_eq_true]
  exact fun x _ => rfl
theorem inV_tN (x : Nat) (l : List Nat) : inV (.int (x : Nat)) (tN l) = decide (x ∈ l) := by
  unfold inV tN tI
  rw [List.map_map, List.any_map, Bool.eq_iff_iff, List.any_eq_true, decide_eq_true_iff]
  constructor
  · rintro ⟨y, hy, e⟩
    have e : ((y : Int) == (x : Int)) = true := e
    have e : (y : Int) = (x : Int) := by simpa using e
    have : y = x := by omega
    rw [← this]
    exact hy
  · intro h
    refine ⟨x, h, ?_⟩
    show ((x : Int) == (x : Int)) = true
    simp
theorem set_tN (l : List Nat) (v x : Nat) (hv : v < l.length) : cutI (nI l) none (some (v : Int)) ++ [(x : Int)] ++ cutI (nI l) (some ((v : Int) + 1)) none = nI (l.set v x) := by
  have e : ((v : Int) + 1) = ((v + 1 : Nat) : Int) := rfl
  rw [cutI_to, e, cutI_from, List.set_eq_take_append_cons_drop, if_pos hv]
  unfold nI
  rw [List.map_append, List.map_cons, List.map_take, List.map_drop, List.append_assoc]
  rfl
section
variable {P : Program} {w : World} {K : PySem.W.Frag} {mg : Str → Option Value} {base : Heap} {CD CC R : Addr}
def spTell (P : Program) (w : World) (K : PySem.W.Frag) (CD CC R : Addr) : Sp := fun vs H Q E => ∃ (a : Addr) (s : Dsk) (n e k v m : Nat) (dx ca nw : Addr) (d : CaseD), vs = [.ref a, .int v, .int m] ∧ DeskR P w K CD CC H a s n e k dx ca nw d ∧ DEnds P w K CD CC R H a s n e k (dTell s n e k v m) Q E
abbrev sTell : Stmt := inClass (top 42) 12
abbrev nTell : List Str := ["self", "v", "done", "elder"]
theorem sc_tell : FnScope nTell ["self", "v", "done"] (defScope sTell) := ⟨rfl, rfl, rfl, by decide +kernel, rfl, by decide +kernel, by decide +kernel⟩
theorem ok_tell (Cc : Csts mg) (T : DeskTxt K mg CD) (TC : CaseTxt K mg CC) (D : MDef K CD "tell" "Desk.tell" sTell ["self", "v", "done"]) (Mn : Met P w K mg base (L2.CX P w) 4 CD "need_view" ["self", "v"] (spNeedV P w K CD CC R)) (Cr : Cal P w K mg base (L2.CX P w) 3 "refuse" ["bad", "number"] (spRefuse R))
    (Md : Met P w K mg base CX0 2 CC "deeds_of" ["self", "view"] (spDeeds K CC)) : Met P w K mg base (L2.CX P w) 5 CD "tell" ["self", "v", "done"] (spTell P w K CD CC R) := by
  refine D.met fun f fd F => F.okX sc_tell (fun vs H Q E h => ?_) (fun cdv A outer s H vs Q E hr h => ?_)
  · obtain ⟨a, s, n, e, k, v, m, dx, ca, nw, d, rfl, _⟩ := h
    rfl
  · have nd := sc_tell.nd
    refine ⟨_, pss_cons (ps_expr (pe_mS (E := WE (fun cls d _ H => E cls d H)) T.cl Mn hr (fun σ => passAt (takes_of rfl rfl rfl rfl) σ) (pv 0) (pa_cons (pv 1) pa_nil)))
      (pss_cons (ps_expr (pe_cS (E := WE (fun cls d _ H => E cls d H)) Cr hr (fun σ => passAt (takes_of rfl rfl rfl rfl) σ) (pa_cons (pe_cmpR op_notIn_seq (pv 2) (pe_m TC.cl Md hr (pe_fld (pv 0) rfl) (pa_cons (pv 1) pa_nil)) rfl) (pa_cons (pe_gi Cc.num) pa_nil))))
      (pss_cons (ps_set (i := 3) nd rfl (Or.inl rfl) (pe_ix ix_tup (pe_fld (pv 0) rfl) (pv 1) (fun _ _ => rfl)))
      (pss_cons (ps_fld (pv 0) (pe_op op_catA (pe_op op_catA (pe_slice sl_tupA (pe_fld (pv 0) rfl) po_none (po_some (pv 1))) (pe_tup (pa_cons (pv 2) pa_nil))) (pe_slice sl_tupA (pe_fld (pv 0) rfl) (po_some (pe_op op_add (pv 1) pe_int)) po_none)) rfl)
      (pss_one (ps_ret (pe_lst (pa_cons (pv 3) pa_nil))))))), ?_⟩
    obtain ⟨a, s, n, e, k, v, m, dx, ca, nw, d, rfl, h, z⟩ := h
    unfold dTell at z
    refine ⟨_, rfl, a, dx, _, rfl, h.obj, dF_none (by decide +kernel), _, rfl, a, s, n, e, k, v, dx, ca, nw, d, rfl, h, fun hi => ?_, fun hi => ?_⟩
    · rw [if_pos hi] at z
      exact fun H' dd s' hd => z H' dd dx ca nw d (.of s'.kp) (h.same s') hd
    · rw [if_neg (by omega)] at z
      refine ⟨_, rfl, _, rfl, a, CD, dx, _, _, rfl, h.obj, T.cl, T.nC, dF_C, ca, d.dx, _, rfl, h.cs.st.obj, cF_none (by decide +kernel), _, rfl, ca, n, e, k, v, d, rfl, h.cs.st, hi, fun H1 q s1 fq hq => ?_⟩
      have h1 := h.same s1
      refine ⟨q, _, rfl, .inl (.of hq), rfl, flat_tN _, _, _, rfl, fun hb => ?_, fun hb => ?_⟩
      · rw [if_pos rfl, inV_tN] at hb
        rw [if_neg (by simpa using hb)] at z
        exact fun H' dd s' hd => z H' dd dx ca nw d (.of (s1.trans s').kp) (h1.same s') hd
      · rw [if_pos rfl, inV_tN] at hb
        have hin : m ∈ deedsOf ((allViews (allNames n k) e).getD v []) := by simpa using hb
        rw [if_pos hin] at z
        have hm2 : m ≤ 2 := by
          unfold deedsOf at hin
          split at hin <;> simp at hin <;> omega
        have hv : v < s.now.length := by rw [h1.rule.len]; exact hi
        have hnow : s.now[v]? = some (s.now.getD v 0) := by
          rw [List.getD_eq_getElem?_getD, List.getElem?_eq_getElem hv]
          rfl
        have hl16 := (views_few h.cs.st.good h.cs.st.e2).2
        have hlen := h1.rule.len
        refine ⟨_, rfl, a, CD, dx, _, _, rfl, h1.obj, T.cl, T.nN, dF_N, _, rfl, nw, _, _, _, rfl, rfl, h1.nw, atI_nat (nat_at' hnow), ?_⟩
        refine ⟨_, rfl, a, CD, dx, _, _, rfl, h1.obj, T.cl, T.nN, dF_N, no_part ⟨_, rfl, _, rfl, cut_tI (r := nI s.now) h1.nw fun H2 q2 s2 t2 => ?_⟩⟩
        refine ⟨_, rfl, (by show 1 ≤ sizeLine; decide), fun q3 hq3 => ?_⟩
        have s3 := s2.trans (Same.new (o := .tup [V.int (m : Nat)]) hq3)
        have nl : (nI s.now).length = s.now.length := by unfold nI; rw [List.length_map]
        refine cat_tI (s := [(m : Int)]) ((Same.new hq3).tup t2) (SqT.of upd_same) ?_ fun H4 q4 s4 t4 => ?_
        · unfold cutI
          rw [List.length_take, List.length_drop, List.length_singleton]
          omega
        have s14 := s3.trans s4
        have h4 := h1.same s14
        refine ⟨_, rfl, a, CD, dx, _, _, rfl, h4.obj, T.cl, T.nN, dF_N, _, rfl, _, _, rfl, rfl, _, rfl, no_part (cut_tI (r := nI s.now) h4.nw fun H5 q5 s5 t5 => ?_)⟩
        refine cat_tI (s5.tup t4) t5 ?_ fun H6 q6 s6 t6 => ?_
        · unfold cutI
          simp only [List.length_append, List.length_take, List.length_drop, List.length_singleton]
          omega
        have s16 := (s14.trans s5).trans s6
        have h6 := h1.same s16
        have t6 : SqT K H6 q6 (tN (s.now.set v m)) := by
          have t6 := t6
          rw [set_tN _ _ _ hv] at t6
          exact t6
        refine ⟨_, rfl, a, CD, dx, _, rfl, h6.obj, T.cl, T.nN, (by show 4 < 1000; decide), ?_⟩
        have h7 := h6.set (s' := { s with now := s.now.set v m }) (nw' := q6) rfl t6 ⟨by show (s.now.set v m).length = _; rw [List.length_set]; exact hlen, fun x hx => by
          rcases List.mem_or_eq_of_mem_set hx with hx | hx
          · exact h1.rule.each x hx
          · rw [hx]; exact hm2⟩ h6.mv h6.mb
        have e2 : upd H6 a (.ins CD dx (putF ("now" : Str) (V.ref q6) (dF (.ref ca) s.moves s.marked nw))) = upd H6 a (.ins CD dx (dF (.ref ca) s.moves s.marked q6)) := by rw [dF_putN]
        have kb : KpB a H (upd H6 a (.ins CD dx (dF (.ref ca) s.moves s.marked q6))) := (KpB.of (s1.trans s16).kp).put h6.obj
        rw [e2]
        have h7 : DeskR P w K CD CC (upd H6 a (.ins CD dx (dF (.ref ca) s.moves s.marked q6))) a { s with now := s.now.set v m } n e k dx ca q6 d := h7
        generalize upd H6 a (.ins CD dx (dF (.ref ca) s.moves s.marked q6)) = H7 at h7 kb ⊢
        refine ⟨_, rfl, (by show 1 ≤ sizeLine; decide), fun p hp => ?_⟩
        exact z _ p dx ca q6 d (kb.trans (.of (Same.new hp).kp)) (h7.same (Same.new hp)) (kb.free p hp) upd_same
end
end Rf
/-! ## RfW33 -/
namespace Rf
open PySem PySem.Spec PyProof.Rows L2
theorem flat_tI (l : List Int) : (tI l).all flatV = true := by
  unfold tI
  rw [List.all_map, List.all_eq_true]
  exact fun x _ => rfl
theorem index_ints {K : PySem.W.Frag} {H : Hp} {Q : VK} {a : Addr} {ns : List Int} {x : Int} (hl : SqL K H a (tI ns)) (hx : x ∈ ns) (q : Q (.int (ns.idxOf x : Nat)) H) : rIndex K (.ref a) [.int x] H Q := by
  obtain ⟨i1, i2⟩ := idx_at hx
  refine ⟨a, tI ns, .int x, ns.idxOf x, .int x, rfl, rfl, hl, rfl, flat_tI ns, ?_, ?_, fun m z' hm hz => ?_, q⟩
  · unfold tI
    rw [List.getElem?_map, i1]
    rfl
  · show (x == x) = true
    simp
  · obtain ⟨y, hy, rfl⟩ := int_at hz
    have := i2 m y hm hy
    show (y == x) = false
    exact beq_false_of_ne this
theorem many_ge (n e k : Nat) : 1 ≤ manyRules (allViews (allNames n k) e) := many_pos _ 1 (Nat.le_refl _)
section
variable {P : Program} {w : World} {K : PySem.W.Frag} {mg : Str → Option Value} {base : Heap} {CD CC R : Addr}
def spOut (P : Program) (w : World) (K : PySem.W.Frag) (CD CC R : Addr) (g : Dsk → Nat → Nat → Nat → Out) : Sp := fun vs H Q E => ∃ (a : Addr) (s : Dsk) (n e k : Nat) (dx ca nw : Addr) (d : CaseD), vs = [.ref a] ∧ DeskR P w K CD CC H a s n e k dx ca nw d ∧ DEnds P w K CD CC R H a s n e k (g s n e k) Q E
abbrev sBest : Stmt := inClass (top 42) 19
abbrev nBest : List Str := ["self", "counts", "most", "bits"]
theorem sc_best : FnScope nBest ["self"] (defScope sBest) := ⟨rfl, rfl, rfl, by decide +kernel, rfl, by decide +kernel, by decide +kernel⟩
theorem ok_best (B : Bts mg) (T : DeskTxt K mg CD) (TC : CaseTxt K mg CC) (D : MDef K CD "best" "Desk.best" sBest ["self"]) (Mw : Met P w K mg base (L2.CX P w) 8 CD "what_rules_do" ["self", "moves"] (spWhat P w K CD CC R)) (Cm : Cal P w K mg base CX0 1 "members" ["bits"] (spMembers K))
    (Mr : Met P w K mg base CX0 3 CC "rules" ["self"] (spRules K CC)) : Met P w K mg base (L2.CX P w) 9 CD "best" ["self"] (spOut P w K CD CC R dBest) := by
  refine D.met fun f fd F => F.okX sc_best (fun vs H Q E h => ?_) (fun cdv A outer s H vs Q E hr h => ?_)
  · obtain ⟨a, s, n, e, k, dx, ca, nw, d, rfl, _⟩ := h
    rfl
  · have nd := sc_best.nd
    refine ⟨_, pss_cons (ps_setLc (i := 1) (own := [("bits", 3)]) (g := gName 3) (tt := tYes) (te := tCB (rLen K) (tCons (tCall (spMembers K) [] E0 (tCons (tOp rAnd (tVar 3) (tFld K (tVar 0) "marked")) tNil)) tNil)) rfl nd rfl rfl (sw_true rfl rfl rfl (by decide +kernel))
          (pi_list (pe_mS (E := WE (fun cls d _ H => E cls d H)) T.cl Mw hr (fun σ => passAt (takes_of rfl rfl rfl rfl) σ) (pv 0) (pa_cons (pe_fld (pv 0) rfl) pa_nil)))
          (blkOk_by (own := [("bits", 3)]) (N := nBest) (sc := defScope sBest) (by decide +kernel)) (fun _ _ _ _ _ => pg_name (i := 3) nd rfl (Or.inl rfl)) (fun _ _ _ _ _ => pts_nil)
          (fun _ _ _ _ _ => pe_callB call_len_seq rfl B.len bt_len (pa_cons (pe_c Cm hr (pa_cons (pe_op op_and (pv 3) (pe_fld (pv 0) rfl)) pa_nil)) pa_nil)))
      (pss_cons (ps_set (i := 2) nd rfl (Or.inl rfl) (pe_callB (cr_max rfl) rfl B.max bt_max (pa_cons (pv 1) pa_nil)))
      (pss_one (ps_ret (pe_op op_cat (pe_lst (pa_cons (pv 2) pa_nil)) (pe_callTy call_list_of rfl B.list bt_list (pa_cons (pe_ix ix_list (pe_m0 TC.cl Mr hr (pe_fld (pv 0) rfl))
        (pe_bm PySem.F.plainAttrs_list PySem.F.slot_list_index PySem.F.type_list_index mt_index (pv 1) (pa_cons (pv 2) pa_nil)) (fun _ _ => rfl)) pa_nil)))))), ?_⟩
    obtain ⟨a, s, n, e, k, dx, ca, nw, d, rfl, h, z⟩ := h
    unfold dBest at z
    have h8 := (names_few h.cs.st.good).2
    have hsm := small_bits h8 h.mb
    refine ⟨_, rfl, a, dx, _, rfl, h.obj, dF_none (by decide +kernel), _, rfl, a, CD, dx, _, _, rfl, h.obj, T.cl, T.nM, dF_M, a, s, n, e, k, s.moves, dx, ca, nw, d, rfl, h, h.mv, fun hm => ?_, fun hle H1 q d1 s1 h1 nk hq => ?_⟩
    · rw [if_pos hm] at z
      exact fun H' dd s' hd => z H' dd dx ca nw d (.of s'.kp) (h.same s') hd
    · rw [if_neg (by omega)] at z
      have hlen := allG_len n e k s.moves
      have hge := many_ge n e k
      have hdl : (dCounts s n e k).length = (allG n e k s.moves).length := by unfold dCounts; rw [List.length_map]
      refine ⟨q, rfl, ⟨_, .of hq⟩, fun b hb => ?_⟩
      refine lc_map (walk_list (K := K) (a := q) (xs := tN (allG n e k s.moves))) (FInt fun i => (dCounts s n e k).getD i 0) stays_int hb (by rw [tN_len]; omega) (fun H' s' => .of (s' _ _ hq)) ?_ ?_
      · rintro i x H3 H2 hi s2 ⟨rfl, hx⟩ Z hz
        obtain ⟨v, hv, rfl⟩ := nat_at hx
        have h2 := h1.same s2
        have hb50 : v &&& s.marked < 2 ^ 50 := Nat.lt_of_le_of_lt Nat.and_le_right hsm
        refine ⟨rfl, _, rfl, _, rfl, a, CD, dx, _, _, rfl, h2.obj, T.cl, T.nB, dF_B, _, _, rfl, rfl, v &&& s.marked, congrArg (fun x => [V.int x]) (and_nat _ _), hb50, fun H5 q5 s5 f5 hq5 => ⟨q5, _, rfl, .inl (.of hq5), hz _ H5 s5 ?_⟩⟩
        show V.int ((tN (members (v &&& s.marked))).length : Nat) = V.int ((dCounts s n e k).getD i 0)
        have e1 : (dCounts s n e k).getD i 0 = ((members (v &&& s.marked)).length : Int) := by
          apply getD_of
          unfold dCounts
          rw [List.getElem?_map, hv]
          rfl
        rw [e1, tN_len]
      · intro H2 acc s2 ha pr
        have ea := ints_of pr
        have e1 : (List.range (tN (allG n e k s.moves)).length).map (fun i => (dCounts s n e k).getD i 0) = dCounts s n e k := by
          rw [tN_len, ← hdl]
          exact range_getD 0 _
        rw [e1] at ea
        subst ea
        have h2 := h1.same s2
        refine ⟨_, rfl, b, dCounts s n e k, rfl, .of ha, by omega, fun m hm hall => ?_⟩
        have em := maxI_is hm hall
        rw [em] at z
        refine ⟨_, rfl, (by show 1 ≤ sizeLine; decide), fun p hp => ?_⟩
        have sp := Same.new (o := .lst [V.int m]) hp
        have h3 := h2.same sp
        refine ⟨_, rfl, a, CD, dx, _, _, rfl, h3.obj, T.cl, T.nC, dF_C, ca, d1.dx, _, rfl, h3.cs.st.obj, cF_none (by decide +kernel), ca, n, e, k, d1, rfl, h3.cs.st, hle, fun H4 r s4 fr hrr => ?_⟩
        obtain ⟨rps, hrl, hrt⟩ := hrr
        have ha4 := s4 _ _ (sp _ _ ha)
        refine ⟨_, rfl, .inl ⟨rfl, _, .of ha4⟩, _, rfl, nil_ok (index_ints (.of ha4) hm ?_)⟩
        have hlt := List.idxOf_lt_length_of_mem hm
        have hl := hrt.length
        unfold castRows at hl
        rw [List.length_map] at hl
        have hrlen : (rules (allViews (allNames n k) e)).length = manyRules (allViews (allNames n k) e) := rules_len _ _ rfl
        generalize (dCounts s n e k).idxOf m = g at z hlt ⊢
        obtain ⟨u, hu⟩ : ∃ u, rps[g]? = some u := ⟨rps[g]'(by omega), List.getElem?_eq_getElem _⟩
        obtain ⟨rowI, hrow, hpt⟩ := Paired.at hrt g u hu
        unfold castRows at hrow
        rw [List.getElem?_map] at hrow
        obtain ⟨row, hrow2, rfl⟩ := Option.map_eq_some_iff.mp hrow
        rw [getD_of hrow2] at z
        have hrl2 := (rules_row _ _ rfl row (List.mem_of_getElem? hrow2)).1
        have hl16 := (views_few h.cs.st.good h.cs.st.e2).2
        refine ⟨r, _, _, _, rfl, rfl, .of hrl, atI_nat (by rw [List.getElem?_map, hu]; rfl), u, tN row, rfl, .inr hpt, fun l hl4 => ?_⟩
        have sl := Same.new (o := .lst (tN row)) hl4
        refine ⟨p, l, _, _, rfl, rfl, sl _ _ (s4 _ _ upd_same), upd_same, ?_, fun v hv => ?_⟩
        · rw [tN_len]
          exact small_line (by show 1 + row.length ≤ 1000000; omega)
        · have sv := Same.new (o := .lst ([V.int m] ++ tN row)) hv
          have sall := (((s2.trans sp).trans s4).trans sl).trans sv
          refine z _ v dx ca nw d1 (.of (s1.trans sall.kp)) (h1.same sall) (s1.free v (((s2.trans sp).trans s4).trans sl |>.free hv)) ?_
          rw [upd_same]
          rfl
end
end Rf
/-! ## RfN1 -/
namespace Rf
/-! ### the names and the views of each case, written out -/
abbrev dOf (n e k a : Nat) : Km537.Desk := ⟨n, e, k, a, [], []⟩
def castR (l : List Nat) : List Int := l.map fun (x : Nat) => (x : Int)
def NT : List (List (List (List Nat))) := [[[[0, 0, 1]], [[0, 0, 2], [0, 1, 1]], [[0, 0, 3], [0, 1, 2], [1, 1, 1]]], [[[0, 0, 0, 1]], [[0, 0, 0, 2], [0, 0, 1, 1], [0, 1, 0, 1]], [[0, 0, 0, 3], [0, 0, 1, 2], [0, 1, 0, 2], [0, 1, 1, 1]]], [[[0, 0, 0, 0, 1]], [[0, 0, 0, 0, 2], [0, 0, 0, 1, 1], [0, 0, 1, 0, 1]], [[0, 0, 0, 0, 3], [0, 0, 0, 1, 2], [0, 0, 1, 0, 2], [0, 0, 1, 1, 1], [0, 1, 0, 1, 1]]], [[[0, 0, 0, 0, 0, 1]], [[0, 0, 0, 0, 0, 2], [0, 0, 0, 0, 1, 1], [0, 0, 0, 1, 0, 1], [0, 0, 1, 0, 0, 1]], [[0, 0, 0, 0, 0, 3], [0, 0, 0, 0, 1, 2], [0, 0, 0, 1, 0, 2], [0, 0, 0, 1, 1, 1], [0, 0, 1, 0, 0, 2], [0, 0, 1, 0, 1, 1], [0, 1, 0, 1, 0, 1]]], [[[0, 0, 0, 0, 0, 0, 1]], [[0, 0, 0, 0, 0, 0, 2], [0, 0, 0, 0, 0, 1, 1], [0, 0, 0, 0, 1, 0, 1], [0, 0, 0, 1, 0, 0, 1]], [[0, 0, 0, 0, 0, 0, 3], [0, 0, 0, 0, 0, 1, 2], [0, 0, 0, 0, 1, 0, 2], [0, 0, 0, 0, 1, 1, 1], [0, 0, 0, 1, 0, 0, 2], [0, 0, 0, 1, 0, 1, 1], [0, 0, 1, 0, 0, 1, 1], [0, 0, 1, 0, 1, 0, 1]]]]
def VT : List (List (List (List (List Nat)))) := [[[[[1, 0, 0]], [[1, 0, 0]], [[1, 0, 0]]], [[[1, 0, 1], [2, 0, 0]], [[1, 0, 1], [2, 0, 0]], [[1, 0, 0], [1, 0, 1]]], [[[1, 0, 2], [1, 1, 1], [2, 0, 1], [3, 0, 0]], [[1, 0, 2], [1, 1, 1], [2, 0, 0], [2, 0, 1]], [[1, 0, 0], [1, 0, 1], [1, 1, 1]]]], [[[[1, 0, 0, 0]], [[1, 0, 0, 0]], [[1, 0, 0, 0]]], [[[1, 0, 0, 1], [1, 0, 1, 0], [2, 0, 0, 0]], [[1, 0, 0, 1], [1, 0, 1, 0], [2, 0, 0, 0]], [[1, 0, 0, 0], [1, 0, 0, 1], [1, 0, 1, 0]]], [[[1, 0, 0, 2], [1, 0, 1, 1], [1, 0, 2, 0], [1, 1, 0, 1], [2, 0, 0, 1], [2, 0, 1, 0], [3, 0, 0, 0]], [[1, 0, 0, 2], [1, 0, 1, 1], [1, 0, 2, 0], [1, 1, 0, 1], [2, 0, 0, 0], [2, 0, 0, 1], [2, 0, 1, 0]], [[1, 0, 0, 0], [1, 0, 0, 1], [1, 0, 1, 0], [1, 0, 1, 1], [1, 1, 0, 1]]]], [[[[1, 0, 0, 0, 0]], [[1, 0, 0, 0, 0]], [[1, 0, 0, 0, 0]]], [[[1, 0, 0, 0, 1], [1, 0, 0, 1, 0], [2, 0, 0, 0, 0]], [[1, 0, 0, 0, 1], [1, 0, 0, 1, 0], [2, 0, 0, 0, 0]], [[1, 0, 0, 0, 0], [1, 0, 0, 0, 1], [1, 0, 0, 1, 0]]], [[[1, 0, 0, 0, 2], [1, 0, 0, 1, 1], [1, 0, 0, 2, 0], [1, 0, 1, 0, 1], [1, 0, 1, 1, 0], [1, 1, 0, 0, 1], [2, 0, 0, 0, 1], [2, 0, 0, 1, 0], [3, 0, 0, 0, 0]], [[1, 0, 0, 0, 2], [1, 0, 0, 1, 1], [1, 0, 0, 2, 0], [1, 0, 1, 0, 1], [1, 0, 1, 1, 0], [1, 1, 0, 0, 1], [2, 0, 0, 0, 0], [2, 0, 0, 0, 1], [2, 0, 0, 1, 0]], [[1, 0, 0, 0, 0], [1, 0, 0, 0, 1], [1, 0, 0, 1, 0], [1, 0, 0, 1, 1], [1, 0, 1, 0, 1], [1, 0, 1, 1, 0], [1, 1, 0, 0, 1]]]], [[[[1, 0, 0, 0, 0, 0]], [[1, 0, 0, 0, 0, 0]], [[1, 0, 0, 0, 0, 0]]], [[[1, 0, 0, 0, 0, 1], [1, 0, 0, 0, 1, 0], [1, 0, 0, 1, 0, 0], [2, 0, 0, 0, 0, 0]], [[1, 0, 0, 0, 0, 1], [1, 0, 0, 0, 1, 0], [1, 0, 0, 1, 0, 0], [2, 0, 0, 0, 0, 0]], [[1, 0, 0, 0, 0, 0], [1, 0, 0, 0, 0, 1], [1, 0, 0, 0, 1, 0], [1, 0, 0, 1, 0, 0]]], [[[1, 0, 0, 0, 0, 2], [1, 0, 0, 0, 1, 1], [1, 0, 0, 0, 2, 0], [1, 0, 0, 1, 0, 1], [1, 0, 0, 1, 1, 0], [1, 0, 0, 2, 0, 0], [1, 0, 1, 0, 0, 1], [1, 0, 1, 0, 1, 0], [1, 1, 0, 0, 0, 1], [2, 0, 0, 0, 0, 1], [2, 0, 0, 0, 1, 0], [2, 0, 0, 1, 0, 0], [3, 0, 0, 0, 0, 0]], [[1, 0, 0, 0, 0, 2], [1, 0, 0, 0, 1, 1], [1, 0, 0, 0, 2, 0], [1, 0, 0, 1, 0, 1], [1, 0, 0, 1, 1, 0], [1, 0, 0, 2, 0, 0], [1, 0, 1, 0, 0, 1], [1, 0, 1, 0, 1, 0], [1, 1, 0, 0, 0, 1], [2, 0, 0, 0, 0, 0], [2, 0, 0, 0, 0, 1], [2, 0, 0, 0, 1, 0], [2, 0, 0, 1, 0, 0]], [[1, 0, 0, 0, 0, 0], [1, 0, 0, 0, 0, 1], [1, 0, 0, 0, 1, 0], [1, 0, 0, 0, 1, 1], [1, 0, 0, 1, 0, 0], [1, 0, 0, 1, 0, 1], [1, 0, 0, 1, 1, 0], [1, 0, 1, 0, 0, 1], [1, 0, 1, 0, 1, 0], [1, 1, 0, 0, 0, 1]]]], [[[[1, 0, 0, 0, 0, 0, 0]], [[1, 0, 0, 0, 0, 0, 0]], [[1, 0, 0, 0, 0, 0, 0]]], [[[1, 0, 0, 0, 0, 0, 1], [1, 0, 0, 0, 0, 1, 0], [1, 0, 0, 0, 1, 0, 0], [2, 0, 0, 0, 0, 0, 0]], [[1, 0, 0, 0, 0, 0, 1], [1, 0, 0, 0, 0, 1, 0], [1, 0, 0, 0, 1, 0, 0], [2, 0, 0, 0, 0, 0, 0]], [[1, 0, 0, 0, 0, 0, 0], [1, 0, 0, 0, 0, 0, 1], [1, 0, 0, 0, 0, 1, 0], [1, 0, 0, 0, 1, 0, 0]]], [[[1, 0, 0, 0, 0, 0, 2], [1, 0, 0, 0, 0, 1, 1], [1, 0, 0, 0, 0, 2, 0], [1, 0, 0, 0, 1, 0, 1], [1, 0, 0, 0, 1, 1, 0], [1, 0, 0, 0, 2, 0, 0], [1, 0, 0, 1, 0, 0, 1], [1, 0, 0, 1, 0, 1, 0], [1, 0, 0, 1, 1, 0, 0], [1, 0, 1, 0, 0, 0, 1], [1, 0, 1, 0, 0, 1, 0], [1, 1, 0, 0, 0, 0, 1], [2, 0, 0, 0, 0, 0, 1], [2, 0, 0, 0, 0, 1, 0], [2, 0, 0, 0, 1, 0, 0], [3, 0, 0, 0, 0, 0, 0]], [[1, 0, 0, 0, 0, 0, 2], [1, 0, 0, 0, 0, 1, 1], [1, 0, 0, 0, 0, 2, 0], [1, 0, 0, 0, 1, 0, 1], [1, 0, 0, 0, 1, 1, 0], [1, 0, 0, 0, 2, 0, 0], [1, 0, 0, 1, 0, 0, 1], [1, 0, 0, 1, 0, 1, 0], [1, 0, 0, 1, 1, 0, 0], [1, 0, 1, 0, 0, 0, 1], [1, 0, 1, 0, 0, 1, 0], [1, 1, 0, 0, 0, 0, 1], [2, 0, 0, 0, 0, 0, 0], [2, 0, 0, 0, 0, 0, 1], [2, 0, 0, 0, 0, 1, 0], [2, 0, 0, 0, 1, 0, 0]], [[1, 0, 0, 0, 0, 0, 0], [1, 0, 0, 0, 0, 0, 1], [1, 0, 0, 0, 0, 1, 0], [1, 0, 0, 0, 0, 1, 1], [1, 0, 0, 0, 1, 0, 0], [1, 0, 0, 0, 1, 0, 1], [1, 0, 0, 0, 1, 1, 0], [1, 0, 0, 1, 0, 0, 1], [1, 0, 0, 1, 0, 1, 0], [1, 0, 0, 1, 1, 0, 0], [1, 0, 1, 0, 0, 0, 1], [1, 0, 1, 0, 0, 1, 0], [1, 1, 0, 0, 0, 0, 1]]]]]
def NL (n k : Nat) : List (List Nat) := (NT.getD (n - 3) []).getD (k - 1) []
def VL (n e k : Nat) : List (List Nat) := ((VT.getD (n - 3) []).getD (k - 1) []).getD e []
def goodAll3 (p : Nat → Nat → Nat → Bool) : Bool := goodAll fun n k => [0, 1, 2].all fun e => p n e k
theorem good_all3 {p : Nat → Nat → Nat → Bool} (h : goodAll3 p = true) {n e k : Nat} (g : Good n k) (he : e ≤ 2) : p n e k = true := by
  have h1 := good_all h g
  rw [List.all_eq_true] at h1
  exact h1 e (by simp; omega)
theorem nl_spec0 : goodAll (fun n k => decide (Km534.names n k = NL n k)) = true := by decide +kernel
theorem nl_spec {n k : Nat} (g : Good n k) : Km534.names n k = NL n k := of_decide_eq_true (good_all nl_spec0 g)
theorem nl_mine0 : goodAll (fun n k => decide (allNames n k = (NL n k).map castR)) = true := by decide +kernel
theorem nl_mine {n k : Nat} (g : Good n k) : allNames n k = (NL n k).map castR := of_decide_eq_true (good_all nl_mine0 g)
def viewsFrom (ns : List (List Nat)) (e : Nat) : List (List Nat) := (ns.flatMap fun l => Km534.viewsOf ⟨l, e⟩).foldl (fun (o : List (List Nat)) (v : List Nat) => Km537.insert v o) []
theorem vl_spec0 : goodAll3 (fun n e k => decide (viewsFrom (NL n k) e = VL n e k)) = true := by decide +kernel
theorem vl_spec {n e k : Nat} (g : Good n k) (he : e ≤ 2) (d : Km537.Desk) (h1 : d.n = n) (h2 : d.eyes = e) (h3 : d.k = k) : Km537.views d = VL n e k := by
  have h := of_decide_eq_true (good_all3 vl_spec0 g he)
  rw [← h, ← nl_spec g, ← h1, ← h2, ← h3]
  rfl
theorem vl_mine0 : goodAll3 (fun n e k => decide (allViews ((NL n k).map castR) e = (VL n e k).map castR)) = true := by decide +kernel
theorem vl_mine {n e k : Nat} (g : Good n k) (he : e ≤ 2) : allViews (allNames n k) e = (VL n e k).map castR := by
  rw [nl_mine g]
  exact of_decide_eq_true (good_all3 vl_mine0 g he)
end Rf
/-! ## RfN2 -/
namespace Rf
/-! ### what each name's robots do, by each row of choices: the mirror's rings and the specification's are alike -/
def hadL (vs : List (List Int)) (e : Nat) (l : List Nat) : List Nat := (viewsIn (castR l) e).map fun v => vs.idxOf v
def sameRings (R1 : List (List Int)) (R2 : List (List Nat)) : Bool := !R1.isEmpty && R1.all (fun y => R2.any fun z => decide (castR z = y)) && R2.all fun z => R1.any fun y => decide (castR z = y)
def locX (had uses : List Nat) (e : Nat) (l : List Nat) (mine : List (List Nat)) (r sides : List Int) (x : List Nat) : Bool :=
  let deeds := had.map fun h => x.getD (uses.idxOf h) 0
  let still := decide (deeds = List.replicate deeds.length 0)
  [0, 1, 2].all fun a =>
    let kd : Km535.Desk := ⟨⟨l, e⟩, mine.zip x, a⟩
    decide (Km535.eager kd l = []) == still && (still || sameRings (ringsBehind r sides deeds a) (Km535.nextBy kd a l))
def locL (vs : List (List Nat)) (e : Nat) (l : List Nat) : Bool :=
  let had := hadL (vs.map castR) e l
  let uses := onceEach had
  let mine := Km534.viewsOf ⟨l, e⟩
  decide (mine.map (fun v => Km537.place vs v) = uses) && (Km535.gathered l == decide (had.length = 1)) &&
  (Km537.allRules mine).all fun x => locX had uses e l mine (castR l) ((hadPlaces (castR l)).map fun p => sideOf (castR l) p e) x
def locC (n e k : Nat) : Bool := (NL n k).all fun l => locL (VL n e k) e l
end Rf
/-! ## RfN4 -/
namespace Rf
/-! ### numbers as sets of bits -/
theorem testBit_add_pow : ∀ (i b j : Nat), b.testBit i = false → (2 ^ i + b).testBit j = (decide (j = i) || b.testBit j)
  | 0, b, j, h => by
    rw [Nat.testBit_zero] at h
    have h : b % 2 = 0 := by
      have := of_decide_eq_false h
      omega
    cases j with
    | zero => simp [Nat.testBit_zero]; omega
    | succ j =>
      rw [Nat.testBit_add_one, Nat.testBit_add_one]
      have e : (2 ^ 0 + b) / 2 = b / 2 := by simp; omega
      rw [e]
      simp
  | i + 1, b, j, h => by
    rw [Nat.testBit_add_one] at h
    cases j with
    | zero =>
      rw [Nat.testBit_zero, Nat.testBit_zero, Nat.pow_succ]
      have e : (2 ^ i * 2 + b) % 2 = b % 2 := by omega
      rw [e]
      simp
    | succ j =>
      rw [Nat.testBit_add_one, Nat.testBit_add_one]
      have e : (2 ^ (i + 1) + b) / 2 = 2 ^ i + b / 2 := by
        rw [Nat.pow_succ]
        omega
      rw [e, testBit_add_pow i (b / 2) j h]
      simp
theorem bitsOf_cons (x : Nat) (l : List Nat) : bitsOf (x :: l) = 2 ^ x + bitsOf l := by simp [bitsOf]
theorem testBit_bitsOf : ∀ (l : List Nat), l.Nodup → ∀ j, (bitsOf l).testBit j = decide (j ∈ l)
  | [], _, j => by simp [bitsOf]
  | x :: l, h, j => by
    have hp := List.nodup_cons.mp h
    have ih := testBit_bitsOf l hp.2
    rw [bitsOf_cons, testBit_add_pow x _ j (by rw [ih x]; exact decide_eq_false hp.1), ih j]
    rw [Bool.eq_iff_iff]
    simp
theorem mem_members (b j : Nat) : j ∈ members b ↔ b.testBit j = true := by
  unfold members
  rw [List.mem_filter, List.mem_range]
  refine ⟨fun h => h.2, fun h => ⟨?_, h⟩⟩
  have hge := Nat.ge_two_pow_of_testBit h
  have hne : b ≠ 0 := fun e => by rw [e] at h; simp at h
  have := (Nat.le_log2 hne).mpr hge
  omega
abbrev RisingN (l : List Nat) : Prop := l.Pairwise fun a b => a < b
theorem rising_range : ∀ n, RisingN (List.range n) := fun n => List.pairwise_lt_range
theorem rising_filter (p : Nat → Bool) {l : List Nat} (h : RisingN l) : RisingN (l.filter p) := List.Pairwise.filter p h
theorem rising_members (b : Nat) : RisingN (members b) := rising_filter _ (rising_range _)
theorem risingN_same : ∀ {l m : List Nat}, RisingN l → RisingN m → (∀ x, x ∈ l ↔ x ∈ m) → l = m
  | [], [], _, _, _ => rfl
  | [], y :: m, _, _, h => absurd ((h y).mpr List.mem_cons_self) (by simp)
  | x :: l, [], _, _, h => absurd ((h x).mp List.mem_cons_self) (by simp)
  | x :: l, y :: m, hl, hm, h => by
    have pl := List.pairwise_cons.mp hl
    have pm := List.pairwise_cons.mp hm
    have e : x = y := by
      rcases List.mem_cons.mp ((h x).mp List.mem_cons_self) with e | h1
      · exact e
      · rcases List.mem_cons.mp ((h y).mpr List.mem_cons_self) with e | h2
        · exact e.symm
        · have := pl.1 y h2
          have := pm.1 x h1
          omega
    subst e
    congr 1
    refine risingN_same pl.2 pm.2 fun z => ⟨fun hz => ?_, fun hz => ?_⟩
    · rcases List.mem_cons.mp ((h z).mp (List.mem_cons_of_mem _ hz)) with e | h1
      · have := pl.1 z hz; omega
      · exact h1
    · rcases List.mem_cons.mp ((h z).mpr (List.mem_cons_of_mem _ hz)) with e | h1
      · have := pm.1 z hz; omega
      · exact h1
theorem rising_nodup {l : List Nat} (h : RisingN l) : l.Nodup := List.Pairwise.imp (fun h => Nat.ne_of_lt h) h
theorem members_bitsOf {l : List Nat} (h : RisingN l) : members (bitsOf l) = l :=
  risingN_same (rising_members _) h fun x => by rw [mem_members, testBit_bitsOf l (rising_nodup h), decide_eq_true_iff]
/-- a set within another, as bits and as lists -/
theorem sub_bits (g m : Nat) : g &&& m = m ↔ ∀ j ∈ members m, g.testBit j = true := by
  constructor
  · intro h j hj
    have hj := (mem_members m j).mp hj
    have e : (g &&& m).testBit j = true := by rw [h]; exact hj
    rw [Nat.testBit_and, hj, Bool.and_true] at e
    exact e
  · intro h
    apply Nat.eq_of_testBit_eq
    intro j
    rw [Nat.testBit_and]
    cases c : m.testBit j with
    | false => simp
    | true => rw [h j ((mem_members m j).mpr c)]; rfl
theorem or_bits (b f : Nat) : b ||| f = f ↔ ∀ j, b.testBit j = true → f.testBit j = true := by
  constructor
  · intro h j hj
    have e : (b ||| f).testBit j = f.testBit j := by rw [h]
    rw [Nat.testBit_or, hj, Bool.true_or] at e
    exact e.symm
  · intro h
    apply Nat.eq_of_testBit_eq
    intro j
    rw [Nat.testBit_or]
    cases c : b.testBit j with
    | false => simp
    | true => rw [h j c]; rfl
theorem members_and (g m : Nat) : members (g &&& m) = (members m).filter fun j => g.testBit j :=
  risingN_same (rising_members _) (rising_filter _ (rising_members _)) fun x => by
    rw [mem_members, List.mem_filter, mem_members, Nat.testBit_and, Bool.and_eq_true, And.comm]
theorem members_lt {b L j : Nat} (hb : b < 2 ^ L) (h : j ∈ members b) : j < L := by
  have h := (mem_members b j).mp h
  have := Nat.ge_two_pow_of_testBit h
  apply Classical.byContradiction
  intro c
  have : 2 ^ L ≤ 2 ^ j := Nat.pow_le_pow_right (by decide) (by omega)
  omega
theorem insertN_mem (i : Nat) : ∀ (l : List Nat) (x : Nat), x ∈ Km537.insertN i l ↔ x = i ∨ x ∈ l
  | [], x => by simp [Km537.insertN]
  | y :: r, x => by
    unfold Km537.insertN
    split
    · simp
    · rw [List.mem_cons, insertN_mem i r x, List.mem_cons]
      constructor
      · rintro (h | h | h) <;> simp [h]
      · rintro (h | h | h) <;> simp [h]
theorem insertN_rising (i : Nat) : ∀ (l : List Nat), i ∉ l → RisingN l → RisingN (Km537.insertN i l)
  | [], _, _ => List.pairwise_singleton _ _
  | y :: r, hi, h => by
    have hp := List.pairwise_cons.mp h
    unfold Km537.insertN
    split
    · rename_i c
      refine List.pairwise_cons.mpr ⟨fun b hb => ?_, h⟩
      rcases List.mem_cons.mp hb with e | hb
      · rw [e]; exact c
      · exact Nat.lt_trans c (hp.1 b hb)
    · rename_i c
      have hy : i ≠ y := fun e => hi (by rw [e]; exact List.mem_cons_self)
      refine List.pairwise_cons.mpr ⟨fun b hb => ?_, insertN_rising i r (fun z => hi (List.mem_cons_of_mem _ z)) hp.2⟩
      rcases (insertN_mem i r b).mp hb with e | hb
      · rw [e]; omega
      · exact hp.1 b hb
theorem members_add {b i : Nat} (h : b.testBit i = false) : members (b + 2 ^ i) = Km537.insertN i (members b) := by
  refine risingN_same (rising_members _) (insertN_rising i _ (fun z => by rw [mem_members, h] at z; cases z) (rising_members _)) fun x => ?_
  rw [mem_members, insertN_mem, mem_members, Nat.add_comm, testBit_add_pow i b x h]
  simp
theorem testBit_sub_pow {b i : Nat} (h : b.testBit i = true) (j : Nat) : (b - 2 ^ i).testBit j = (decide (j ≠ i) && b.testBit j) := by
  have hge := Nat.ge_two_pow_of_testBit h
  have e : 2 ^ i + (b - 2 ^ i) = b := by omega
  have hf : (b - 2 ^ i).testBit i = false := by
    have z := Nat.testBit_two_pow_add_eq (b - 2 ^ i) i
    rw [e, h] at z
    cases c : (b - 2 ^ i).testBit i with
    | false => rfl
    | true => rw [c] at z; cases z
  have z := testBit_add_pow i (b - 2 ^ i) j hf
  rw [e] at z
  rw [z]
  by_cases c : j = i
  · subst c
    simp [hf]
  · simp [c]
theorem members_sub {b i : Nat} (h : b.testBit i = true) : members (b - 2 ^ i) = (members b).erase i := by
  have nd := rising_nodup (rising_members b)
  refine risingN_same (rising_members _) (List.Pairwise.sublist List.erase_sublist (rising_members b)) fun x => ?_
  rw [mem_members, testBit_sub_pow h, List.Nodup.mem_erase_iff nd, mem_members]
  simp
end Rf
/-! ## RfW34 -/
namespace Rf
open PySem PySem.Spec PyProof.Rows L2
theorem nats_of {ns : List Int} (h : ∀ x ∈ ns, 0 ≤ x) : nI (ns.map Int.toNat) = ns := by
  unfold nI
  rw [List.map_map]
  refine (List.map_congr_left (fun x hx => ?_)).trans (List.map_id _)
  have := h x hx
  show ((x.toNat : Nat) : Int) = x
  omega
theorem toNat_rising {ns : List Int} (h : ns.Pairwise (· < ·)) (h0 : ∀ x ∈ ns, 0 ≤ x) : RisingN (ns.map Int.toNat) := by
  rw [RisingN, List.pairwise_map]
  refine h.imp_of_mem fun {a b} ha hb hab => ?_
  have := h0 a ha
  have := h0 b hb
  omega
theorem goodP_few (s : Dsk) (n e k m : Nat) : (goodP s n e k m).length ≤ manyRules (allViews (allNames n k) e) := by
  unfold goodP
  refine Nat.le_trans (List.length_filter_le _ _) ?_
  rw [List.length_range, allG_len]
  exact Nat.le_refl _
theorem tN_eq (l : List Nat) : tN l = tI (nI l) := rfl
theorem nI_nil {l : List Nat} : nI l = [] ↔ l = [] := by
  unfold nI
  exact List.map_eq_nil_iff
section
variable {P : Program} {w : World} {K : PySem.W.Frag} {mg : Str → Option Value} {base : Heap} {CD CC R : Addr}
def spOutI (P : Program) (w : World) (K : PySem.W.Frag) (CD CC R : Addr) (g : Dsk → Nat → Nat → Nat → Nat → Out) : Sp := fun vs H Q E => ∃ (a : Addr) (s : Dsk) (n e k i : Nat) (dx ca nw : Addr) (d : CaseD), vs = [.ref a, .int i] ∧ DeskR P w K CD CC H a s n e k dx ca nw d ∧ DEnds P w K CD CC R H a s n e k (g s n e k i) Q E
abbrev sNeeded : Stmt := inClass (top 42) 20
abbrev nNeeded : List Str := ["self", "v", "some", "rules", "k"]
theorem sc_needed : FnScope nNeeded ["self", "v"] (defScope sNeeded) := ⟨rfl, rfl, rfl, by decide +kernel, rfl, by decide +kernel, by decide +kernel⟩
theorem ok_needed (B : Bts mg) (Cc : Csts mg) (T : DeskTxt K mg CD) (TC : CaseTxt K mg CC) (D : MDef K CD "needed" "Desk.needed" sNeeded ["self", "v"]) (Mn : Met P w K mg base (L2.CX P w) 4 CD "need_view" ["self", "v"] (spNeedV P w K CD CC R)) (Mg : Met P w K mg base (L2.CX P w) 9 CD "good_places" ["self", "moves"] (spGoodP P w K CD CC R)) (Cr : Cal P w K mg base (L2.CX P w) 3 "refuse" ["bad", "number"] (spRefuse R))
    (Mr : Met P w K mg base CX0 3 CC "rules" ["self"] (spRules K CC)) (Cb : Cal P w K mg base CX0 1 "bits_of" ["numbers"] (spBits K)) : Met P w K mg base (L2.CX P w) 10 CD "needed" ["self", "v"] (spOutI P w K CD CC R dNeeded) := by
  refine D.met fun f fd F => F.okX sc_needed (fun vs H Q E h => ?_) (fun cdv A outer s H vs Q E hr h => ?_)
  · obtain ⟨a, s, n, e, k, i, dx, ca, nw, d, rfl, _⟩ := h
    rfl
  · have nd := sc_needed.nd
    refine ⟨_, pss_cons (ps_expr (pe_mS (E := WE (fun cls d _ H => E cls d H)) T.cl Mn hr (fun σ => passAt (takes_of rfl rfl rfl rfl) σ) (pv 0) (pa_cons (pv 1) pa_nil)))
      (pss_cons (ps_set (i := 2) nd rfl (Or.inl rfl) (pe_mS (E := WE (fun cls d _ H => E cls d H)) T.cl Mg hr (fun σ => passAt (takes_of rfl rfl rfl rfl) σ) (pv 0) (pa_cons (pe_fld (pv 0) rfl) pa_nil)))
      (pss_cons (ps_expr (pe_cS (E := WE (fun cls d _ H => E cls d H)) Cr hr (fun σ => passAt (takes_of rfl rfl rfl rfl) σ) (pa_cons (pe_cmpR (op_eqD hr.units) (pv 2) (pe_lst pa_nil) (nomark _)) (pa_cons (pe_gi Cc.norule) pa_nil))))
      (pss_cons (ps_set (i := 3) nd rfl (Or.inr rfl) (pe_m0 TC.cl Mr hr (pe_fld (pv 0) rfl)))
      (pss_one (ps_ret (pe_lst (pa_cons (pe_c Cb hr (pa_cons (pe_callB (cr_sortedSet rfl) rfl B.sorted bt_sorted (pa_cons (pe_callTy (cr_setInts rfl) rfl B.set bt_set (pa_cons
        (pe_lc (own := [("k", 4)]) (g := gName 4) (tt := tYes) (te := tOp (rIxT K) (tOp (rIxL K) (tVar 3) (tVar 4)) (tVar 1)) rfl nd (pi_list (pv 2)) (blkOk_by (own := [("k", 4)]) (N := nNeeded) (sc := defScope sNeeded) (by decide +kernel))
          (fun _ _ _ _ _ => pg_name (i := 4) nd rfl (Or.inl rfl)) (fun _ _ _ _ _ => pts_nil) (fun _ _ _ _ _ => pe_ix ix_tup (pe_ix ix_list (pv 3) (pv 4) (fun _ _ => rfl)) (pv 1) (fun _ _ => rfl))) pa_nil)) pa_nil)) pa_nil)) pa_nil))))))), ?_⟩
    obtain ⟨a, s, n, e, k, v, dx, ca, nw, d, rfl, h, z⟩ := h
    unfold dNeeded at z
    refine ⟨_, rfl, a, dx, _, rfl, h.obj, dF_none (by decide +kernel), _, rfl, a, s, n, e, k, v, dx, ca, nw, d, rfl, h, fun hi => ?_, fun hi => ?_⟩
    · rw [if_pos hi] at z
      exact fun H' dd s' hd => z H' dd dx ca nw d (.of s'.kp) (h.same s') hd
    · rw [if_neg (by omega)] at z
      refine ⟨_, rfl, a, dx, _, rfl, h.obj, dF_none (by decide +kernel), _, rfl, a, CD, dx, _, _, rfl, h.obj, T.cl, T.nM, dF_M, a, s, n, e, k, s.moves, dx, ca, nw, d, rfl, h, h.mv, fun hm => ?_, fun hle H1 q d1 s1 h1 nk fq hq => ?_⟩
      · rw [if_pos hm] at z
        exact fun H' dd s' hd => z H' dd dx ca nw d (.of s'.kp) (h.same s') hd
      · rw [if_neg (by omega)] at z
        refine ⟨_, rfl, (by show 0 ≤ sizeLine; decide), fun p hp => ?_⟩
        have sp := Same.new (o := .lst []) hp
        have h2 := h1.same sp
        refine eq_lists (r := nI (goodP s n e k s.moves)) (s := []) (.of (sp _ _ hq)) (.of upd_same) ?_
        refine ⟨_, _, rfl, fun hb => ?_, fun hb => ?_⟩
        · have hb := nI_nil.mp (of_decide_eq_true hb)
          rw [if_pos hb] at z
          exact fun H' dd s' hd => z H' dd dx ca nw d1 (.of (s1.trans (sp.trans s').kp)) (h1.same (sp.trans s')) hd
        · have hb : goodP s n e k s.moves ≠ [] := fun e => of_decide_eq_false hb (nI_nil.mpr e)
          rw [if_neg hb] at z
          refine ⟨_, rfl, a, CD, dx, _, _, rfl, h2.obj, T.cl, T.nC, dF_C, ca, d1.dx, _, rfl, h2.cs.st.obj, cF_none (by decide +kernel), ca, n, e, k, d1, rfl, h2.cs.st, hle, fun H3 r s3 fr hrr => ?_⟩
          obtain ⟨rps, hrl, hrt⟩ := hrr
          have hq3 := s3 _ _ (sp _ _ hq)
          refine ⟨_, rfl, q, rfl, ⟨_, .of hq3⟩, fun b hb2 => ?_⟩
          have hgl : (goodP s n e k s.moves).length ≤ 6000 := Nat.le_trans (goodP_few s n e k s.moves) hle
          have hl := hrt.length
          unfold castRows at hl
          rw [List.length_map] at hl
          refine lc_map (walk_list (K := K) (a := q) (xs := tN (goodP s n e k s.moves))) (FInt fun i => ((fun g : Nat => (((rules (allViews (allNames n k) e)).getD g []).getD v 0 : Nat)) ((goodP s n e k s.moves).getD i 0) : Int)) stays_int hb2 (by rw [tN_len]; omega) (fun H' s' => .of (s' _ _ hq3)) ?_ ?_
          · rintro i x H5 H4 hi4 s4 ⟨rfl, hx⟩ Z hz
            obtain ⟨g, hg, rfl⟩ := nat_at hx
            have hlt := goodP_lt (List.mem_of_getElem? hg)
            obtain ⟨u, hu⟩ : ∃ u, rps[g]? = some u := ⟨rps[g]'(by omega), List.getElem?_eq_getElem _⟩
            obtain ⟨rowI, hrow, hpt⟩ := Paired.at hrt g u hu
            unfold castRows at hrow
            rw [List.getElem?_map] at hrow
            obtain ⟨row, hrow2, rfl⟩ := Option.map_eq_some_iff.mp hrow
            have hrl2 := (rules_row _ _ rfl row (List.mem_of_getElem? hrow2)).1
            have hv : row[v]? = some (row.getD v 0) := by
              rw [List.getD_eq_getElem?_getD, List.getElem?_eq_getElem (by omega)]
              rfl
            refine ⟨rfl, _, rfl, _, rfl, r, _, _, _, rfl, rfl, .of (s4 _ _ hrl), atI_nat (by rw [List.getElem?_map, hu]; rfl), _, rfl, u, _, _, _, rfl, rfl, s4.tup hpt, atI_nat (nat_at' hv), hz _ _ (Same.refl _) ?_⟩
            show V.int (row.getD v 0 : Nat) = V.int (((fun g : Nat => (((rules (allViews (allNames n k) e)).getD g []).getD v 0 : Nat)) ((goodP s n e k s.moves).getD i 0) : Nat) : Int)
            rw [getD_of hg]
            show V.int (row.getD v 0 : Nat) = V.int ((((rules (allViews (allNames n k) e)).getD g []).getD v 0 : Nat) : Int)
            rw [getD_of hrow2]
          · intro H4 acc s4 ha pr
            have ea := ints_of pr
            have e1 : (List.range (tN (goodP s n e k s.moves)).length).map (fun i => ((fun g : Nat => (((rules (allViews (allNames n k) e)).getD g []).getD v 0 : Nat)) ((goodP s n e k s.moves).getD i 0) : Int)) = (goodP s n e k s.moves).map fun g => (((rules (allViews (allNames n k) e)).getD g []).getD v 0 : Int) := by
              rw [tN_len]
              have h := congrArg (List.map fun g : Nat => (((rules (allViews (allNames n k) e)).getD g []).getD v 0 : Int)) (range_getD 0 (goodP s n e k s.moves))
              rw [List.map_map] at h
              exact h
            rw [e1] at ea
            have hval : ∀ g ∈ goodP s n e k s.moves, ((rules (allViews (allNames n k) e)).getD g []).getD v 0 ≤ 2 := fun g hg => by
              have hlt := goodP_lt hg
              have hrow : (rules (allViews (allNames n k) e))[g]? = some ((rules (allViews (allNames n k) e)).getD g []) := by
                rw [List.getD_eq_getElem?_getD, List.getElem?_eq_getElem hlt]
                rfl
              have hr2 := rules_row _ _ rfl _ (List.mem_of_getElem? hrow)
              generalize (rules (allViews (allNames n k) e)).getD g [] = row at hr2
              rw [List.getD_eq_getElem?_getD]
              cases q : row[v]? with
              | none => exact Nat.zero_le _
              | some y => exact hr2.2 y (List.mem_of_getElem? q)
            refine ⟨b, (goodP s n e k s.moves).map fun g => (((rules (allViews (allNames n k) e)).getD g []).getD v 0 : Int), 3, rfl, (by rw [ea] at ha; exact .of ha), fun x hx => ?_, by decide, fun sa c hsa hc => ?_⟩
            · obtain ⟨g, hg, rfl⟩ := List.mem_map.mp hx
              have := hval g hg
              omega
            have ssa := Same.new (o := SetO w sa (fun j => decide (j ∈ (goodP s n e k s.moves).map fun g => (((rules (allViews (allNames n k) e)).getD g []).getD v 0 : Int))) c) hsa
            refine ⟨sa, _, c, rfl, upd_same, by omega, fun ns u hsort hmem hnlen hu => ?_⟩
            have su := Same.new (o := .lst (ns.map V.int)) hu
            have hmem' : ∀ x : Int, x ∈ ns ↔ ∃ g ∈ goodP s n e k s.moves, (((rules (allViews (allNames n k) e)).getD g []).getD v 0 : Int) = x := fun x => (hmem x).trans (by rw [decide_eq_true_iff, List.mem_map])
            have h0 : ∀ x ∈ ns, 0 ≤ x ∧ x ≤ 2 := fun x hx => by
              obtain ⟨g, hg, rfl⟩ := (hmem' x).mp hx
              have := hval g hg
              omega
            have hl3 : (ns.map Int.toNat) = (List.range 3).filter fun m => (goodP s n e k s.moves).any fun i => decide (((rules (allViews (allNames n k) e)).getD i []).getD v 0 = m) := by
              refine risingN_same (toNat_rising hsort fun x hx => (h0 x hx).1) (rising_filter _ (rising_range 3)) fun x => ?_
              rw [List.mem_filter, List.mem_range, List.any_eq_true, List.mem_map]
              constructor
              · rintro ⟨y, hy, rfl⟩
                have hy2 := h0 y hy
                obtain ⟨g, hg, e⟩ := (hmem' y).mp hy
                exact ⟨by omega, g, hg, decide_eq_true (by omega)⟩
              · rintro ⟨hx, g, hg, e⟩
                have e := of_decide_eq_true e
                exact ⟨(x : Int), (hmem' _).mpr ⟨g, hg, by omega⟩, by omega⟩
            have hns : ns.map V.int = tN (ns.map Int.toNat) := by
              rw [tN_eq, nats_of fun x hx => (h0 x hx).1]
            refine ⟨u, ns.map Int.toNat, rfl, .of (by rw [upd_same, hns]), ?_, fun x hx => ?_, fun H6 s6 => ?_⟩
            · rw [List.length_map]
              omega
            · obtain ⟨y, hy, rfl⟩ := List.mem_map.mp hx
              have := h0 y hy
              omega
            · refine ⟨(by show 1 ≤ sizeLine; decide), fun t ht => ?_⟩
              have sall := (((((sp.trans s3).trans s4).trans ssa).trans su).trans s6)
              have st := sall.trans (Same.new (o := .lst [V.int (bitsOf (ns.map Int.toNat) : Nat)]) ht)
              refine z _ t dx ca nw d1 (.of (s1.trans st.kp)) (h1.same st) (s1.free t (sall.free ht)) ?_
              rw [upd_same, hl3]
              rfl
end
end Rf
/-! ## RfN3 -/
namespace Rf
theorem loc_all0 : goodAll3 locC = true := by decide +kernel
theorem loc_all {n e k : Nat} (g : Good n k) (he : e ≤ 2) {l : List Nat} (hl : l ∈ NL n k) : locL (VL n e k) e l = true := by
  have h := good_all3 loc_all0 g he
  unfold locC at h
  rw [List.all_eq_true] at h
  exact h l hl
/-! a ring's name, the mirror's and the specification's -/
theorem name_same0 : goodAll (fun n k => (allRings n k).all fun r => decide (nameOf r = castR (Km534.name (r.map Int.toNat)))) = true := by decide +kernel
theorem name_same {n k : Nat} (g : Good n k) {r : List Int} (h : r ∈ allRings n k) : nameOf r = castR (Km534.name (r.map Int.toNat)) := by
  have z := good_all name_same0 g
  rw [List.all_eq_true] at z
  exact of_decide_eq_true (z r h)
end Rf
/-! ## RfN5 -/
namespace Rf
/-! ### a step of the mirror and a row of the specification's table -/
theorem mines_in0 : goodAll3 (fun n e k => (NL n k).all fun l => (Km534.viewsOf ⟨l, e⟩).all fun v => decide (v ∈ VL n e k)) = true := by decide +kernel
theorem mines_in {n e k : Nat} (g : Good n k) (he : e ≤ 2) {l v : List Nat} (hl : l ∈ NL n k) (hv : v ∈ Km534.viewsOf ⟨l, e⟩) : v ∈ VL n e k := by
  have h := good_all3 mines_in0 g he
  rw [List.all_eq_true] at h
  have h := h l hl
  rw [List.all_eq_true] at h
  exact of_decide_eq_true (h v hv)
theorem castR_inj {a b : List Nat} (h : castR a = castR b) : a = b := by
  unfold castR at h
  exact (List.map_inj_right (fun a b e => by have e : (a : Int) = b := e; omega)).mp h
theorem castR_back (a : List Nat) : (castR a).map Int.toNat = a := by
  unfold castR
  rw [List.map_map]
  exact (List.map_congr_left (fun x _ => by show ((x : Int)).toNat = x; omega)).trans (List.map_id _)
theorem idx_cast : ∀ (l : List (List Nat)) (x : List Nat), (l.map castR).idxOf (castR x) = l.idxOf x
  | [], x => rfl
  | y :: l, x => by
    rw [List.map_cons, List.idxOf_cons, List.idxOf_cons, idx_cast l x]
    have e : (castR y == castR x) = (y == x) := by
      rw [Bool.eq_iff_iff, beq_iff_eq, beq_iff_eq]
      exact ⟨castR_inj, fun h => by rw [h]⟩
    rw [e]
theorem find_idx : ∀ {l : List (List Nat)} {x : List Nat}, x ∈ l → (l.findIdx? fun y => y == x).getD 0 = l.idxOf x
  | [], x, h => by cases h
  | y :: l, x, h => by
    rw [List.findIdx?_cons, List.idxOf_cons]
    by_cases c : y = x
    · have e : (y == x) = true := by simpa using c
      rw [e]
      rfl
    · have e : (y == x) = false := by simpa using c
      rw [e]
      have hx : x ∈ l := by
        rcases List.mem_cons.mp h with z | h
        · exact absurd z.symm c
        · exact h
      have ih := find_idx hx
      cases q : l.findIdx? (fun y => y == x) with
      | none =>
        rw [List.findIdx?_eq_none_iff] at q
        have := q x hx
        simp at this
      | some m =>
        rw [q] at ih
        have ih : m = l.idxOf x := ih
        simp [ih]
theorem idx_get : ∀ {l : List (List Nat)} {x : List Nat}, x ∈ l → l.getD (l.idxOf x) [] = x ∧ l.idxOf x < l.length := fun {l x} h => by
  have hlt := List.idxOf_lt_length_of_mem h
  refine ⟨?_, hlt⟩
  rw [List.getD_eq_getElem?_getD, List.getElem?_eq_getElem hlt, List.getElem_idxOf hlt]
  rfl
/-- rows of choices -/
theorem mem_allRules : ∀ (vs : List (List Nat)) (x : List Nat), x ∈ Km537.allRules vs ↔ x.length = vs.length ∧ ∀ i, i < vs.length → x.getD i 0 < Km537.choices (vs.getD i [])
  | [], x => by
    unfold Km537.allRules
    constructor
    · intro h
      have e : x = [] := by simpa using h
      subst e
      exact ⟨rfl, fun i hi => absurd hi (Nat.not_lt_zero i)⟩
    · intro h
      have e := List.length_eq_zero_iff.mp h.1
      simp [e]
  | v :: vs, x => by
    show x ∈ (List.range (Km537.choices v)).flatMap (fun m => (Km537.allRules vs).map fun x => m :: x) ↔ _
    rw [List.mem_flatMap]
    constructor
    · rintro ⟨m, hm, hx⟩
      obtain ⟨y, hy, rfl⟩ := List.mem_map.mp hx
      obtain ⟨h1, h2⟩ := (mem_allRules vs y).mp hy
      refine ⟨by simp [h1], fun i hi => ?_⟩
      cases i with
      | zero => simpa using List.mem_range.mp hm
      | succ i => simpa using h2 i (by simpa using hi)
    · rintro ⟨h1, h2⟩
      cases x with
      | nil => simp at h1
      | cons m y =>
        refine ⟨m, List.mem_range.mpr (by simpa using h2 0 (by simp)), List.mem_map.mpr ⟨y, (mem_allRules vs y).mpr ⟨by simpa using h1, fun i hi => ?_⟩, rfl⟩⟩
        simpa using h2 (i + 1) (by simpa using hi)
/-- the row that the specification's table holds -/
def rowS (e a : Nat) (ns : List (List Nat)) (l : List Nat) (mine : List (List Nat)) (x : List Nat) : Km537.Row :=
  ⟨x, if Km535.eager ⟨⟨l, e⟩, mine.zip x, a⟩ l != [] then 0 else if Km535.gathered l then 1 else 2, (Km535.nextNames ⟨⟨l, e⟩, mine.zip x, a⟩ a l).map fun x => (ns.findIdx? fun y => y == x).getD 0⟩
theorem entry_is (d : Km537.Desk) (a : Nat) (vs ns : List (List Nat)) (l : List Nat) : Km537.entry d a vs ns l = ⟨(Km534.viewsOf ⟨l, d.eyes⟩).map fun v => Km537.place vs v, (Km537.allRules (Km534.viewsOf ⟨l, d.eyes⟩)).map (rowS d.eyes a ns l (Km534.viewsOf ⟨l, d.eyes⟩))⟩ := rfl
theorem row_of {e a : Nat} {ns : List (List Nat)} {l : List Nat} {mine : List (List Nat)} {uses rule : List Nat} (h : uses.map (fun v => rule.getD v 0) ∈ Km537.allRules mine) :
    Km537.rowOf ⟨uses, (Km537.allRules mine).map (rowS e a ns l mine)⟩ rule = rowS e a ns l mine (uses.map fun v => rule.getD v 0) := by
  unfold Km537.rowOf
  rw [List.find?_map]
  have e1 : ((fun r : Km537.Row => r.at_ == uses.map fun v => rule.getD v 0) ∘ rowS e a ns l mine) = fun x => x == uses.map fun v => rule.getD v 0 := rfl
  rw [e1]
  cases q : (Km537.allRules mine).find? (fun x => x == uses.map fun v => rule.getD v 0) with
  | none =>
    rw [List.find?_eq_none] at q
    exact absurd (by simp) (q _ h)
  | some y =>
    have hy := List.find?_some (p := fun x => x == uses.map fun v => rule.getD v 0) q
    have hy : y = uses.map fun v => rule.getD v 0 := by simpa using hy
    rw [hy]
    rfl
theorem mem_onceEach (l : List Nat) (x : Nat) : x ∈ onceEach l ↔ x ∈ l := by
  have g : ∀ (l o : List Nat), x ∈ l.foldl (fun o x => if x ∈ o then o else o ++ [x]) o ↔ x ∈ o ∨ x ∈ l := by
    intro l
    induction l with
    | nil => intro o; simp
    | cons y l ih =>
      intro o
      rw [List.foldl_cons, ih, List.mem_cons]
      by_cases c : y ∈ o
      · rw [if_pos c]
        constructor
        · rintro (h | h) <;> simp [h]
        · rintro (h | h | h)
          · exact .inl h
          · rw [h]; exact .inl c
          · exact .inr h
      · rw [if_neg c, List.mem_append]
        simp [or_assoc]
  have z := g l []
  unfold onceEach
  rw [z]
  simp
theorem mem_different (l : List (List Nat)) (x : List Nat) : x ∈ Km535.different l ↔ x ∈ l := by
  have g : ∀ (l o : List (List Nat)), x ∈ l.foldl (fun (o : List (List Nat)) (x : List Nat) => if o.contains x then o else o ++ [x]) o ↔ x ∈ o ∨ x ∈ l := by
    intro l
    induction l with
    | nil => intro o; simp
    | cons y l ih =>
      intro o
      rw [List.foldl_cons, ih, List.mem_cons]
      by_cases c : o.contains y = true
      · rw [if_pos c]
        have c : y ∈ o := by simpa using c
        constructor
        · rintro (h | h) <;> simp [h]
        · rintro (h | h | h)
          · exact .inl h
          · rw [h]; exact .inl c
          · exact .inr h
      · rw [if_neg c, List.mem_append]
        simp [or_assoc]
  have z := g l []
  unfold Km535.different
  rw [z]
  simp
theorem hadL_is {n e k i : Nat} (g : Good n k) (he : e ≤ 2) {l : List Nat} (hi : (NL n k)[i]? = some l) : (kase n e k).had.getD i [] = hadL ((VL n e k).map castR) e l := by
  rw [had_row (r := castR l) (by rw [nl_mine g, List.getElem?_map, hi]; rfl), vl_mine g he]
  rfl
theorem behind_ring {n k : Nat} {r sides : List Int} {deeds : List Nat} (hn : 0 < n) (hr : r ∈ allNames n k) (ok : RingOk k n r) (ls : sides.length = (hadPlaces r).length) (ld : deeds.length = (hadPlaces r).length) {moves : Nat} {x : List Int} (h : x ∈ ringsBehind r sides deeds moves) : x ∈ allRings n k := by
  obtain ⟨row, hrow, rfl⟩ := List.mem_map.mp h
  obtain ⟨h1, h2, h3⟩ := gone_ok ok ls ld (List.mem_filter.mp hrow).1
  rw [names_sum hr hn] at h3
  have hx : ∀ y ∈ gone r row, 0 ≤ y := fun y hy => by
    obtain ⟨i, hi⟩ := List.getElem?_of_mem hy
    have := h2 i
    rw [getD_of hi] at this
    exact this
  exact List.mem_filter.mpr ⟨ringsUp_all k n _ h1 hx (by rw [h3]; exact Int.le_refl _), by simpa using h3⟩
/-- what is asked of a step and a row -/
structure StepRow (L : Nat) (one : Bool) (st : Bool × Nat) (row : Km537.Row) : Prop where
  rest : st.1 = true → row.rest = if one = true then 1 else 2
  go : st.1 = false → row.rest = 0
  some : st.1 = false → row.next ≠ []
  bits : st.1 = false → ∀ j, st.2.testBit j = true ↔ j ∈ row.next
theorem deeds_same {had uses rule : List Nat} (h : ∀ x ∈ had, x ∈ uses) : (had.map fun h => (uses.map fun v => rule.getD v 0).getD (uses.idxOf h) 0) = had.map fun v => rule.getD v 0 := by
  refine List.map_congr_left fun x hx => ?_
  have hm := h x hx
  have hlt := List.idxOf_lt_length_of_mem hm
  rw [List.getD_eq_getElem?_getD, List.getElem?_map, List.getElem?_eq_getElem hlt, List.getElem_idxOf hlt]
  rfl
theorem behind_bits {n e k i : Nat} (g : Good n k) (he : e ≤ 2) {l : List Nat} (hi : (NL n k)[i]? = some l) {deeds : List Nat} (ld : deeds.length = (hadPlaces (castR l)).length) {a : Nat} {R2 : List (List Nat)}
    (h : sameRings (ringsBehind (castR l) ((hadPlaces (castR l)).map fun p => sideOf (castR l) p e) deeds a) R2 = true) :
    (((Km535.different (R2.map fun r => Km534.name r)).map fun x => ((NL n k).findIdx? fun y => y == x).getD 0) ≠ []) ∧
    ∀ j, (behind (kase n e k) i deeds a).testBit j = true ↔ j ∈ (Km535.different (R2.map fun r => Km534.name r)).map fun x => ((NL n k).findIdx? fun y => y == x).getD 0 := by
  have hn : (allNames n k)[i]? = some (castR l) := by rw [nl_mine g, List.getElem?_map, hi]; rfl
  have hmem := List.mem_of_getElem? hn
  have ok := names_ok g hmem
  have hs : (kase n e k).sides.getD i [] = (hadPlaces (castR l)).map fun p => sideOf (castR l) p e := by
    apply getD_of
    show ((allNames n k).map fun r => (hadPlaces r).map fun p => sideOf r p e)[i]? = _
    rw [List.getElem?_map, hn]
    rfl
  have hb : behind (kase n e k) i deeds a = bitsOf ((inOrder ((ringsBehind (castR l) ((hadPlaces (castR l)).map fun p => sideOf (castR l) p e) deeds a).map nameOf)).map fun x => (allNames n k).idxOf x) := by
    unfold behind
    rw [hs]
    have e2 : (kase n e k).names.getD i [] = castR l := getD_of hn
    rw [e2]
    rfl
  unfold sameRings at h
  rw [Bool.and_eq_true, Bool.and_eq_true, List.all_eq_true, List.all_eq_true] at h
  obtain ⟨⟨h0, h1⟩, h2⟩ := h
  have hring : ∀ y ∈ ringsBehind (castR l) ((hadPlaces (castR l)).map fun p => sideOf (castR l) p e) deeds a, y ∈ allRings n k := fun y hy =>
    behind_ring (by have := g.n3; omega) hmem ok (by rw [List.length_map]) ld hy
  have hname : ∀ y ∈ ringsBehind (castR l) ((hadPlaces (castR l)).map fun p => sideOf (castR l) p e) deeds a, nameOf y ∈ allNames n k := fun y hy =>
    mem_inOrder.mpr (List.mem_map.mpr ⟨y, hring y hy, rfl⟩)
  generalize ringsBehind (castR l) ((hadPlaces (castR l)).map fun p => sideOf (castR l) p e) deeds a = R1 at h0 h1 h2 hring hname hb
  have key : ∀ z : List Nat, castR z ∈ R1 → (allNames n k).idxOf (nameOf (castR z)) = ((NL n k).findIdx? fun y => y == Km534.name z).getD 0 := fun z hz => by
    have e1 : nameOf (castR z) = castR (Km534.name z) := by
      have := name_same g (hring _ hz)
      rw [castR_back] at this
      exact this
    have hin := hname _ hz
    rw [e1, nl_mine g] at hin
    obtain ⟨w, hw, ew⟩ := List.mem_map.mp hin
    have ew := castR_inj ew
    rw [ew] at hw
    rw [find_idx hw, e1, nl_mine g, idx_cast]
  have each : ∀ y ∈ R1, ∃ z ∈ R2, castR z = y := fun y hy => by
    have q := h1 y hy
    rw [List.any_eq_true] at q
    obtain ⟨z, hz, e⟩ := q
    exact ⟨z, hz, of_decide_eq_true e⟩
  have each2 : ∀ z ∈ R2, castR z ∈ R1 := fun z hz => by
    have q := h2 z hz
    rw [List.any_eq_true] at q
    obtain ⟨y, hy, e⟩ := q
    rw [of_decide_eq_true e]
    exact hy
  refine ⟨fun z => ?_, fun j => ?_⟩
  · cases R1 with
    | nil => simp at h0
    | cons y r =>
      obtain ⟨w, hw, _⟩ := each y List.mem_cons_self
      have hin : Km534.name w ∈ Km535.different (R2.map fun r => Km534.name r) := (mem_different _ _).mpr (List.mem_map.mpr ⟨w, hw, rfl⟩)
      have z := List.map_eq_nil_iff.mp z
      rw [z] at hin
      cases hin
  · have nd : ((inOrder (R1.map nameOf)).map fun x => (allNames n k).idxOf x).Nodup := by
      have nd0 : (inOrder (R1.map nameOf)).Nodup := List.Pairwise.imp (fun {a b} h e => by rw [e, lt_irrefl] at h; cases h) (rising_inOrder _)
      have sub : ∀ x ∈ inOrder (R1.map nameOf), x ∈ allNames n k := fun x hx => by
        obtain ⟨y, hy, rfl⟩ := List.mem_map.mp (mem_inOrder.mp hx)
        exact hname y hy
      generalize inOrder (R1.map nameOf) = O at nd0 sub
      induction O with
      | nil => exact List.nodup_nil
      | cons x O ih =>
        have hp := List.nodup_cons.mp nd0
        rw [List.map_cons]
        refine List.nodup_cons.mpr ⟨fun hx => ?_, ih hp.2 fun y hy => sub y (List.mem_cons_of_mem _ hy)⟩
        obtain ⟨y, hy, e⟩ := List.mem_map.mp hx
        have l1 := List.idxOf_lt_length_of_mem (sub x List.mem_cons_self)
        have l2 := List.idxOf_lt_length_of_mem (sub y (List.mem_cons_of_mem _ hy))
        have g1 := List.getElem_idxOf l1
        have g2 := List.getElem_idxOf l2
        have : x = y := by
          rw [← g1, ← g2]
          congr 1
          exact e.symm
        rw [this] at hp
        exact hp.1 hy
    rw [hb, testBit_bitsOf _ nd, decide_eq_true_iff, List.mem_map, List.mem_map]
    constructor
    · rintro ⟨x, hx, rfl⟩
      obtain ⟨y, hy, rfl⟩ := List.mem_map.mp (mem_inOrder.mp hx)
      obtain ⟨z, hz, rfl⟩ := each y hy
      exact ⟨Km534.name z, (mem_different _ _).mpr (List.mem_map.mpr ⟨z, hz, rfl⟩), (key z hy).symm⟩
    · rintro ⟨x, hx, rfl⟩
      obtain ⟨z, hz, rfl⟩ := List.mem_map.mp ((mem_different _ _).mp hx)
      have hy := each2 z hz
      exact ⟨nameOf (castR z), mem_inOrder.mpr (List.mem_map.mpr ⟨_, hy, rfl⟩), key z hy⟩
end Rf
/-! ## RfN6 -/
namespace Rf
theorem rule_at {vs : List (List Nat)} {rule : List Nat} (hr : rule ∈ Km537.allRules vs) {v : List Nat} (hv : v ∈ vs) : rule.getD (Km537.place vs v) 0 < Km537.choices v := by
  obtain ⟨h1, h2⟩ := (mem_allRules vs rule).mp hr
  unfold Km537.place
  rw [find_idx hv]
  obtain ⟨e1, e2⟩ := idx_get hv
  have z := h2 _ e2
  rw [e1] at z
  exact z
theorem uses_rule {vs mine : List (List Nat)} {rule : List Nat} (hr : rule ∈ Km537.allRules vs) (h : ∀ v ∈ mine, v ∈ vs) : (mine.map fun v => Km537.place vs v).map (fun v => rule.getD v 0) ∈ Km537.allRules mine := by
  rw [mem_allRules]
  refine ⟨by rw [List.length_map, List.length_map], fun i hi => ?_⟩
  rw [List.getD_eq_getElem?_getD, List.getElem?_map, List.getElem?_map, List.getD_eq_getElem?_getD, List.getElem?_eq_getElem hi]
  exact rule_at hr (h _ (List.getElem_mem hi))
theorem step_row {n e k i a : Nat} (g : Good n k) (he : e ≤ 2) (ha : a ≤ 2) {l : List Nat} (hi : (NL n k)[i]? = some l) {rule : List Nat} (hr : rule ∈ Km537.allRules (VL n e k)) (d : Km537.Desk) (hd : d.eyes = e) :
    StepRow (NL n k).length (decide (((kase n e k).had.getD i []).length = 1)) (step (kase n e k) i rule a) (Km537.rowOf (Km537.entry d a (VL n e k) (NL n k) l) rule) := by
  have hl := List.mem_of_getElem? hi
  have loc := loc_all g he hl
  unfold locL at loc
  rw [Bool.and_eq_true, Bool.and_eq_true, List.all_eq_true] at loc
  obtain ⟨⟨hu, hg⟩, hx⟩ := loc
  have hu := of_decide_eq_true hu
  have hhad := hadL_is g he hi
  rw [entry_is, hd]
  have hin := uses_rule hr fun v hv => mines_in g he hl hv
  rw [row_of hin, hhad]
  have z := hx _ hin
  have hdl : (hadL ((VL n e k).map castR) e l).length = (hadPlaces (castR l)).length := by
    unfold hadL viewsIn
    rw [List.length_map, List.length_map]
  have hst : step (kase n e k) i rule a = if (hadL ((VL n e k).map castR) e l).map (fun v => rule.getD v 0) = List.replicate ((hadL ((VL n e k).map castR) e l).map fun v => rule.getD v 0).length 0 then (true, 0) else (false, behind (kase n e k) i ((hadL ((VL n e k).map castR) e l).map fun v => rule.getD v 0) a) := by
    unfold step deedsBy
    rw [hhad]
  rw [hst]
  generalize hH : hadL ((VL n e k).map castR) e l = had at *
  unfold locX at z
  rw [hu, deeds_same fun x hx => (mem_onceEach had x).mpr hx] at z
  rw [hu]
  rw [List.all_eq_true] at z
  have z := z a (by simp; omega)
  rw [Bool.and_eq_true] at z
  obtain ⟨z1, z2⟩ := z
  have z1 : decide (Km535.eager ⟨⟨l, e⟩, (Km534.viewsOf ⟨l, e⟩).zip ((onceEach had).map fun v => rule.getD v 0), a⟩ l = []) = decide ((had.map fun v => rule.getD v 0) = List.replicate (had.map fun v => rule.getD v 0).length 0) := by simpa using z1
  have hg : Km535.gathered l = decide (had.length = 1) := by simpa using hg
  by_cases c : (had.map fun v => rule.getD v 0) = List.replicate (had.map fun v => rule.getD v 0).length 0
  · rw [if_pos c]
    rw [decide_eq_true c] at z1
    have z1 := of_decide_eq_true z1
    refine ⟨fun _ => ?_, fun h => (by cases h), fun h => (by cases h), fun h => (by cases h)⟩
    unfold rowS
    rw [z1, hg]
    rfl
  · rw [if_neg c]
    rw [decide_eq_false c] at z1 z2
    have z1 := of_decide_eq_false z1
    rw [Bool.false_or] at z2
    obtain ⟨b1, b2⟩ := behind_bits g he hi (by rw [List.length_map]; exact hdl) z2
    refine ⟨fun h => (by cases h), fun _ => ?_, fun _ => b1, fun _ => b2⟩
    unfold rowS
    show (if _ then _ else _) = 0
    rw [if_pos (by simpa using z1)]
/-! ### the fixpoint -/
def fOne (steps : List (Bool × Nat)) (f : Nat) : Nat := f ||| bitsOf ((List.range steps.length).filter fun i => !(steps.getD i (false, 0)).1 && decide ((steps.getD i (false, 0)).2 ||| f = f))
theorem turnsG_fix {steps : List (Bool × Nat)} {f : Nat} (h : fOne steps f = f) : ∀ t, turnsG steps t f = f
  | 0 => rfl
  | t + 1 => by
    show turnsG steps t (fOne steps f) = f
    rw [h]
    exact turnsG_fix h t
theorem fOne_bit (steps : List (Bool × Nat)) (f j : Nat) : (fOne steps f).testBit j = (f.testBit j || decide (j < steps.length ∧ (steps.getD j (false, 0)).1 = false ∧ (steps.getD j (false, 0)).2 ||| f = f)) := by
  unfold fOne
  rw [Nat.testBit_or, testBit_bitsOf _ (rising_nodup (rising_filter _ (rising_range _)))]
  congr 1
  rw [decide_eq_decide, List.mem_filter, List.mem_range]
  simp
structure Tied (steps : List (Bool × Nat)) (one : Nat → Bool) (G : List Km537.Row) : Prop where
  len : steps.length = G.length
  each : ∀ (i : Nat) (st : Bool × Nat) (row : Km537.Row), steps[i]? = some st → G[i]? = some row → StepRow G.length (one i) st row
def moreS (G : List Km537.Row) (o : List Nat) : List Nat := (List.range G.length).filter fun i => !o.contains i && (match G[i]? with
      | none => false
      | some r => r.rest == 1 || (r.rest == 0 && r.next.all fun j => o.contains j))
theorem sureUp_succ (G : List Km537.Row) (f : Nat) (o : List Nat) : Km537.sureUp G (f + 1) o = if moreS G o = [] then o else Km537.sureUp G f (o ++ moreS G o) := rfl
section
variable {steps : List (Bool × Nat)} {one : Nat → Bool} {G : List Km537.Row}
theorem mem_moreS {o : List Nat} {i : Nat} {row : Km537.Row} (h : G[i]? = some row) : i ∈ moreS G o ↔ i ∉ o ∧ (row.rest = 1 ∨ (row.rest = 0 ∧ ∀ j ∈ row.next, j ∈ o)) := by
  unfold moreS
  have hlt := (List.getElem?_eq_some_iff.mp h).1
  rw [List.mem_filter, List.mem_range, h]
  simp [hlt]
theorem Tied.pair (T : Tied steps one G) {i : Nat} (hi : i < G.length) : ∃ st row, steps[i]? = some st ∧ G[i]? = some row ∧ StepRow G.length (one i) st row := by
  have e1 := List.getElem?_eq_getElem hi
  have e2 := List.getElem?_eq_getElem (l := steps) (i := i) (by rw [T.len]; exact hi)
  exact ⟨_, _, e2, e1, T.each i _ _ e2 e1⟩
/-- told alike: the mirror's bits, the specification's list -/
structure Like (G : List Km537.Row) (f : Nat) (o : List Nat) : Prop where
  same : ∀ j, f.testBit j = true ↔ j ∈ o
  lt : ∀ j ∈ o, j < G.length
  rest : ∀ (i : Nat) (row : Km537.Row), G[i]? = some row → row.rest = 1 → i ∈ o
theorem like_more (T : Tied steps one G) {f : Nat} {o : List Nat} (h : Like G f o) : Like G (fOne steps f) (o ++ moreS G o) := by
  refine ⟨fun j => ?_, fun j hj => ?_, fun i row hr h1 => List.mem_append_left _ (h.rest i row hr h1)⟩
  · rw [fOne_bit, Bool.or_eq_true, decide_eq_true_iff, h.same, List.mem_append]
    by_cases c : j < G.length
    · obtain ⟨st, row, e1, e2, R⟩ := T.pair c
      rw [mem_moreS e2, getD_of e1]
      by_cases co : j ∈ o
      · simp [co]
      · have hn1 : row.rest ≠ 1 := fun z => co (h.rest j row e2 z)
        constructor
        · rintro (q | ⟨_, q1, q2⟩)
          · exact .inl q
          · refine .inr ⟨co, .inr ⟨R.go q1, fun x hx => (h.same x).mp ((or_bits _ _).mp q2 x ((R.bits q1 x).mpr hx))⟩⟩
        · rintro (q | ⟨_, q | ⟨q1, q2⟩⟩)
          · exact .inl q
          · exact absurd q hn1
          · refine .inr ⟨by rw [T.len]; exact c, ?_, ?_⟩
            · cases hs : st.1 with
              | false => rfl
              | true =>
                have := R.rest hs
                rw [q1] at this
                split at this <;> cases this
            · have hs : st.1 = false := by
                cases hs : st.1 with
                | false => rfl
                | true =>
                  have := R.rest hs
                  rw [q1] at this
                  split at this <;> cases this
              exact (or_bits _ _).mpr fun x hx => (h.same x).mpr (q2 x ((R.bits hs x).mp hx))
    · have e1 : ¬ j < steps.length := by rw [T.len]; exact c
      have e2 : j ∉ moreS G o := fun z => by
        unfold moreS at z
        exact c (List.mem_range.mp (List.mem_filter.mp z).1)
      simp [e1, e2]
  · rcases List.mem_append.mp hj with q | q
    · exact h.lt j q
    · unfold moreS at q
      exact List.mem_range.mp (List.mem_filter.mp q).1
theorem like_end (T : Tied steps one G) : ∀ (t f : Nat) (o : List Nat), Like G f o → Like G (turnsG steps t f) (Km537.sureUp G t o)
  | 0, f, o, h => h
  | t + 1, f, o, h => by
    have m := like_more T h
    show Like G (turnsG steps t (fOne steps f)) _
    rw [sureUp_succ]
    by_cases c : moreS G o = []
    · rw [if_pos c]
      rw [c, List.append_nil] at m
      have e : fOne steps f = f := by
        apply Nat.eq_of_testBit_eq
        intro j
        rw [Bool.eq_iff_iff, m.same, h.same]
      rw [e, turnsG_fix e]
      exact h
    · rw [if_neg c]
      exact like_end T t _ _ m
theorem like_all (T : Tied steps one G) {r : Nat} (hr : ∀ j, r.testBit j = true ↔ j < G.length ∧ (steps.getD j (false, 0)).1 = true ∧ one j = true) : Like G (turnsG steps steps.length r) (Km537.sureUp G (G.length + 1) []) := by
  have e0 : ∀ j, j < G.length → (j ∈ moreS G [] ↔ r.testBit j = true) := fun j hj => by
    obtain ⟨st, row, e1, e2, R⟩ := T.pair hj
    rw [mem_moreS e2, hr, getD_of e1]
    constructor
    · rintro ⟨_, q | ⟨q1, q2⟩⟩
      · refine ⟨hj, ?_⟩
        cases hs : st.1 with
        | false => rw [R.go hs] at q; cases q
        | true =>
          have z := R.rest hs
          rw [q] at z
          refine ⟨rfl, ?_⟩
          cases co : one j with
          | true => rfl
          | false => rw [co] at z; cases z
      · have hs : st.1 = false := by
          cases hs : st.1 with
          | false => rfl
          | true =>
            have z := R.rest hs
            rw [q1] at z
            split at z <;> cases z
        have hne := R.some hs
        cases hx : row.next with
        | nil => exact absurd hx hne
        | cons x xs => exact absurd (q2 x (by rw [hx]; exact List.mem_cons_self)) (by simp)
    · rintro ⟨_, q1, q2⟩
      refine ⟨by simp, .inl ?_⟩
      rw [R.rest q1, q2]
      rfl
  have like0 : Like G r (moreS G []) := by
    refine ⟨fun j => ?_, fun j hj => ?_, fun i row h1 h2 => ?_⟩
    · by_cases c : j < G.length
      · exact (e0 j c).symm
      · rw [hr]
        constructor
        · rintro ⟨q, _⟩; exact absurd q c
        · intro q
          unfold moreS at q
          exact absurd (List.mem_range.mp (List.mem_filter.mp q).1) c
    · unfold moreS at hj
      exact List.mem_range.mp (List.mem_filter.mp hj).1
    · rw [mem_moreS h1]
      exact ⟨by simp, .inl h2⟩
  rw [T.len, sureUp_succ]
  by_cases c : moreS G [] = []
  · rw [if_pos c]
    rw [c] at like0
    have m := like_more T like0
    rw [c] at m
    have e : fOne steps r = r := by
      apply Nat.eq_of_testBit_eq
      intro j
      rw [Bool.eq_iff_iff, m.same, like0.same]
      simp
    rw [turnsG_fix e]
    exact like0
  · rw [if_neg c, List.nil_append]
    exact like_end T _ _ _ like0
end
/-- what a rule gathers, the mirror's and the specification's -/
theorem gathers_is {n e k a : Nat} (g : Good n k) (he : e ≤ 2) (ha : a ≤ 2) {rule : List Nat} (hr : rule ∈ Km537.allRules (VL n e k)) (d : Km537.Desk) (h1 : d.n = n) (h2 : d.eyes = e) (h3 : d.k = k) :
    members (gathers (kase n e k) rule a) = Km537.suresBy (Km537.table d a) rule := by
  have ht : Km537.table d a = (NL n k).map fun l => Km537.entry d a (VL n e k) (NL n k) l := by
    unfold Km537.table Km537.names
    rw [vl_spec g he d h1 h2 h3, h1, h3, nl_spec g]
  have hlen : (kase n e k).names.length = (NL n k).length := by
    show (allNames n k).length = _
    rw [nl_mine g, List.length_map]
  have hsl : (stepsOf (kase n e k) rule a).length = (NL n k).length := by
    unfold stepsOf
    rw [List.length_map, List.length_range, hlen]
  have T : Tied (stepsOf (kase n e k) rule a) (fun i => decide (((kase n e k).had.getD i []).length = 1)) ((Km537.table d a).map fun en => Km537.rowOf en rule) := by
    refine ⟨by rw [hsl, ht, List.length_map, List.length_map], fun i st row e1 e2 => ?_⟩
    rw [ht, List.map_map, List.getElem?_map] at e2
    obtain ⟨l, hl, rfl⟩ := Option.map_eq_some_iff.mp e2
    unfold stepsOf at e1
    rw [List.getElem?_map] at e1
    obtain ⟨i', hi', rfl⟩ := Option.map_eq_some_iff.mp e1
    have hlt := (List.getElem?_eq_some_iff.mp hi').1
    rw [List.getElem?_eq_getElem hlt, List.getElem_range] at hi'
    have e : i = i' := by simpa using hi'
    subst e
    have z := step_row g he ha hl hr d h2
    have e3 : ((Km537.table d a).map fun en => Km537.rowOf en rule).length = (NL n k).length := by rw [ht, List.length_map, List.length_map]
    rw [e3]
    exact z
  have hG : ((Km537.table d a).map fun en => Km537.rowOf en rule).length = (Km537.table d a).length := List.length_map _
  have L := like_all T (r := restOf (kase n e k) (stepsOf (kase n e k) rule a)) fun j => by
    unfold restOf
    rw [testBit_bitsOf _ (rising_nodup (rising_filter _ (rising_range _))), decide_eq_true_iff, List.mem_filter, List.mem_range, T.len, Bool.and_eq_true]
  unfold Km537.suresBy
  refine risingN_same (rising_members _) (rising_filter _ (rising_range _)) fun x => ?_
  have q := L.same x
  have q2 := L.lt x
  rw [hG] at q q2
  rw [mem_members, List.mem_filter, List.mem_range]
  show (turnsG (stepsOf (kase n e k) rule a) (stepsOf (kase n e k) rule a).length (restOf (kase n e k) (stepsOf (kase n e k) rule a))).testBit x = true ↔ _
  rw [q]
  constructor
  · intro h
    exact ⟨q2 h, by simpa using h⟩
  · intro h
    simpa using h.2
end Rf
/-! ## RfN7 -/
namespace Rf
/-! ### all rules, the mirror's and the specification's -/
theorem even_same0 : goodAll3 (fun n e k => (VL n e k).all fun v => isEven (castR v) == Km537.evenRow v) = true := by decide +kernel
theorem even_same {n e k : Nat} (g : Good n k) (he : e ≤ 2) {v : List Nat} (hv : v ∈ VL n e k) : isEven (castR v) = Km537.evenRow v := by
  have h := good_all3 even_same0 g he
  rw [List.all_eq_true] at h
  simpa using h v hv
theorem deeds_same2 {n e k : Nat} (g : Good n k) (he : e ≤ 2) {v : List Nat} (hv : v ∈ VL n e k) : deedsOf (castR v) = List.range (Km537.choices v) := by
  unfold deedsOf Km537.choices
  rw [even_same g he hv]
  cases Km537.evenRow v <;> rfl
theorem many_same {n e k : Nat} (g : Good n k) (he : e ≤ 2) : manyRules (allViews (allNames n k) e) = (VL n e k).foldl (fun (a : Nat) (v : List Nat) => a * Km537.choices v) 1 := by
  rw [vl_mine g he]
  unfold manyRules
  rw [List.foldl_map]
  have gen : ∀ (l : List (List Nat)) (a : Nat), (∀ v ∈ l, v ∈ VL n e k) → l.foldl (fun a v => a * (deedsOf (castR v)).length) a = l.foldl (fun (a : Nat) (v : List Nat) => a * Km537.choices v) a := by
    intro l
    induction l with
    | nil => intro a _; rfl
    | cons v l ih =>
      intro a h
      rw [List.foldl_cons, List.foldl_cons, deeds_same2 g he (h v List.mem_cons_self), List.length_range]
      exact ih _ fun x hx => h x (List.mem_cons_of_mem _ hx)
  exact gen _ 1 fun v hv => hv
theorem rulesUp_all {n e k : Nat} (g : Good n k) (he : e ≤ 2) : ∀ (l : List (List Nat)) (found : List (List Nat)), (∀ v ∈ l, v ∈ VL n e k) → rulesUp (l.map castR) found = found.flatMap fun r => (Km537.allRules l).map fun x => r ++ x
  | [], found, _ => by
    unfold rulesUp Km537.allRules
    simp
  | v :: l, found, h => by
    show rulesUp (l.map castR) (found.flatMap fun r => (deedsOf (castR v)).map fun d => r ++ [d]) = _
    rw [rulesUp_all g he l _ fun x hx => h x (List.mem_cons_of_mem _ hx), deeds_same2 g he (h v List.mem_cons_self), List.flatMap_assoc]
    congr 1
    funext r
    show _ = ((List.range (Km537.choices v)).flatMap fun m => (Km537.allRules l).map fun x => m :: x).map fun x => r ++ x
    rw [List.flatMap_map, List.map_flatMap]
    congr 1
    funext m
    rw [List.map_map]
    congr 1
    funext x
    simp
theorem rules_same {n e k : Nat} (g : Good n k) (he : e ≤ 2) : rules (allViews (allNames n k) e) = Km537.allRules (VL n e k) := by
  unfold rules
  rw [vl_mine g he, rulesUp_all g he _ _ fun v hv => hv]
  simp
section
variable {n e k a : Nat} (g : Good n k) (he : e ≤ 2) (ha : a ≤ 2) (d : Km537.Desk) (h1 : d.n = n) (h2 : d.eyes = e) (h3 : d.k = k)
include g he
theorem many_spec : Km537.rulesThereAre { d with n := n, eyes := e, k := k } = manyRules (allViews (allNames n k) e) := by
  rw [many_same g he]
  unfold Km537.rulesThereAre
  rw [vl_spec g he _ rfl rfl rfl]
include ha h1 h2 h3
theorem sures_same : Km537.allSures d a = (Km537.allRules (VL n e k)).map fun r => (r, members (gathers (kase n e k) r a)) := by
  unfold Km537.allSures
  rw [vl_spec g he d h1 h2 h3]
  refine List.map_congr_left fun r hr => ?_
  show (r, Km537.suresBy (Km537.table d a) r) = _
  rw [gathers_is g he ha hr d h1 h2 h3]
end
theorem good_same (b m : Nat) : Km537.goodFor (members m) (members b) = decide (b &&& m = m) := by
  rw [Bool.eq_iff_iff, decide_eq_true_iff, sub_bits]
  unfold Km537.goodFor
  rw [List.all_eq_true]
  constructor
  · intro h j hj
    have := h j hj
    rw [List.contains_iff_mem, mem_members] at this
    exact this
  · intro h j hj
    rw [List.contains_iff_mem, mem_members]
    exact h j hj
/-- the good rules -/
def RG (n e k a m : Nat) : List (List Nat) := (Km537.allRules (VL n e k)).filter fun r => decide (gathers (kase n e k) r a &&& m = m)
section
variable {n e k a : Nat} (g : Good n k) (he : e ≤ 2)
include g he
theorem goodP_is (s : Dsk) (a : Nat) : goodP s n e k a = (List.range (Km537.allRules (VL n e k)).length).filter fun i => decide (gathers (kase n e k) ((Km537.allRules (VL n e k)).getD i []) a &&& s.marked = s.marked) := by
  unfold goodP allG
  rw [rules_same g he, List.length_map]
  refine List.filter_congr fun i hi => ?_
  have hi := List.mem_range.mp hi
  have e1 : ((Km537.allRules (VL n e k)).map fun r => gathers (kase n e k) r a).getD i 0 = gathers (kase n e k) ((Km537.allRules (VL n e k)).getD i []) a := by
    rw [List.getD_eq_getElem?_getD, List.getElem?_map, List.getD_eq_getElem?_getD, List.getElem?_eq_getElem hi]
    rfl
  rw [e1]
theorem goodP_map (s : Dsk) (a : Nat) : (goodP s n e k a).map (fun i => (rules (allViews (allNames n k) e)).getD i []) = RG n e k a s.marked := by
  rw [goodP_is g he, rules_same g he]
  exact range_filter [] (fun r => decide (gathers (kase n e k) r a &&& s.marked = s.marked)) _
theorem goodP_len (s : Dsk) (a : Nat) : (goodP s n e k a).length = (RG n e k a s.marked).length := by
  rw [← goodP_map g he s a, List.length_map]
theorem goodP_get (s : Dsk) (a i : Nat) (h : i < (goodP s n e k a).length) : (RG n e k a s.marked)[i]? = some ((rules (allViews (allNames n k) e)).getD ((goodP s n e k a).getD i 0) []) := by
  rw [← goodP_map g he s a, List.getElem?_map, List.getD_eq_getElem?_getD (l := goodP s n e k a), List.getElem?_eq_getElem h]
  rfl
end
section
variable {n e k a : Nat} (g : Good n k) (he : e ≤ 2) (ha : a ≤ 2) (d : Km537.Desk) (h1 : d.n = n) (h2 : d.eyes = e) (h3 : d.k = k)
include g he ha h1 h2 h3
theorem filter_same (m : Nat) : ((Km537.allSures d a).filter fun p => Km537.goodFor (members m) p.2) = (RG n e k a m).map fun r => (r, members (gathers (kase n e k) r a)) := by
  rw [sures_same g he ha d h1 h2 h3, List.filter_map]
  unfold RG
  congr 1
  refine List.filter_congr fun r _ => ?_
  exact good_same _ _
theorem first_same (m : Nat) : (((Km537.allSures d a).find? fun p => Km537.goodFor (members m) p.2).map fun p => p.1) = (RG n e k a m)[0]? := by
  rw [← List.head?_filter, filter_same g he ha d h1 h2 h3, List.head?_map, Option.map_map, ← List.head?_eq_getElem?]
  have : ((fun p : List Nat × List Nat => p.1) ∘ fun r => (r, members (gathers (kase n e k) r a))) = id := rfl
  rw [this, Option.map_id]
  rfl
end
/-! the best rule -/
def bestOf : List (List Nat × Int) → List Nat × Int → List Nat × Int
  | [], o => o
  | p :: l, o => bestOf l (if o.2 < p.2 then p else o)
theorem maxI_cons (x : Int) : ∀ (l : List Int), x ≤ maxI (x :: l) ∧ (∀ y ∈ l, y ≤ maxI (x :: l)) ∧ (maxI (x :: l) = x ∨ maxI (x :: l) ∈ l) := by
  have g : ∀ (l : List Int) (a : Int), a ≤ l.foldl (fun a b => if a < b then b else a) a ∧ (∀ y ∈ l, y ≤ l.foldl (fun a b => if a < b then b else a) a) ∧ (l.foldl (fun a b => if a < b then b else a) a = a ∨ l.foldl (fun a b => if a < b then b else a) a ∈ l) := by
    intro l
    induction l with
    | nil => intro a; exact ⟨Int.le_refl _, (fun _ h => nomatch h), .inl rfl⟩
    | cons x l ih =>
      intro a
      obtain ⟨h1, h2, h3⟩ := ih (if a < x then x else a)
      rw [List.foldl_cons]
      have ha : a ≤ (if a < x then x else a) := by split <;> omega
      have hx : x ≤ (if a < x then x else a) := by split <;> omega
      refine ⟨Int.le_trans ha h1, fun y hy => ?_, ?_⟩
      · rcases List.mem_cons.mp hy with e | hy
        · rw [e]; exact Int.le_trans hx h1
        · exact h2 y hy
      · rcases h3 with e | h
        · rw [e]
          split
          · exact .inr List.mem_cons_self
          · exact .inl rfl
        · exact .inr (List.mem_cons_of_mem _ h)
  intro l
  exact g l x
theorem maxI_two (x y : Int) (l : List Int) : maxI (x :: y :: l) = maxI ((if x < y then y else x) :: l) := rfl
theorem bestOf_is : ∀ (l : List (List Nat × Int)) (o : List Nat × Int), bestOf l o = ((o :: l).getD (((o :: l).map fun p => p.2).idxOf (maxI ((o :: l).map fun p => p.2))) ([], 0)) ∧ (bestOf l o).2 = maxI ((o :: l).map fun p => p.2)
  | [], o => by
    have e : maxI [o.2] = o.2 := rfl
    simp [bestOf, e]
  | p :: l, o => by
    have ih := bestOf_is l (if o.2 < p.2 then p else o)
    have e2 : maxI ((o :: p :: l).map fun p => p.2) = maxI (((if o.2 < p.2 then p else o) :: l).map fun p => p.2) := by
      rw [List.map_cons, List.map_cons, maxI_two, List.map_cons]
      congr 2
      split <;> rfl
    show bestOf l (if o.2 < p.2 then p else o) = _ ∧ (bestOf l (if o.2 < p.2 then p else o)).2 = _
    rw [e2]
    refine ⟨?_, ih.2⟩
    rw [ih.1]
    obtain ⟨m1, m2, m3⟩ := maxI_cons (if o.2 < p.2 then p else o).2 (l.map fun p => p.2)
    rw [List.map_cons, List.map_cons, List.map_cons]
    generalize hM : maxI ((if o.2 < p.2 then p else o).2 :: l.map fun p => p.2) = M at m1 m2 m3 ⊢
    by_cases c : o.2 < p.2
    · rw [if_pos c] at m1 m3 ⊢
      have hne : (o.2 == M) = false := beq_false_of_ne (by omega)
      rw [List.idxOf_cons (x := o.2), hne]
      simp
    · rw [if_neg c] at m1 m3 ⊢
      by_cases c2 : o.2 = M
      · rw [c2]
        simp
      · have hne : (o.2 == M) = false := beq_false_of_ne c2
        have hne2 : (p.2 == M) = false := beq_false_of_ne (by omega)
        rw [List.idxOf_cons (x := o.2), hne, List.idxOf_cons (x := o.2), hne, List.idxOf_cons (x := p.2), hne2]
        simp
end Rf
/-! ## RfN8 -/
namespace Rf
/-! ### the desk's mirror and the specification's desk -/
structure RelD (s : Dsk) (n e k : Nat) (d : Km537.Desk) : Prop where
  eq : s.case = some (n, e, k)
  g : Good n k
  e2 : e ≤ 2
  mv : s.moves ≤ 2
  mb : s.marked < 2 ^ (allNames n k).length
  rl : s.now ∈ Km537.allRules (VL n e k)
  is : d = ⟨n, e, k, s.moves, members s.marked, s.now⟩
def RelS (s : Dsk) (st : Km537.State) : Prop := match st with
  | none => s.case = none
  | some d => ∃ n e k, RelD s n e k d
def told1 (a : Km537.Ans) : List Int := a.num :: a.nums
def Agree (s : Dsk) (out : Out) (r : Km537.State × Km537.Ans) : Prop := match out with
  | .ok (s', l) => RelS s' r.1 ∧ l = told1 r.2
  | .error z => RelS s r.1 ∧ [z] = told1 r.2
theorem counted_n (l : List Nat) : countedI (nI l) = told1 (Km537.tellAll l) := by
  unfold countedI told1 Km537.tellAll nI
  rw [List.length_map]
  rfl
theorem agree_few {s : Dsk} {d : Km537.Desk} {st : Km537.State} {m : Nat} {o : Out} {a : Km537.Ans} (hs : RelS s st) (hm : Km537.rulesThereAre d = m) (h : Agree s o (st, a)) : Agree s (if 6000 < m then .error (-28) else o) (st, Km537.ifFew d fun _ => a) := by
  unfold Km537.ifFew
  rw [hm]
  by_cases c : 6000 < m
  · rw [if_pos c, if_pos (show Km537.MOST < m from c)]
    exact ⟨hs, rfl⟩
  · rw [if_neg c, if_neg (show ¬ Km537.MOST < m from c)]
    exact h
section
variable {s : Dsk} {n e k : Nat} {d : Km537.Desk}
theorem RelD.st (R : RelD s n e k d) : RelS s (some d) := ⟨n, e, k, R⟩
theorem RelD.names (R : RelD s n e k d) : Km537.names d = NL n k := by
  have h := R.is
  subst h
  exact nl_spec R.g
theorem RelD.views (R : RelD s n e k d) : Km537.views d = VL n e k := vl_spec R.g R.e2 d (by rw [R.is]) (by rw [R.is]) (by rw [R.is])
theorem RelD.nlen (R : RelD s n e k d) : (allNames n k).length = (NL n k).length := by rw [nl_mine R.g, List.length_map]
theorem RelD.vlen (R : RelD s n e k d) : (allViews (allNames n k) e).length = (VL n e k).length := by rw [vl_mine R.g R.e2, List.length_map]
theorem RelD.many (R : RelD s n e k d) : Km537.rulesThereAre d = manyRules (allViews (allNames n k) e) := by
  rw [many_same R.g R.e2]
  unfold Km537.rulesThereAre
  rw [R.views]
theorem n2i_cast (l : List Nat) : castR l = Km537.n2i l := rfl
theorem ag_at (R : RelD s n e k d) (m : Nat) : Agree s (dSet s m) (Km537.step (some d) (.at_ m)) := by
  unfold dSet
  have e0 : Km537.step (some d) (.at_ m) = if 2 < m then (some d, Km537.say (-22)) else (some { d with at_ := m }, Km537.say (d.at_ : Nat)) := rfl
  rw [e0]
  by_cases c : 2 < m
  · rw [if_pos c, if_pos c]
    exact ⟨R.st, rfl⟩
  · rw [if_neg c, if_neg c]
    refine ⟨⟨n, e, k, R.eq, R.g, R.e2, by show m ≤ 2; omega, R.mb, R.rl, by rw [R.is]⟩, ?_⟩
    rw [R.is]
    rfl
theorem ag_name (R : RelD s n e k d) (i : Nat) : Agree s (dName s n k i) (Km537.step (some d) (.name i)) := by
  unfold dName
  have e0 : Km537.step (some d) (.name i) = (some d, match (Km537.names d)[i]? with
        | none => Km537.say (-2)
        | some l => Km537.tellAll l) := rfl
  rw [e0, R.names, R.nlen]
  by_cases c : (NL n k).length ≤ i
  · rw [if_pos c, List.getElem?_eq_none c]
    exact ⟨R.st, rfl⟩
  · rw [if_neg c, List.getElem?_eq_getElem (by omega)]
    refine ⟨R.st, ?_⟩
    have e1 : (allNames n k).getD i [] = castR ((NL n k)[i]'(by omega)) := by
      apply getD_of
      rw [nl_mine R.g, List.getElem?_map, List.getElem?_eq_getElem (by omega)]
      rfl
    rw [e1]
    exact counted_n _
theorem ag_view (R : RelD s n e k d) (i : Nat) : Agree s (dView s n e k i) (Km537.step (some d) (.view i)) := by
  unfold dView
  have e0 : Km537.step (some d) (.view i) = (some d, match (Km537.views d)[i]? with
        | none => Km537.say (-2)
        | some l => ⟨(if Km537.evenRow l then 1 else 0), Km537.n2i l⟩) := rfl
  rw [e0, R.views, R.vlen]
  by_cases c : (VL n e k).length ≤ i
  · rw [if_pos c, List.getElem?_eq_none c]
    exact ⟨R.st, rfl⟩
  · rw [if_neg c, List.getElem?_eq_getElem (by omega)]
    refine ⟨R.st, ?_⟩
    have e1 : (allViews (allNames n k) e).getD i [] = castR ((VL n e k)[i]'(by omega)) := by
      apply getD_of
      rw [vl_mine R.g R.e2, List.getElem?_map, List.getElem?_eq_getElem (by omega)]
      rfl
    rw [e1, even_same R.g R.e2 (List.getElem_mem (by omega))]
    rfl
theorem ag_who (R : RelD s n e k d) (i : Nat) : Agree s (dWho s n e k i) (Km537.step (some d) (.who i)) := by
  unfold dWho
  have e0 : Km537.step (some d) (.who i) = (some d, match (Km537.names d)[i]? with
        | none => Km537.say (-2)
        | some l => Km537.tellAll ((Km537.seen d l).map fun v => Km537.place (Km537.views d) v)) := rfl
  rw [e0, R.names, R.nlen, R.views]
  by_cases c : (NL n k).length ≤ i
  · rw [if_pos c, List.getElem?_eq_none c]
    exact ⟨R.st, rfl⟩
  · have hi := List.getElem?_eq_getElem (l := NL n k) (i := i) (by omega)
    rw [if_neg c, hi]
    refine ⟨R.st, ?_⟩
    have loc := loc_all R.g R.e2 (List.mem_of_getElem? hi)
    unfold locL at loc
    rw [Bool.and_eq_true, Bool.and_eq_true] at loc
    have hu := of_decide_eq_true loc.1.1
    rw [hadL_is R.g R.e2 hi, ← hu]
    have e2 : Km537.seen d (NL n k)[i] = Km534.viewsOf ⟨(NL n k)[i], e⟩ := by
      unfold Km537.seen
      rw [R.is]
    show countedI (nI _) = told1 (Km537.tellAll _)
    rw [e2]
    exact counted_n _
theorem marked_has (m i : Nat) : (members m).contains i = m.testBit i := by
  rw [Bool.eq_iff_iff, List.contains_iff_mem, mem_members]
theorem bits_bound {b L : Nat} (h : ∀ j ∈ members b, j < L) : b < 2 ^ L := by
  apply Nat.lt_pow_two_of_testBit
  intro j hj
  cases c : b.testBit j with
  | false => rfl
  | true =>
    have := h j ((mem_members b j).mpr c)
    omega
theorem rel_marks (R : RelD s n e k d) {b : Nat} (hb : ∀ j ∈ members b, j < (NL n k).length) : RelS (putMarks s b).1 (some { d with marks := members b }) :=
  ⟨n, e, k, R.eq, R.g, R.e2, R.mv, by rw [R.nlen]; exact bits_bound hb, R.rl, by rw [R.is]; rfl⟩
theorem ag_mark (R : RelD s n e k d) (i : Nat) : Agree s (dMark s n k i) (Km537.step (some d) (.mark i)) := by
  unfold dMark
  have e0 : Km537.step (some d) (.mark i) = if (Km537.names d).length ≤ i then (some d, Km537.say (-2)) else if d.marks.contains i then (some d, Km537.say (-17)) else (some { d with marks := Km537.insertN i d.marks }, Km537.say (d.marks.length + 1 : Nat)) := rfl
  have em : d.marks = members s.marked := by rw [R.is]
  rw [e0, R.names, R.nlen, em, marked_has]
  by_cases c : (NL n k).length ≤ i
  · rw [if_pos c, if_pos c]
    exact ⟨R.st, rfl⟩
  · rw [if_neg c, if_neg c]
    cases cm : s.marked.testBit i with
    | true =>
      rw [if_pos rfl, if_pos rfl]
      exact ⟨R.st, rfl⟩
    | false =>
      rw [if_neg Bool.false_ne_true, if_neg Bool.false_ne_true]
      have ea := members_add cm
      rw [← ea]
      refine ⟨rel_marks R fun j hj => ?_, ?_⟩
      · rw [ea, insertN_mem] at hj
        rcases hj with h | h
        · omega
        · have := members_lt R.mb h
          rw [R.nlen] at this
          exact this
      · have hl : (members (s.marked + 2 ^ i)).length = (members s.marked).length + 1 := by
          rw [ea]
          have gl : ∀ l : List Nat, (Km537.insertN i l).length = l.length + 1 := by
            intro l
            induction l with
            | nil => rfl
            | cons y r ih =>
              unfold Km537.insertN
              split
              · rfl
              · rw [List.length_cons, ih]; rfl
          exact gl _
        show [((members _).length : Int)] = _
        rw [hl]
        rfl
theorem ag_unmark (R : RelD s n e k d) (i : Nat) : Agree s (dUnmark s n k i) (Km537.step (some d) (.unmark i)) := by
  unfold dUnmark
  have e0 : Km537.step (some d) (.unmark i) = if (Km537.names d).length ≤ i then (some d, Km537.say (-2)) else if d.marks.contains i = false then (some d, Km537.say (-6)) else (some { d with marks := d.marks.erase i }, Km537.say (d.marks.length - 1 : Nat)) := rfl
  have em : d.marks = members s.marked := by rw [R.is]
  rw [e0, R.names, R.nlen, em, marked_has]
  by_cases c : (NL n k).length ≤ i
  · rw [if_pos c, if_pos c]
    exact ⟨R.st, rfl⟩
  · rw [if_neg c, if_neg c]
    cases cm : s.marked.testBit i with
    | false =>
      rw [if_pos rfl, if_pos rfl]
      exact ⟨R.st, rfl⟩
    | true =>
      rw [if_neg (by decide), if_neg (by decide)]
      have ea := members_sub cm
      rw [← ea]
      refine ⟨rel_marks R fun j hj => ?_, ?_⟩
      · rw [ea] at hj
        have := members_lt R.mb (List.mem_of_mem_erase hj)
        rw [R.nlen] at this
        exact this
      · have hl : (members (s.marked - 2 ^ i)).length = (members s.marked).length - 1 := by
          rw [ea, List.length_erase, if_pos (by rw [mem_members]; exact cm)]
        show [((members _).length : Int)] = _
        rw [hl]
        rfl
theorem apart_same0 : goodAll (fun n k => (NL n k).all fun l => decide (maxI (castR l) = 1) == Km537.apart l) = true := by decide +kernel
theorem ag_apart (R : RelD s n e k d) : Agree s (.ok (dApart s n k)) (Km537.step (some d) .markApart) := by
  have e0 : Km537.step (some d) .markApart = (some { d with marks := (List.range (Km537.names d).length).filter fun i => Km537.apart ((Km537.names d).getD i []) }, Km537.say (((List.range (Km537.names d).length).filter fun i => Km537.apart ((Km537.names d).getD i [])).length : Nat)) := rfl
  rw [e0, R.names]
  have ef : ((List.range (allNames n k).length).filter fun i => decide (maxI ((allNames n k).getD i []) = 1)) = (List.range (NL n k).length).filter fun i => Km537.apart ((NL n k).getD i []) := by
    rw [R.nlen]
    refine List.filter_congr fun i hi => ?_
    have hi := List.mem_range.mp hi
    have h := good_all apart_same0 R.g
    rw [List.all_eq_true] at h
    have h := h (NL n k)[i] (List.getElem_mem hi)
    have e1 : (allNames n k).getD i [] = castR (NL n k)[i] := by
      apply getD_of
      rw [nl_mine R.g, List.getElem?_map, List.getElem?_eq_getElem hi]
      rfl
    have e2 : (NL n k).getD i [] = (NL n k)[i] := by
      apply getD_of
      rw [List.getElem?_eq_getElem hi]
    rw [e1, e2]
    simpa using h
  unfold dApart
  rw [ef]
  have ex := members_bitsOf (rising_filter (fun i => Km537.apart ((NL n k).getD i [])) (rising_range (NL n k).length))
  have z := rel_marks R (b := bitsOf ((List.range (NL n k).length).filter fun i => Km537.apart ((NL n k).getD i []))) fun j hj => by
    rw [ex] at hj
    exact List.mem_range.mp (List.mem_filter.mp hj).1
  rw [ex] at z
  refine ⟨z, ?_⟩
  show [((members _).length : Int)] = _
  rw [ex]
  rfl
theorem getD_set (l : List Nat) (v m i : Nat) (hv : v < l.length) : (l.set v m).getD i 0 = if v = i then m else l.getD i 0 := by
  rw [List.getD_eq_getElem?_getD, List.getElem?_set]
  by_cases e : v = i
  · subst e
    rw [if_pos rfl, if_pos rfl, if_pos hv]
    rfl
  · rw [if_neg e, if_neg e, List.getD_eq_getElem?_getD]
theorem ag_tell (R : RelD s n e k d) (v m : Nat) : Agree s (dTell s n e k v m) (Km537.step (some d) (.set v m)) := by
  unfold dTell
  have e0 : Km537.step (some d) (.set v m) = match (Km537.views d)[v]? with
        | none => (some d, Km537.say (-2))
        | some l => if Km537.choices l ≤ m then (some d, Km537.say (-22)) else (some { d with rule := d.rule.set v m }, Km537.say (d.rule.getD v 0 : Nat)) := rfl
  rw [e0, R.views, R.vlen]
  by_cases c : (VL n e k).length ≤ v
  · rw [if_pos c, List.getElem?_eq_none c]
    exact ⟨R.st, rfl⟩
  · have hv : v < (VL n e k).length := by omega
    rw [if_neg c, List.getElem?_eq_getElem hv]
    have e1 : (allViews (allNames n k) e).getD v [] = castR (VL n e k)[v] := by
      apply getD_of
      rw [vl_mine R.g R.e2, List.getElem?_map, List.getElem?_eq_getElem hv]
      rfl
    rw [e1, deeds_same2 R.g R.e2 (List.getElem_mem hv)]
    show Agree s _ (if Km537.choices (VL n e k)[v] ≤ m then _ else _)
    have er : d.rule = s.now := by rw [R.is]
    by_cases cm : m < Km537.choices (VL n e k)[v]
    · rw [if_pos (List.mem_range.mpr cm), if_neg (by omega), er]
      obtain ⟨r1, r2⟩ := (mem_allRules _ _).mp R.rl
      refine ⟨⟨n, e, k, R.eq, R.g, R.e2, R.mv, R.mb, ?_, by rw [R.is]⟩, rfl⟩
      refine (mem_allRules _ _).mpr ⟨by rw [List.length_set]; exact r1, fun i hi => ?_⟩
      show (s.now.set v m).getD i 0 < _
      rw [getD_set _ _ _ _ (by rw [r1]; exact hv)]
      by_cases c2 : v = i
      · subst c2
        rw [if_pos rfl]
        have e3 : (VL n e k).getD v [] = (VL n e k)[v] := getD_of (List.getElem?_eq_getElem hv)
        rw [e3]
        exact cm
      · rw [if_neg c2]
        exact r2 i hi
    · rw [if_neg (fun z => cm (List.mem_range.mp z)), if_pos (by omega)]
      exact ⟨R.st, rfl⟩
end
end Rf
/-! ## RfN9 -/
namespace Rf
section
variable {s : Dsk} {n e k : Nat} {d : Km537.Desk}
theorem RelD.dn (R : RelD s n e k d) : d.n = n := by rw [R.is]
theorem RelD.de (R : RelD s n e k d) : d.eyes = e := by rw [R.is]
theorem RelD.dk (R : RelD s n e k d) : d.k = k := by rw [R.is]
theorem RelD.da (R : RelD s n e k d) : d.at_ = s.moves := by rw [R.is]
theorem RelD.dm (R : RelD s n e k d) : d.marks = members s.marked := by rw [R.is]
theorem RelD.dr (R : RelD s n e k d) : d.rule = s.now := by rw [R.is]
theorem RelD.sures (R : RelD s n e k d) : Km537.suresBy (Km537.table d d.at_) d.rule = members (gathers (kase n e k) s.now s.moves) := by
  rw [R.da, R.dr]
  exact (gathers_is R.g R.e2 R.mv R.rl d R.dn R.de R.dk).symm
theorem RelD.filt (R : RelD s n e k d) {a : Nat} (ha : a ≤ 2) : ((Km537.allSures d a).filter fun p => Km537.goodFor d.marks p.2) = (RG n e k a s.marked).map fun r => (r, members (gathers (kase n e k) r a)) := by
  rw [R.dm]
  exact filter_same R.g R.e2 ha d R.dn R.de R.dk _
theorem RelD.first (R : RelD s n e k d) : Km537.firstGood d = (RG n e k s.moves s.marked)[0]? := by
  unfold Km537.firstGood
  rw [R.dm, R.da]
  exact first_same R.g R.e2 R.mv d R.dn R.de R.dk _
theorem ag_good (R : RelD s n e k d) : Agree s (.ok (s, dGood s n e k)) (Km537.step (some d) .good) := by
  have e0 : Km537.step (some d) .good = (some d, ⟨((d.marks.filter fun i => (Km537.suresBy (Km537.table d d.at_) d.rule).contains i).length : Int), [(d.marks.length : Int)]⟩) := rfl
  rw [e0, R.sures, R.dm]
  refine ⟨R.st, ?_⟩
  unfold dGood told1
  rw [members_and]
  have ef : ((members s.marked).filter fun j => (gathers (kase n e k) s.now s.moves).testBit j) = (members s.marked).filter fun i => (members (gathers (kase n e k) s.now s.moves)).contains i :=
    List.filter_congr fun i _ => (marked_has _ _).symm
  rw [ef]
theorem ag_goods (R : RelD s n e k d) : Agree s (.ok (s, countedI (nI (members (gathers (kase n e k) s.now s.moves))))) (Km537.step (some d) .goods) := by
  have e0 : Km537.step (some d) .goods = (some d, Km537.tellAll (Km537.suresBy (Km537.table d d.at_) d.rule)) := rfl
  rw [e0, R.sures]
  exact ⟨R.st, counted_n _⟩
theorem ag_nth (R : RelD s n e k d) (i : Nat) : Agree s (dNth s n e k i) (Km537.step (some d) (.nth i)) := by
  have e0 : Km537.step (some d) (.nth i) = (some d, Km537.ifFew d fun _ => match ((Km537.allSures d d.at_).filter fun p => Km537.goodFor d.marks p.2)[i]? with
        | none => Km537.say (-33)
        | some p => Km537.tellAll p.1) := rfl
  rw [e0]
  refine agree_few R.st R.many ?_
  rw [R.da, R.filt R.mv, List.getElem?_map]
  by_cases c : (goodP s n e k s.moves).length ≤ i
  · rw [if_pos c, List.getElem?_eq_none (by rw [← goodP_len R.g R.e2]; exact c)]
    exact ⟨R.st, rfl⟩
  · rw [if_neg c, goodP_get R.g R.e2 s s.moves i (by omega)]
    exact ⟨R.st, counted_n _⟩
theorem ag_found (R : RelD s n e k d) : Agree s (dNth s n e k 0) (Km537.step (some d) .found) := by
  have e0 : Km537.step (some d) .found = (some d, Km537.ifFew d fun _ => match Km537.firstGood d with
        | none => Km537.say (-33)
        | some r => Km537.tellAll r) := rfl
  rw [e0]
  refine agree_few R.st R.many ?_
  rw [R.first]
  by_cases c : (goodP s n e k s.moves).length ≤ 0
  · rw [if_pos c, List.getElem?_eq_none (by rw [← goodP_len R.g R.e2]; exact c)]
    exact ⟨R.st, rfl⟩
  · rw [if_neg c, goodP_get R.g R.e2 s s.moves 0 (by omega)]
    exact ⟨R.st, counted_n _⟩
theorem rule_in (g : Good n k) (he : e ≤ 2) {i : Nat} (h : i ∈ goodP s n e k s.moves) : (rules (allViews (allNames n k) e)).getD i [] ∈ Km537.allRules (VL n e k) := by
  have hlt := goodP_lt h
  rw [List.getD_eq_getElem?_getD, List.getElem?_eq_getElem hlt, ← rules_same g he]
  exact List.getElem_mem hlt
theorem ag_take (R : RelD s n e k d) : Agree s (dTake s n e k) (Km537.step (some d) .take) := by
  have e0 : Km537.step (some d) .take = if Km537.MOST < Km537.rulesThereAre d then (some d, Km537.say (-28)) else match Km537.firstGood d with
        | none => (some d, Km537.say (-33))
        | some r => (some { d with rule := r }, Km537.say 0) := rfl
  rw [e0, R.many, R.first]
  unfold dTake
  by_cases cm : 6000 < manyRules (allViews (allNames n k) e)
  · rw [if_pos cm, if_pos (show Km537.MOST < _ from cm)]
    exact ⟨R.st, rfl⟩
  · rw [if_neg cm, if_neg (show ¬ Km537.MOST < _ from cm)]
    by_cases c : (goodP s n e k s.moves).length = 0
    · rw [if_pos c, List.getElem?_eq_none (by rw [← goodP_len R.g R.e2]; omega)]
      exact ⟨R.st, rfl⟩
    · rw [if_neg c, goodP_get R.g R.e2 s s.moves 0 (by omega)]
      refine ⟨⟨n, e, k, R.eq, R.g, R.e2, R.mv, R.mb, ?_, by rw [R.is]⟩, rfl⟩
      refine rule_in (s := s) R.g R.e2 ?_
      rw [List.getD_eq_getElem?_getD, List.getElem?_eq_getElem (by omega)]
      exact List.getElem_mem _
theorem ag_many (R : RelD s n e k d) : Agree s (dMany s n e k) (Km537.step (some d) .many) := by
  have e0 : Km537.step (some d) .many = (some d, Km537.ifFew d fun _ => ⟨(((Km537.allSures d d.at_).filter fun p => Km537.goodFor d.marks p.2).length : Int), [(Km537.rulesThereAre d : Int)]⟩) := rfl
  rw [e0]
  refine agree_few R.st R.many ?_
  rw [R.da, R.filt R.mv, List.length_map, R.many, ← goodP_len R.g R.e2]
  exact ⟨R.st, rfl⟩
theorem ag_allAt (R : RelD s n e k d) : Agree s (dAllAt s n e k) (Km537.step (some d) .allAt) := by
  have e0 : Km537.step (some d) .allAt = (some d, Km537.ifFew d fun _ => ⟨(((Km537.allSures d 0).filter fun p => Km537.goodFor d.marks p.2).length : Int), [(((Km537.allSures d 1).filter fun p => Km537.goodFor d.marks p.2).length : Int), (((Km537.allSures d 2).filter fun p => Km537.goodFor d.marks p.2).length : Int)]⟩) := rfl
  rw [e0]
  refine agree_few R.st R.many ?_
  rw [R.filt (a := 0) (by decide), R.filt (a := 1) (by decide), R.filt (a := 2) (by decide), List.length_map, List.length_map, List.length_map, ← goodP_len R.g R.e2, ← goodP_len R.g R.e2, ← goodP_len R.g R.e2]
  exact ⟨R.st, rfl⟩
/-! best -/
theorem nonempty_views (g : Good n k) (he : e ≤ 2) : VL n e k ≠ [] := fun z => by
  have h := (views_few g he).1
  rw [vl_mine g he, z] at h
  exact h rfl
theorem nonempty_rule (g : Good n k) (he : e ≤ 2) {r : List Nat} (h : r ∈ Km537.allRules (VL n e k)) : r ≠ [] := fun z => by
  have := ((mem_allRules _ _).mp h).1
  rw [z] at this
  have hne := nonempty_views g he
  cases hv : VL n e k with
  | nil => exact hne hv
  | cons v l => rw [hv] at this; simp at this
def asPair (o : List Nat × Nat) : List Nat × Int := (o.1, (o.2 : Int))
theorem best_fold (f : List Nat → Nat) : ∀ (l : List (List Nat)) (o : List Nat × Nat), o.1 ≠ [] → (∀ r ∈ l, r ≠ []) →
    asPair ((l.map fun r => (r, f r)).foldl (fun (o : List Nat × Nat) (p : List Nat × Nat) => if o.1 = [] ∨ o.2 < p.2 then (p.1, p.2) else o) o) = bestOf (l.map fun r => (r, (f r : Int))) (asPair o)
  | [], o, _, _ => rfl
  | r :: l, o, ho, h => by
    rw [List.map_cons, List.map_cons, List.foldl_cons]
    show _ = bestOf (l.map fun r => (r, (f r : Int))) (if ((o.2 : Nat) : Int) < (f r : Int) then asPair (r, f r) else asPair o)
    by_cases c : o.2 < f r
    · rw [if_pos (.inr c), if_pos (show ((o.2 : Nat) : Int) < (f r : Int) by omega)]
      exact best_fold f l (r, f r) (h r List.mem_cons_self) fun x hx => h x (List.mem_cons_of_mem _ hx)
    · rw [if_neg (fun z => z.elim ho c), if_neg (show ¬ ((o.2 : Nat) : Int) < (f r : Int) by omega)]
      exact best_fold f l o ho fun x hx => h x (List.mem_cons_of_mem _ hx)
theorem best_all (f : List Nat → Nat) (l : List (List Nat)) (hl : l ≠ []) (h : ∀ r ∈ l, r ≠ []) :
    asPair ((l.map fun r => (r, f r)).foldl (fun (o : List Nat × Nat) (p : List Nat × Nat) => if o.1 = [] ∨ o.2 < p.2 then (p.1, p.2) else o) ([], 0)) = (l.getD ((l.map fun r => (f r : Int)).idxOf (maxI (l.map fun r => (f r : Int)))) [], maxI (l.map fun r => (f r : Int))) := by
  cases l with
  | nil => exact absurd rfl hl
  | cons r l =>
    have e1 : ((r :: l).map fun r => (r, f r)).foldl (fun (o : List Nat × Nat) (p : List Nat × Nat) => if o.1 = [] ∨ o.2 < p.2 then (p.1, p.2) else o) ([], 0) = (l.map fun r => (r, f r)).foldl (fun (o : List Nat × Nat) (p : List Nat × Nat) => if o.1 = [] ∨ o.2 < p.2 then (p.1, p.2) else o) (r, f r) := by
      rw [List.map_cons, List.foldl_cons]
      congr 1
    rw [e1, best_fold f l (r, f r) (h r List.mem_cons_self) fun x hx => h x (List.mem_cons_of_mem _ hx)]
    obtain ⟨b1, b2⟩ := bestOf_is (l.map fun r => (r, (f r : Int))) (asPair (r, f r))
    have em : ((asPair (r, f r)) :: l.map fun r => (r, (f r : Int))) = (r :: l).map fun r => (r, (f r : Int)) := rfl
    rw [em] at b1 b2
    rw [List.map_map] at b1 b2
    have ef : ((fun p : List Nat × Int => p.2) ∘ fun r => (r, (f r : Int))) = fun r => (f r : Int) := rfl
    rw [ef] at b1 b2
    refine Prod.ext ?_ b2
    rw [b1]
    have hm : maxI ((r :: l).map fun r => (f r : Int)) ∈ (r :: l).map fun r => (f r : Int) := by
      rw [List.map_cons]
      rcases (maxI_cons (f r : Int) (l.map fun r => (f r : Int))).2.2 with z | z
      · rw [z]; exact List.mem_cons_self
      · exact List.mem_cons_of_mem _ z
    have hlt := List.idxOf_lt_length_of_mem hm
    generalize ((r :: l).map fun r => (f r : Int)).idxOf (maxI ((r :: l).map fun r => (f r : Int))) = i at hlt
    rw [List.length_map] at hlt
    rw [List.getD_eq_getElem?_getD, List.getElem?_map, List.getElem?_eq_getElem hlt, List.getD_eq_getElem?_getD, List.getElem?_eq_getElem hlt]
    rfl
theorem ag_best (R : RelD s n e k d) : Agree s (dBest s n e k) (Km537.step (some d) .best) := by
  have e0 : Km537.step (some d) .best = (some d, Km537.ifFew d fun _ =>
          ⟨((((Km537.allSures d d.at_).foldl (fun (o : List Nat × Nat) (p : List Nat × List Nat) =>
            if o.1 = [] ∨ o.2 < (d.marks.filter fun i => p.2.contains i).length then (p.1, (d.marks.filter fun i => p.2.contains i).length) else o) ([], 0)).2 : Nat) : Int), Km537.n2i ((Km537.allSures d d.at_).foldl (fun (o : List Nat × Nat) (p : List Nat × List Nat) =>
            if o.1 = [] ∨ o.2 < (d.marks.filter fun i => p.2.contains i).length then (p.1, (d.marks.filter fun i => p.2.contains i).length) else o) ([], 0)).1⟩) := rfl
  rw [e0]
  refine agree_few R.st R.many ?_
  have hf : (Km537.allSures d d.at_).foldl (fun (o : List Nat × Nat) (p : List Nat × List Nat) => if o.1 = [] ∨ o.2 < (d.marks.filter fun i => p.2.contains i).length then (p.1, (d.marks.filter fun i => p.2.contains i).length) else o) ([], 0) =
      ((Km537.allRules (VL n e k)).map fun r => (r, (members (gathers (kase n e k) r s.moves &&& s.marked)).length)).foldl (fun (o : List Nat × Nat) (p : List Nat × Nat) => if o.1 = [] ∨ o.2 < p.2 then (p.1, p.2) else o) ([], 0) := by
    rw [R.da, sures_same R.g R.e2 R.mv d R.dn R.de R.dk, List.foldl_map, List.foldl_map]
    congr 1
    funext o r
    have ec : (d.marks.filter fun i => (members (gathers (kase n e k) r s.moves)).contains i).length = (members (gathers (kase n e k) r s.moves &&& s.marked)).length := by
      rw [members_and, R.dm]
      congr 1
      exact List.filter_congr fun i _ => marked_has _ _
    show (if o.1 = [] ∨ o.2 < (d.marks.filter fun i => (members (gathers (kase n e k) r s.moves)).contains i).length then _ else _) = _
    rw [ec]
  rw [hf]
  have hne : Km537.allRules (VL n e k) ≠ [] := fun z => by
    have h1 := rules_len _ (allViews (allNames n k) e) rfl
    have h2 := many_pos (allViews (allNames n k) e) 1 (Nat.le_refl _)
    have h3 := rules_same R.g R.e2
    unfold rules at h3
    rw [h3, z] at h1
    unfold manyRules at h1
    simp at h1
    omega
  have hb := best_all (fun r => (members (gathers (kase n e k) r s.moves &&& s.marked)).length) (Km537.allRules (VL n e k)) hne fun r hr => nonempty_rule R.g R.e2 hr
  generalize ((Km537.allRules (VL n e k)).map fun r => (r, (members (gathers (kase n e k) r s.moves &&& s.marked)).length)).foldl (fun (o : List Nat × Nat) (p : List Nat × Nat) => if o.1 = [] ∨ o.2 < p.2 then (p.1, p.2) else o) ([], 0) = B at hb ⊢
  have hc : dCounts s n e k = (Km537.allRules (VL n e k)).map fun r => ((members (gathers (kase n e k) r s.moves &&& s.marked)).length : Int) := by
    unfold dCounts allG
    rw [rules_same R.g R.e2, List.map_map]
    rfl
  unfold asPair at hb
  injection hb with b1 b2
  refine ⟨R.st, ?_⟩
  rw [hc, rules_same R.g R.e2, ← b2, b2, ← b1, ← b2]
  rfl
/-! needed -/
theorem setOf_is (l : List Nat) : Km537.setOf l = bitsOf l := by
  have gen : ∀ (l : List Nat) (a : Nat), l.foldl (fun (a i : Nat) => a + 2 ^ i) a = a + bitsOf l := by
    intro l
    induction l with
    | nil => intro a; rfl
    | cons x l ih =>
      intro a
      rw [List.foldl_cons, ih, bitsOf_cons, Nat.add_assoc]
  unfold Km537.setOf
  rw [gen, Nat.zero_add]
theorem ag_needed (R : RelD s n e k d) (v : Nat) : Agree s (dNeeded s n e k v) (Km537.step (some d) (.needed v)) := by
  have e0 : Km537.step (some d) (.needed v) = (some d, if (Km537.views d).length ≤ v then Km537.say (-2) else Km537.ifFew d fun _ => match (Km537.allSures d d.at_).filter fun p => Km537.goodFor d.marks p.2 with
        | [] => Km537.say (-33)
        | l => Km537.say (Km537.setOf ((List.range 3).filter fun m => l.any fun p => p.1.getD v 0 == m) : Nat)) := rfl
  rw [e0, R.views]
  unfold dNeeded
  rw [R.vlen]
  by_cases c : (VL n e k).length ≤ v
  · rw [if_pos c, if_pos c]
    exact ⟨R.st, rfl⟩
  · rw [if_neg c, if_neg c]
    refine agree_few R.st R.many ?_
    rw [R.da, R.filt R.mv]
    have hm := goodP_map R.g R.e2 s s.moves
    by_cases cg : goodP s n e k s.moves = []
    · rw [if_pos cg]
      rw [cg] at hm
      rw [← hm]
      exact ⟨R.st, rfl⟩
    · rw [if_neg cg]
      have hl : (RG n e k s.moves s.marked).map (fun r => (r, members (gathers (kase n e k) r s.moves))) ≠ [] := fun z => cg (by
        have z := List.map_eq_nil_iff.mp z
        rw [z] at hm
        exact List.map_eq_nil_iff.mp hm)
      have hany : dSetOf s n e k v = Km537.setOf ((List.range 3).filter fun m => ((RG n e k s.moves s.marked).map fun r => (r, members (gathers (kase n e k) r s.moves))).any fun p => p.1.getD v 0 == m) := by
        rw [setOf_is]
        unfold dSetOf
        congr 1
        refine List.filter_congr fun m _ => ?_
        rw [List.any_map, ← hm, List.any_map]
        rfl
      generalize (RG n e k s.moves s.marked).map (fun r => (r, members (gathers (kase n e k) r s.moves))) = L at hl hany ⊢
      cases L with
      | nil => exact absurd rfl hl
      | cons p L =>
        refine ⟨R.st, ?_⟩
        rw [hany]
        rfl
end
end Rf
/-! ## RfN10 -/
namespace Rf
/-! why -/
theorem sets_same0 : ((List.range 256).all fun b => (List.range 9).all fun m => decide (setsUp (members b) m = Km537.choose m (members b))) = true := by decide +kernel
theorem sets_same {b m : Nat} (hb : b < 256) (hm : m ≤ 8) : setsUp (members b) m = Km537.choose m (members b) := by
  have h := sets_same0
  rw [List.all_eq_true] at h
  have h := h b (List.mem_range.mpr hb)
  rw [List.all_eq_true] at h
  exact of_decide_eq_true (h m (List.mem_range.mpr (by omega)))
theorem choose_sub : ∀ (m : Nat) (l s : List Nat), s ∈ Km537.choose m l → s.Sublist l
  | 0, l, s, h => by
    have e : s = [] := by simpa [Km537.choose] using h
    subst e
    exact List.nil_sublist l
  | m + 1, [], s, h => by simp [Km537.choose] at h
  | m + 1, x :: r, s, h => by
    unfold Km537.choose at h
    rcases List.mem_append.mp h with h | h
    · obtain ⟨t, ht, rfl⟩ := List.mem_map.mp h
      exact (choose_sub m r t ht).cons_cons x
    · exact (choose_sub (m + 1) r s h).cons x
theorem choose_all : ∀ (l : List Nat), l ∈ Km537.choose l.length l
  | [] => by simp [Km537.choose]
  | x :: r => by
    show x :: r ∈ Km537.choose (r.length + 1) (x :: r)
    unfold Km537.choose
    exact List.mem_append_left _ (List.mem_map.mpr ⟨r, choose_all r, rfl⟩)
theorem find_same {α : Type} {p q : α → Bool} : ∀ {l : List α}, (∀ x ∈ l, p x = q x) → l.find? p = l.find? q
  | [], _ => rfl
  | x :: l, h => by
    rw [List.find?_cons, List.find?_cons, h x List.mem_cons_self, find_same fun y hy => h y (List.mem_cons_of_mem _ hy)]
theorem flat_same {α β : Type} {f g : α → List β} : ∀ {l : List α}, (∀ x ∈ l, f x = g x) → l.flatMap f = l.flatMap g
  | [], _ => rfl
  | x :: l, h => by
    rw [List.flatMap_cons, List.flatMap_cons, h x List.mem_cons_self, flat_same fun y hy => h y (List.mem_cons_of_mem _ hy)]
section
variable {s : Dsk} {n e k : Nat} {d : Km537.Desk}
theorem ag_why (R : RelD s n e k d) : Agree s (dWhy s n e k) (Km537.step (some d) .why) := by
  have e0 : Km537.step (some d) .why = (some d, Km537.ifFew d fun _ => match Km537.core (Km537.allSures d d.at_) d.marks with
        | none => Km537.say (-6)
        | some s => Km537.tellAll s) := rfl
  rw [e0]
  refine agree_few R.st R.many ?_
  have h8 := (names_few R.g).2
  have hb : s.marked < 256 := Nat.lt_of_lt_of_le R.mb (Nat.pow_le_pow_right (n := 2) (by decide) h8)
  have hl8 : (members s.marked).length ≤ 8 := by
    have hsub : members s.marked = (List.range 8).filter fun j => s.marked.testBit j :=
      risingN_same (rising_members _) (rising_filter _ (rising_range _)) fun x => by
        rw [mem_members, List.mem_filter, List.mem_range]
        constructor
        · intro h
          have := members_lt R.mb ((mem_members _ _).mpr h)
          exact ⟨by omega, h⟩
        · intro h; exact h.2
    rw [hsub]
    refine Nat.le_trans (List.length_filter_le _ _) ?_
    rw [List.length_range]
    exact Nat.le_refl _
  have hF : (List.range ((members s.marked).length + 1)).flatMap (fun m => setsUp (members s.marked) m) = (List.range ((members s.marked).length + 1)).flatMap fun m => Km537.choose m (members s.marked) :=
    flat_same fun m hm => sets_same hb (by have := List.mem_range.mp hm; omega)
  have hall := sures_same R.g R.e2 R.mv d R.dn R.de R.dk
  have hG : allG n e k s.moves = (Km537.allRules (VL n e k)).map fun r => gathers (kase n e k) r s.moves := by
    unfold allG
    rw [rules_same R.g R.e2]
  have hp : ∀ x ∈ (List.range ((members s.marked).length + 1)).flatMap (fun m => Km537.choose m (members s.marked)), (!((allG n e k s.moves).any fun one => decide (one &&& bitsOf x = bitsOf x))) = !((Km537.allSures d s.moves).any fun p => Km537.goodFor x p.2) := fun x hx => by
    obtain ⟨m, _, hm⟩ := List.mem_flatMap.mp hx
    have rx : RisingN x := List.Pairwise.sublist (choose_sub _ _ _ hm) (rising_members _)
    rw [hall, hG, List.any_map, List.any_map]
    congr 2
    funext r
    have z := good_same (gathers (kase n e k) r s.moves) (bitsOf x)
    rw [members_bitsOf rx] at z
    exact z.symm
  have hcore : Km537.core (Km537.allSures d d.at_) d.marks = ((List.range ((members s.marked).length + 1)).flatMap fun m => setsUp (members s.marked) m).find? fun s' => !((allG n e k s.moves).any fun one => decide (one &&& bitsOf s' = bitsOf s')) := by
    rw [hF, find_same hp, R.da, R.dm]
    rfl
  rw [hcore]
  by_cases c : goodP s n e k s.moves ≠ []
  · rw [if_pos c]
    obtain ⟨i, hi⟩ := List.exists_mem_of_ne_nil _ c
    have hlt := goodP_lt hi
    have hgood : allG n e k s.moves ≠ [] ∧ ∃ one ∈ allG n e k s.moves, one &&& s.marked = s.marked := by
      have hi2 := List.mem_filter.mp hi
      have hlt2 := List.mem_range.mp hi2.1
      have q := of_decide_eq_true hi2.2
      rw [List.getD_eq_getElem?_getD, List.getElem?_eq_getElem hlt2] at q
      exact ⟨fun z => (by rw [z] at hlt2; simp at hlt2), _, List.getElem_mem hlt2, q⟩
    obtain ⟨_, one, ho, hone⟩ := hgood
    have hnone : ((List.range ((members s.marked).length + 1)).flatMap fun m => setsUp (members s.marked) m).find? (fun s' => !((allG n e k s.moves).any fun one => decide (one &&& bitsOf s' = bitsOf s'))) = none := by
      rw [hF, List.find?_eq_none]
      intro x hx
      obtain ⟨m, _, hm⟩ := List.mem_flatMap.mp hx
      have sub := choose_sub _ _ _ hm
      have rx : RisingN x := List.Pairwise.sublist sub (rising_members _)
      have : ((allG n e k s.moves).any fun one => decide (one &&& bitsOf x = bitsOf x)) = true := by
        rw [List.any_eq_true]
        refine ⟨one, ho, decide_eq_true ((sub_bits _ _).mpr fun j hj => ?_)⟩
        rw [members_bitsOf rx] at hj
        exact (sub_bits _ _).mp hone j (sub.subset hj)
      rw [this]
      decide
    rw [hnone]
    exact ⟨R.st, rfl⟩
  · have c : goodP s n e k s.moves = [] := Classical.byContradiction c
    rw [if_neg (fun z => z c)]
    unfold fewest
    have hsome : (((List.range ((members s.marked).length + 1)).flatMap fun m => setsUp (members s.marked) m).find? fun s' => !((allG n e k s.moves).any fun one => decide (one &&& bitsOf s' = bitsOf s'))).isSome = true := by
      rw [List.find?_isSome]
      refine ⟨members s.marked, ?_, ?_⟩
      · rw [hF]
        exact List.mem_flatMap.mpr ⟨_, List.mem_range.mpr (Nat.lt_succ_self _), choose_all _⟩
      · have hbm : bitsOf (members s.marked) = s.marked := by
          apply Nat.eq_of_testBit_eq
          intro j
          rw [testBit_bitsOf _ (rising_nodup (rising_members _)), Bool.eq_iff_iff, decide_eq_true_iff, mem_members]
        rw [hbm]
        have : ((allG n e k s.moves).any fun one => decide (one &&& s.marked = s.marked)) = false := by
          rw [List.any_eq_false]
          intro one ho hd
          obtain ⟨i, hi⟩ := List.getElem?_of_mem ho
          have hlt := (List.getElem?_eq_some_iff.mp hi).1
          have : i ∈ goodP s n e k s.moves := List.mem_filter.mpr ⟨List.mem_range.mpr hlt, by rw [getD_of hi]; exact hd⟩
          rw [c] at this
          cases this
        rw [this]
        rfl
    obtain ⟨x, hx⟩ := Option.isSome_iff_exists.mp hsome
    rw [hx]
    exact ⟨R.st, counted_n _⟩
end
/-! ### every call -/
def codeOf : Km537.Call → Nat × List Nat
  | .begin_ n e k a => (0, [n, e, k, a])
  | .at_ a => (1, [a])
  | .names => (2, [])
  | .name i => (3, [i])
  | .views => (4, [])
  | .view v => (5, [v])
  | .who i => (6, [i])
  | .mark i => (7, [i])
  | .unmark i => (8, [i])
  | .markApart => (9, [])
  | .marks => (10, [])
  | .rules => (11, [])
  | .set v m => (12, [v, m])
  | .rule => (13, [])
  | .good => (14, [])
  | .goods => (15, [])
  | .found => (16, [])
  | .take => (17, [])
  | .many => (18, [])
  | .best => (19, [])
  | .needed v => (20, [v])
  | .why => (21, [])
  | .allAt => (22, [])
  | .nth i => (23, [i])
  | .told => (24, [])
theorem ag_begin {s : Dsk} {st : Km537.State} (h : RelS s st) (n e k a : Nat) : Agree s (dBegin n e k a) (Km537.step st (.begin_ n e k a)) := by
  have e0 : Km537.step st (.begin_ n e k a) = if n < 3 ∨ Km537.PLACES < n ∨ 2 < e ∨ k = 0 ∨ Km537.ROBOTS < k ∨ 2 < a then (st, Km537.say (-22)) else
    (some { (⟨n, e, k, a, [], []⟩ : Km537.Desk) with rule := List.replicate (Km537.views ⟨n, e, k, a, [], []⟩).length 0 }, Km537.say ((Km537.views ⟨n, e, k, a, [], []⟩).length : Nat)) := rfl
  rw [e0]
  unfold dBegin
  by_cases c : ¬ (3 ≤ n ∧ n ≤ 7) ∨ 2 < e ∨ ¬ (1 ≤ k ∧ k ≤ 3) ∨ 2 < a
  · rw [if_pos c, if_pos (by unfold Km537.PLACES Km537.ROBOTS; omega)]
    exact ⟨h, rfl⟩
  · rw [if_neg c, if_neg (by unfold Km537.PLACES Km537.ROBOTS; omega)]
    have g : Good n k := ⟨by omega, by omega, by omega, by omega⟩
    have he : e ≤ 2 := by omega
    have hv := vl_spec g he ⟨n, e, k, a, [], []⟩ rfl rfl rfl
    have hl : (allViews (allNames n k) e).length = (VL n e k).length := by rw [vl_mine g he, List.length_map]
    rw [hv, hl]
    refine ⟨⟨n, e, k, rfl, g, he, by show a ≤ 2; omega, Nat.two_pow_pos _, ?_, by show _ = (⟨n, e, k, a, members 0, _⟩ : Km537.Desk); rw [members_zero]⟩, rfl⟩
    refine (mem_allRules _ _).mpr ⟨List.length_replicate, fun i hi => ?_⟩
    have : (List.replicate (VL n e k).length 0).getD i 0 = 0 := by
      rw [List.getD_eq_getElem?_getD, List.getElem?_replicate]
      split <;> rfl
    show (List.replicate (VL n e k).length 0).getD i 0 < _
    rw [this]
    unfold Km537.choices
    split <;> decide
theorem agree {s : Dsk} {st : Km537.State} (h : RelS s st) (x : Km537.Call) : Agree s (dAnswered s (codeOf x).1 (codeOf x).2) (Km537.step st x) := by
  cases st with
  | none =>
    have h : s.case = none := h
    cases x with
    | begin_ n e k a => exact ag_begin (st := none) h n e k a
    | _ =>
      unfold dAnswered
      rw [h]
      exact ⟨h, rfl⟩
  | some d =>
    have h0 : RelS s (some d) := h
    obtain ⟨n, e, k, R⟩ := h
    cases x with
    | begin_ n e k a => exact ag_begin (st := some d) h0 n e k a
    | at_ a => unfold dAnswered; rw [R.eq]; exact ag_at R a
    | names =>
      unfold dAnswered; rw [R.eq]
      refine ⟨R.st, ?_⟩
      show _ = told1 (Km537.say ((Km537.names d).length : Nat))
      rw [R.names, R.nlen]
      rfl
    | name i => unfold dAnswered; rw [R.eq]; exact ag_name R i
    | views =>
      unfold dAnswered; rw [R.eq]
      refine ⟨R.st, ?_⟩
      show _ = told1 (Km537.say ((Km537.views d).length : Nat))
      rw [R.views, R.vlen]
      rfl
    | view v => unfold dAnswered; rw [R.eq]; exact ag_view R v
    | who i => unfold dAnswered; rw [R.eq]; exact ag_who R i
    | mark i => unfold dAnswered; rw [R.eq]; exact ag_mark R i
    | unmark i => unfold dAnswered; rw [R.eq]; exact ag_unmark R i
    | markApart => unfold dAnswered; rw [R.eq]; exact ag_apart R
    | marks =>
      unfold dAnswered; rw [R.eq]
      refine ⟨R.st, ?_⟩
      show _ = told1 (Km537.tellAll d.marks)
      rw [R.dm]
      exact counted_n _
    | rules =>
      unfold dAnswered; rw [R.eq]
      refine ⟨R.st, ?_⟩
      show _ = told1 (Km537.say (Km537.rulesThereAre d : Nat))
      rw [R.many]
      rfl
    | set v m => unfold dAnswered; rw [R.eq]; exact ag_tell R v m
    | rule =>
      unfold dAnswered; rw [R.eq]
      refine ⟨R.st, ?_⟩
      show _ = told1 (Km537.tellAll d.rule)
      rw [R.dr]
      exact counted_n _
    | good => unfold dAnswered; rw [R.eq]; exact ag_good R
    | goods => unfold dAnswered; rw [R.eq]; exact ag_goods R
    | found => unfold dAnswered; rw [R.eq]; exact ag_found R
    | take => unfold dAnswered; rw [R.eq]; exact ag_take R
    | many => unfold dAnswered; rw [R.eq]; exact ag_many R
    | best => unfold dAnswered; rw [R.eq]; exact ag_best R
    | needed v => unfold dAnswered; rw [R.eq]; exact ag_needed R v
    | why => unfold dAnswered; rw [R.eq]; exact ag_why R
    | allAt => unfold dAnswered; rw [R.eq]; exact ag_allAt R
    | nth i => unfold dAnswered; rw [R.eq]; exact ag_nth R i
    | told =>
      unfold dAnswered; rw [R.eq]
      refine ⟨R.st, ?_⟩
      show _ = told1 ⟨(d.n : Int), [(d.eyes : Int), (d.k : Int), (d.at_ : Int), (d.marks.length : Int)]⟩
      rw [R.is]
      rfl
/-- what a call answers -/
theorem agree_answer {s : Dsk} {st : Km537.State} (h : RelS s st) (x : Km537.Call) : RelS (dAnswer s (codeOf x).1 (codeOf x).2).1 (Km537.step st x).1 ∧ (dAnswer s (codeOf x).1 (codeOf x).2).2 = told1 (Km537.step st x).2 := by
  have z := agree h x
  unfold dAnswer
  cases q : dAnswered s (codeOf x).1 (codeOf x).2 with
  | ok y => rw [q] at z; exact z
  | error y => rw [q] at z; exact z
end Rf
/-! ## RfW35 -/
namespace Rf
open PySem PySem.Spec PyProof.Rows L2
theorem few_names0 : goodAll3 (fun n e k => decide (6000 < manyRules ((VL n e k).map castR)) || decide ((NL n k).length ≤ 5)) = true := by decide +kernel
theorem allG_small {n e k m : Nat} (g : Good n k) (he : e ≤ 2) (hm : m ≤ 2) (h : manyRules (allViews (allNames n k) e) ≤ 6000) : ∀ x ∈ allG n e k m, x < 32 := fun x hx => by
  have h5 := good_all3 few_names0 g he
  rw [vl_mine g he] at h
  rw [Bool.or_eq_true, decide_eq_true_iff, decide_eq_true_iff] at h5
  have h5 : (NL n k).length ≤ 5 := by omega
  unfold allG at hx
  rw [rules_same g he] at hx
  obtain ⟨r, hr, rfl⟩ := List.mem_map.mp hx
  have z := gathers_is g he hm hr (dOf n e k m) rfl rfl rfl
  have b : gathers (kase n e k) r m < 2 ^ (NL n k).length := bits_bound fun j hj => by
    rw [z] at hj
    unfold Km537.suresBy at hj
    have := List.mem_range.mp (List.mem_filter.mp hj).1
    unfold Km537.table at this
    rw [List.length_map] at this
    have e1 : Km537.names (dOf n e k m) = NL n k := nl_spec g
    rw [e1] at this
    exact this
  exact Nat.lt_of_lt_of_le b (Nat.pow_le_pow_right (n := 2) (by decide) h5)
theorem members_few {b L : Nat} (h : b < 2 ^ L) : (members b).length ≤ L := by
  have hsub : members b = (List.range L).filter fun j => b.testBit j :=
    risingN_same (rising_members _) (rising_filter _ (rising_range _)) fun x => by
      rw [mem_members, List.mem_filter, List.mem_range]
      exact ⟨fun h1 => ⟨members_lt h ((mem_members _ _).mpr h1), h1⟩, fun h1 => h1.2⟩
  rw [hsub]
  refine Nat.le_trans (List.length_filter_le _ _) ?_
  rw [List.length_range]
  exact Nat.le_refl _
theorem fewest_len (gs ms : List Nat) : (fewest gs ms).length ≤ ms.length := by
  unfold fewest
  cases q : ((List.range (ms.length + 1)).flatMap fun m => setsUp ms m).find? fun s => !(gs.any fun one => decide (one &&& bitsOf s = bitsOf s)) with
  | none => exact Nat.le_refl _
  | some x =>
    obtain ⟨m, hm, hx⟩ := List.mem_flatMap.mp (List.mem_of_find?_eq_some q)
    have h1 := (setsUp_row ms m x hx).1
    have h2 := List.mem_range.mp hm
    show x.length ≤ ms.length
    omega
section
variable {P : Program} {w : World} {K : PySem.W.Frag} {mg : Str → Option Value} {base : Heap} {CD CC R : Addr}
abbrev sWhy : Stmt := inClass (top 42) 21
theorem sc_why : FnScope ["self"] ["self"] (defScope sWhy) := ⟨rfl, rfl, rfl, by decide +kernel, rfl, by decide +kernel, by decide +kernel⟩
theorem ok_why (Cc : Csts mg) (T : DeskTxt K mg CD) (D : MDef K CD "why" "Desk.why" sWhy ["self"]) (Mg : Met P w K mg base (L2.CX P w) 9 CD "good_places" ["self", "moves"] (spGoodP P w K CD CC R)) (Cr : Cal P w K mg base (L2.CX P w) 3 "refuse" ["bad", "number"] (spRefuse R))
    (Mw : Met P w K mg base (L2.CX P w) 8 CD "what_rules_do" ["self", "moves"] (spWhat P w K CD CC R)) (Cm : Cal P w K mg base CX0 1 "members" ["bits"] (spMembers K)) (Cf : Cal P w K mg base CX0 2 "fewest_not_gathered" ["gathered", "marked"] (spFew K)) (Co : Cal P w K mg base CX0 1 "counted" ["row"] (spCounted K)) :
    Met P w K mg base (L2.CX P w) 10 CD "why" ["self"] (spOut P w K CD CC R dWhy) := by
  refine D.met fun f fd F => F.okX sc_why (fun vs H Q E h => ?_) (fun cdv A outer s H vs Q E hr h => ?_)
  · obtain ⟨a, s, n, e, k, dx, ca, nw, d, rfl, _⟩ := h
    rfl
  · refine ⟨_, pss_cons (ps_expr (pe_cS (E := WE (fun cls d _ H => E cls d H)) Cr hr (fun σ => passAt (takes_of rfl rfl rfl rfl) σ) (pa_cons (pe_cmpR (op_neD hr.units) (pe_mS (E := WE (fun cls d _ H => E cls d H)) T.cl Mg hr (fun σ => passAt (takes_of rfl rfl rfl rfl) σ) (pv 0) (pa_cons (pe_fld (pv 0) rfl) pa_nil)) (pe_lst pa_nil) (nomark _)) (pa_cons (pe_gi Cc.unm) pa_nil))))
      (pss_one (ps_ret (pe_c Co hr (pa_cons (pe_c Cf hr (pa_cons (pe_mS (E := WE (fun cls d _ H => E cls d H)) T.cl Mw hr (fun σ => passAt (takes_of rfl rfl rfl rfl) σ) (pv 0) (pa_cons (pe_fld (pv 0) rfl) pa_nil)) (pa_cons (pe_c Cm hr (pa_cons (pe_fld (pv 0) rfl) pa_nil)) pa_nil))) pa_nil)))), ?_⟩
    obtain ⟨a, s, n, e, k, dx, ca, nw, d, rfl, h, z⟩ := h
    unfold dWhy at z
    have g := h.cs.st.good
    have he := h.cs.st.e2
    have h8 := (names_few g).2
    have hsm := small_bits h8 h.mb
    have hm8 := members_few h.mb
    refine ⟨_, rfl, a, dx, _, rfl, h.obj, dF_none (by decide +kernel), _, rfl, a, CD, dx, _, _, rfl, h.obj, T.cl, T.nM, dF_M, a, s, n, e, k, s.moves, dx, ca, nw, d, rfl, h, h.mv, fun hm => ?_, fun hle H1 q d1 s1 h1 nk fq hq => ?_⟩
    · rw [if_pos hm] at z
      exact fun H' dd s' hd => z H' dd dx ca nw d (.of s'.kp) (h.same s') hd
    · rw [if_neg (by omega)] at z
      refine ⟨(by show 0 ≤ sizeLine; decide), fun p hp => ?_⟩
      have sp := Same.new (o := .lst []) hp
      have h2 := h1.same sp
      refine ne_lists (r := nI (goodP s n e k s.moves)) (s := []) (.of (sp _ _ hq)) (.of upd_same) ?_
      refine ⟨_, _, rfl, fun hb => ?_, fun hb => ?_⟩
      · have hb : goodP s n e k s.moves ≠ [] := fun e => by rw [decide_eq_true (nI_nil.mpr e)] at hb; cases hb
        rw [if_pos hb] at z
        exact fun H' dd s' hd => z H' dd dx ca nw d1 (.of (s1.trans (sp.trans s').kp)) (h1.same (sp.trans s')) hd
      · have hb : goodP s n e k s.moves = [] := nI_nil.mp (of_decide_eq_true (by simpa using hb))
        rw [if_neg (fun c => c hb)] at z
        refine ⟨_, rfl, a, dx, _, rfl, h2.obj, dF_none (by decide +kernel), _, rfl, a, CD, dx, _, _, rfl, h2.obj, T.cl, T.nM, dF_M, a, s, n, e, k, s.moves, dx, ca, nw, d1, rfl, h2, h2.mv, fun hm => by omega, fun _ H3 q3 d3 s3 h3 nk3 hq3 => ?_⟩
        refine ⟨_, rfl, a, CD, dx, _, _, rfl, h3.obj, T.cl, T.nB, dF_B, s.marked, rfl, hsm, fun H4 q4 s4 f4 hq4 => ?_⟩
        refine ⟨q3, q4, allG n e k s.moves, members s.marked, rfl, .of (s4 _ _ hq3), .of hq4, allG_small g he h.mv hle, by omega, fun x hx => ?_, fun H5 q5 s5 hq5 => ?_⟩
        · have := members_lt h.mb hx
          omega
        · have hfl := fewest_len (allG n e k s.moves) (members s.marked)
          refine ⟨q5, nI (fewest (allG n e k s.moves) (members s.marked)), rfl, .inl hq5, ?_, fun H6 q6 s6 f6 hq6 => ?_⟩
          · unfold nI
            rw [List.length_map]
            omega
          · have s46 := (s4.trans s5).trans s6
            exact z H6 q6 dx ca nw d3 (.of (((s1.trans sp.kp).trans s3).trans s46.kp)) (h3.same s46) (s1.free q6 (sp.free (s3.free q6 ((s4.trans s5).free f6)))) hq6
end
end Rf
/-! ## RfW36 -/
namespace Rf
open PySem PySem.Spec PyProof.Rows L2
theorem if_int {z : Int} {c : Nat} {A B : Prop} (h1 : (c : Int) = z → A) (h2 : (c : Int) ≠ z → B) : if decide (V.int (c : Nat) = V.int z) = true then A else B := by
  rw [dec_eq]
  by_cases h : (c : Int) = z
  · rw [decide_eq_true h]
    exact iteT (h1 h)
  · rw [decide_eq_false h]
    exact iteF (h2 h)
section
variable {P : Program} {w : World} {K : PySem.W.Frag} {mg : Str → Option Value} {base : Heap} {CD CC R : Addr}
def spOne (P : Program) (w : World) (K : PySem.W.Frag) (CD CC R : Addr) : Sp := fun vs H Q E => ∃ (a : Addr) (s : Dsk) (n e k c i : Nat) (dx ca nw : Addr) (d : CaseD), vs = [.ref a, .int c, .int i] ∧ DeskR P w K CD CC H a s n e k dx ca nw d ∧ DEnds P w K CD CC R H a s n e k (dOne s n e k c i) Q E
abbrev sOne : Stmt := inClass (top 42) 23
abbrev nOne : List Str := ["self", "call", "number"]
theorem sc_one : FnScope nOne nOne (defScope sOne) := ⟨rfl, rfl, rfl, by decide +kernel, rfl, by decide +kernel, by decide +kernel⟩
theorem ok_one (T : DeskTxt K mg CD) (D : MDef K CD "of_one" "Desk.of_one" sOne nOne) (M1 : Met P w K mg base (L2.CX P w) 4 CD "set_moves" ["self", "moves"] (spSetM P w K CD CC R)) (M3 : Met P w K mg base (L2.CX P w) 5 CD "name" ["self", "i"] (spNm P w K CD CC R)) (M5 : Met P w K mg base (L2.CX P w) 5 CD "view" ["self", "v"] (spVw P w K CD CC R))
    (M6 : Met P w K mg base (L2.CX P w) 5 CD "who" ["self", "i"] (spWho P w K CD CC R)) (M7 : Met P w K mg base (L2.CX P w) 5 CD "mark" ["self", "i"] (spMark P w K CD CC R dMark)) (M8 : Met P w K mg base (L2.CX P w) 5 CD "unmark" ["self", "i"] (spMark P w K CD CC R dUnmark)) (M20 : Met P w K mg base (L2.CX P w) 10 CD "needed" ["self", "v"] (spOutI P w K CD CC R dNeeded))
    (Mn : Met P w K mg base (L2.CX P w) 10 CD "nth_good" ["self", "i"] (spNth P w K CD CC R)) (Co : Cal P w K mg base CX0 1 "counted" ["row"] (spCounted K)) : Met P w K mg base (L2.CX P w) 11 CD "of_one" nOne (spOne P w K CD CC R) := by
  refine D.met fun f fd F => F.okX sc_one (fun vs H Q E h => ?_) (fun cdv A outer s H vs Q E hr h => ?_)
  · obtain ⟨a, s, n, e, k, c, i, dx, ca, nw, d, rfl, _⟩ := h
    rfl
  · refine ⟨_, pss_cons (ps_if (pt_cmpR op_eq (pv 1) pe_int (nomark _)) (pss_one (ps_ret (pe_mS (E := WE (fun cls d _ H => E cls d H)) T.cl M1 hr (fun σ => passAt (takes_of rfl rfl rfl rfl) σ) (pv 0) (pa_cons (pv 2) pa_nil)))) pss_nil)
      (pss_cons (ps_if (pt_cmpR op_eq (pv 1) pe_int (nomark _)) (pss_one (ps_ret (pe_mS (E := WE (fun cls d _ H => E cls d H)) T.cl M3 hr (fun σ => passAt (takes_of rfl rfl rfl rfl) σ) (pv 0) (pa_cons (pv 2) pa_nil)))) pss_nil)
      (pss_cons (ps_if (pt_cmpR op_eq (pv 1) pe_int (nomark _)) (pss_one (ps_ret (pe_mS (E := WE (fun cls d _ H => E cls d H)) T.cl M5 hr (fun σ => passAt (takes_of rfl rfl rfl rfl) σ) (pv 0) (pa_cons (pv 2) pa_nil)))) pss_nil)
      (pss_cons (ps_if (pt_cmpR op_eq (pv 1) pe_int (nomark _)) (pss_one (ps_ret (pe_mS (E := WE (fun cls d _ H => E cls d H)) T.cl M6 hr (fun σ => passAt (takes_of rfl rfl rfl rfl) σ) (pv 0) (pa_cons (pv 2) pa_nil)))) pss_nil)
      (pss_cons (ps_if (pt_cmpR op_eq (pv 1) pe_int (nomark _)) (pss_one (ps_ret (pe_mS (E := WE (fun cls d _ H => E cls d H)) T.cl M7 hr (fun σ => passAt (takes_of rfl rfl rfl rfl) σ) (pv 0) (pa_cons (pv 2) pa_nil)))) pss_nil)
      (pss_cons (ps_if (pt_cmpR op_eq (pv 1) pe_int (nomark _)) (pss_one (ps_ret (pe_mS (E := WE (fun cls d _ H => E cls d H)) T.cl M8 hr (fun σ => passAt (takes_of rfl rfl rfl rfl) σ) (pv 0) (pa_cons (pv 2) pa_nil)))) pss_nil)
      (pss_cons (ps_if (pt_cmpR op_eq (pv 1) pe_int (nomark _)) (pss_one (ps_ret (pe_mS (E := WE (fun cls d _ H => E cls d H)) T.cl M20 hr (fun σ => passAt (takes_of rfl rfl rfl rfl) σ) (pv 0) (pa_cons (pv 2) pa_nil)))) pss_nil)
      (pss_one (ps_ret (pe_c Co hr (pa_cons (pe_mS (E := WE (fun cls d _ H => E cls d H)) T.cl Mn hr (fun σ => passAt (takes_of rfl rfl rfl rfl) σ) (pv 0) (pa_cons (pv 2) pa_nil)) pa_nil)))))))))), ?_⟩
    obtain ⟨a, s, n, e, k, c, i, dx, ca, nw, d, rfl, h, z⟩ := h
    unfold dOne at z
    have go : ∀ {m : Str}, notIn m dKeys = true → (dF (.ref ca) s.moves s.marked nw).lookup m = none := fun h => dF_none h
    refine ⟨_, rfl, rfl, _, rfl, if_int (fun c1 => ?_) fun c1 => ?_⟩
    · rw [if_pos (show c = 1 by omega)] at z
      exact ⟨_, rfl, a, dx, _, rfl, h.obj, dF_none (by decide +kernel), _, rfl, a, s, n, e, k, i, dx, ca, nw, d, rfl, h, z⟩
    rw [if_neg (show ¬ c = 1 by omega)] at z
    refine ⟨_, rfl, rfl, _, rfl, if_int (fun c1 => ?_) fun c1 => ?_⟩
    · rw [if_pos (show c = 3 by omega)] at z
      exact ⟨_, rfl, a, dx, _, rfl, h.obj, dF_none (by decide +kernel), _, rfl, a, s, n, e, k, i, dx, ca, nw, d, rfl, h, z⟩
    rw [if_neg (show ¬ c = 3 by omega)] at z
    refine ⟨_, rfl, rfl, _, rfl, if_int (fun c1 => ?_) fun c1 => ?_⟩
    · rw [if_pos (show c = 5 by omega)] at z
      exact ⟨_, rfl, a, dx, _, rfl, h.obj, dF_none (by decide +kernel), _, rfl, a, s, n, e, k, i, dx, ca, nw, d, rfl, h, z⟩
    rw [if_neg (show ¬ c = 5 by omega)] at z
    refine ⟨_, rfl, rfl, _, rfl, if_int (fun c1 => ?_) fun c1 => ?_⟩
    · rw [if_pos (show c = 6 by omega)] at z
      exact ⟨_, rfl, a, dx, _, rfl, h.obj, dF_none (by decide +kernel), _, rfl, a, s, n, e, k, i, dx, ca, nw, d, rfl, h, z⟩
    rw [if_neg (show ¬ c = 6 by omega)] at z
    refine ⟨_, rfl, rfl, _, rfl, if_int (fun c1 => ?_) fun c1 => ?_⟩
    · rw [if_pos (show c = 7 by omega)] at z
      exact ⟨_, rfl, a, dx, _, rfl, h.obj, dF_none (by decide +kernel), _, rfl, a, s, n, e, k, i, dx, ca, nw, d, rfl, h, z⟩
    rw [if_neg (show ¬ c = 7 by omega)] at z
    refine ⟨_, rfl, rfl, _, rfl, if_int (fun c1 => ?_) fun c1 => ?_⟩
    · rw [if_pos (show c = 8 by omega)] at z
      exact ⟨_, rfl, a, dx, _, rfl, h.obj, dF_none (by decide +kernel), _, rfl, a, s, n, e, k, i, dx, ca, nw, d, rfl, h, z⟩
    rw [if_neg (show ¬ c = 8 by omega)] at z
    refine ⟨_, rfl, rfl, _, rfl, if_int (fun c1 => ?_) fun c1 => ?_⟩
    · rw [if_pos (show c = 20 by omega)] at z
      exact ⟨_, rfl, a, dx, _, rfl, h.obj, dF_none (by decide +kernel), _, rfl, a, s, n, e, k, i, dx, ca, nw, d, rfl, h, z⟩
    rw [if_neg (show ¬ c = 20 by omega)] at z
    unfold dNth at z
    refine ⟨_, rfl, a, dx, _, rfl, h.obj, dF_none (by decide +kernel), _, rfl, a, s, n, e, k, i, dx, ca, nw, d, rfl, h, fun hm => ?_, fun hm hg => ?_, fun hm hg H1 q d1 s1 h1 hq => ?_⟩
    · rw [if_pos hm] at z
      exact fun H' dd s' hd => z H' dd dx ca nw d (.of s'.kp) (h.same s') hd
    · rw [if_neg (by omega), if_pos (by omega)] at z
      exact fun H' dd d' s' h' hd => z H' dd dx ca nw d' (.of s') h' hd
    · rw [if_neg (by omega), if_neg (by omega)] at z
      have hlr : ((rules (allViews (allNames n k) e)).getD ((goodP s n e k s.moves).getD i 0) []).length ≤ 16 := by
        have hgi : (goodP s n e k s.moves)[i]? = some ((goodP s n e k s.moves).getD i 0) := by
          rw [List.getD_eq_getElem?_getD, List.getElem?_eq_getElem hg]
          rfl
        have hlt := goodP_lt (List.mem_of_getElem? hgi)
        generalize (goodP s n e k s.moves).getD i 0 = g at hlt
        have hrow : (rules (allViews (allNames n k) e))[g]? = some ((rules (allViews (allNames n k) e)).getD g []) := by
          rw [List.getD_eq_getElem?_getD, List.getElem?_eq_getElem hlt]
          rfl
        have hr1 := (rules_row _ _ rfl _ (List.mem_of_getElem? hrow)).1
        have := (views_few h.cs.st.good h.cs.st.e2).2
        omega
      generalize (rules (allViews (allNames n k) e)).getD ((goodP s n e k s.moves).getD i 0) [] = row at hq z hlr
      refine ⟨q, nI row, rfl, .inr hq, ?_, fun H2 p s2 fp hp => ?_⟩
      · unfold nI
        rw [List.length_map]
        omega
      · exact z H2 p dx ca nw d1 (.of (s1.trans s2.kp)) (h1.same s2) (s1.free p fp) hp
end
end Rf
/-! ## RfW37 -/
namespace Rf
open PySem PySem.Spec PyProof.Rows L2
theorem turnsG_lt {steps : List (Bool × Nat)} {L : Nat} (hL : steps.length = L) : ∀ (t f : Nat), f < 2 ^ L → turnsG steps t f < 2 ^ L
  | 0, f, h => h
  | t + 1, f, h => by
    refine turnsG_lt hL t _ (Nat.or_lt_two_pow h ?_)
    have z := bits_lt (fun i => !(steps.getD i (false, 0)).1 && decide ((steps.getD i (false, 0)).2 ||| f = f)) steps.length
    rw [hL] at z
    rw [hL]
    exact z
theorem gathers_lt (n e k : Nat) (rule : List Nat) (m : Nat) : gathers (kase n e k) rule m < 2 ^ (allNames n k).length := by
  have hl : (stepsOf (kase n e k) rule m).length = (allNames n k).length := stepsOf_len
  refine turnsG_lt hl _ _ ?_
  unfold restOf
  have z := bits_lt (fun i => ((stepsOf (kase n e k) rule m).getD i (false, 0)).1 && decide (((kase n e k).had.getD i []).length = 1)) (stepsOf (kase n e k) rule m).length
  rw [hl] at z
  rw [hl]
  exact z
section
variable {P : Program} {w : World} {K : PySem.W.Frag} {mg : Str → Option Value} {base : Heap} {CD CC R : Addr}
def spDNames (P : Program) (w : World) (K : PySem.W.Frag) (CD CC R : Addr) : Sp := fun vs H Q E => ∃ (a : Addr) (s : Dsk) (n e k c : Nat) (dx ca nw : Addr) (d : CaseD), vs = [.ref a, .int c] ∧ DeskR P w K CD CC H a s n e k dx ca nw d ∧ DEnds P w K CD CC R H a s n e k (dNames s n e k c) Q E
abbrev sNames : Stmt := inClass (top 42) 24
theorem sc_dnames : FnScope ["self", "call"] ["self", "call"] (defScope sNames) := ⟨rfl, rfl, rfl, by decide +kernel, rfl, by decide +kernel, by decide +kernel⟩
theorem ok_dnames (B : Bts mg) (T : DeskTxt K mg CD) (TC : CaseTxt K mg CC) (D : MDef K CD "of_names" "Desk.of_names" sNames ["self", "call"]) (Ma : Met P w K mg base CX0 3 CD "mark_apart" ["self"] (spApart P w K CD CC)) (Cm : Cal P w K mg base CX0 1 "members" ["bits"] (spMembers K)) (Co : Cal P w K mg base CX0 1 "counted" ["row"] (spCounted K))
    (Mm : Met P w K mg base CX0 3 CC "many_rules" ["self"] (spMany K CC)) (Mgd : Met P w K mg base CX0 7 CD "good" ["self"] (spGood P w K CD CC)) (Mg : Met P w K mg base CX0 6 CC "gathers" pGath (spGath P w K CC)) : Met P w K mg base CX0 8 CD "of_names" ["self", "call"] (spDNames P w K CD CC R) := by
  refine D.met fun f fd F => F.ok sc_dnames (fun vs H Q E h => ?_) (fun cdv A outer s H vs Q E hr h => ?_)
  · obtain ⟨a, s, n, e, k, c, dx, ca, nw, d, rfl, _⟩ := h
    rfl
  · refine ⟨_, pss_cons (ps_if (pt_cmpR op_eq (pv 1) pe_int (nomark _)) (pss_one (ps_ret (pe_lst (pa_cons (pe_callB call_len_seq rfl B.len bt_len (pa_cons (pe_fld (pe_fld (pv 0) rfl) rfl) pa_nil)) pa_nil)))) pss_nil)
      (pss_cons (ps_if (pt_cmpR op_eq (pv 1) pe_int (nomark _)) (pss_one (ps_ret (pe_lst (pa_cons (pe_callB call_len_seq rfl B.len bt_len (pa_cons (pe_fld (pe_fld (pv 0) rfl) rfl) pa_nil)) pa_nil)))) pss_nil)
      (pss_cons (ps_if (pt_cmpR op_eq (pv 1) pe_int (nomark _)) (pss_one (ps_ret (pe_m0 T.cl Ma hr (pv 0)))) pss_nil)
      (pss_cons (ps_if (pt_cmpR op_eq (pv 1) pe_int (nomark _)) (pss_one (ps_ret (pe_c Co hr (pa_cons (pe_c Cm hr (pa_cons (pe_fld (pv 0) rfl) pa_nil)) pa_nil)))) pss_nil)
      (pss_cons (ps_if (pt_cmpR op_eq (pv 1) pe_int (nomark _)) (pss_one (ps_ret (pe_lst (pa_cons (pe_m0 TC.cl Mm hr (pe_fld (pv 0) rfl)) pa_nil)))) pss_nil)
      (pss_cons (ps_if (pt_cmpR op_eq (pv 1) pe_int (nomark _)) (pss_one (ps_ret (pe_c Co hr (pa_cons (pe_fld (pv 0) rfl) pa_nil)))) pss_nil)
      (pss_cons (ps_if (pt_cmpR op_eq (pv 1) pe_int (nomark _)) (pss_one (ps_ret (pe_m0 T.cl Mgd hr (pv 0)))) pss_nil)
      (pss_one (ps_ret (pe_c Co hr (pa_cons (pe_c Cm hr (pa_cons (pe_m TC.cl Mg hr (pe_fld (pv 0) rfl) (pa_cons (pe_fld (pv 0) rfl) (pa_cons (pe_fld (pv 0) rfl) pa_nil))) pa_nil)) pa_nil)))))))))), ?_⟩
    obtain ⟨a, s, n, e, k, c, dx, ca, nw, d, rfl, h, z⟩ := h
    have h8 := (names_few h.cs.st.good).2
    have hsm := small_bits h8 h.mb
    have hm8 := members_few h.mb
    unfold dNames at z
    refine ⟨_, rfl, rfl, _, rfl, if_int (fun c1 => ?_) fun c1 => ?_⟩
    · rw [if_pos (show c = 2 by omega)] at z
      obtain ⟨nps, hnl, hnt⟩ := h.cs.st.nm
      have hl : (List.map V.ref nps).length = (allNames n k).length := by rw [List.length_map, hnt.length]
      refine ⟨_, rfl, a, CD, dx, _, _, rfl, h.obj, T.cl, T.nC, dF_C, ca, CC, d.dx, _, _, rfl, h.cs.st.obj, TC.cl, TC.nN, cF_N, _, _, rfl, .inl (.of hnl), (by show 1 ≤ sizeLine; decide), fun p hp => ?_⟩
      exact z _ p dx ca nw d (.of (Same.new hp).kp) (h.same (Same.new hp)) hp (by rw [upd_same, hl]; rfl)
    rw [if_neg (show ¬ c = 2 by omega)] at z
    refine ⟨_, rfl, rfl, _, rfl, if_int (fun c1 => ?_) fun c1 => ?_⟩
    · rw [if_pos (show c = 4 by omega)] at z
      obtain ⟨nps, hnl, hnt⟩ := h.cs.st.vw
      have hl : (List.map V.ref nps).length = (allViews (allNames n k) e).length := by rw [List.length_map, hnt.length]
      refine ⟨_, rfl, a, CD, dx, _, _, rfl, h.obj, T.cl, T.nC, dF_C, ca, CC, d.dx, _, _, rfl, h.cs.st.obj, TC.cl, TC.nV, cF_V, _, _, rfl, .inl (.of hnl), (by show 1 ≤ sizeLine; decide), fun p hp => ?_⟩
      exact z _ p dx ca nw d (.of (Same.new hp).kp) (h.same (Same.new hp)) hp (by rw [upd_same, hl]; rfl)
    rw [if_neg (show ¬ c = 4 by omega)] at z
    refine ⟨_, rfl, rfl, _, rfl, if_int (fun c1 => ?_) fun c1 => ?_⟩
    · rw [if_pos (show c = 9 by omega)] at z
      exact ⟨_, rfl, a, dx, _, rfl, h.obj, dF_none (by decide +kernel), a, s, n, e, k, dx, ca, nw, d, rfl, h, fun H' q dx ca nw d kb h2 fq hq => z H' q dx ca nw d kb h2 fq hq⟩
    rw [if_neg (show ¬ c = 9 by omega)] at z
    refine ⟨_, rfl, rfl, _, rfl, if_int (fun c1 => ?_) fun c1 => ?_⟩
    · rw [if_pos (show c = 10 by omega)] at z
      refine ⟨_, rfl, a, CD, dx, _, _, rfl, h.obj, T.cl, T.nB, dF_B, s.marked, rfl, hsm, fun H1 q s1 fq hq => ⟨q, nI (members s.marked), rfl, .inl (.of hq), ?_, fun H2 p s2 fp hp => ?_⟩⟩
      · unfold nI
        rw [List.length_map]
        omega
      · exact z H2 p dx ca nw d (.of (s1.trans s2).kp) (h.same (s1.trans s2)) (s1.free fp) hp
    rw [if_neg (show ¬ c = 10 by omega)] at z
    refine ⟨_, rfl, rfl, _, rfl, if_int (fun c1 => ?_) fun c1 => ?_⟩
    · rw [if_pos (show c = 11 by omega)] at z
      refine ⟨_, rfl, a, CD, dx, _, _, rfl, h.obj, T.cl, T.nC, dF_C, ca, d.dx, _, rfl, h.cs.st.obj, cF_none (by decide +kernel), ca, n, e, k, d, rfl, h.cs.st, fun H1 s1 => ⟨(by show 1 ≤ sizeLine; decide), fun p hp => ?_⟩⟩
      have s2 := s1.trans (Same.new (o := .lst [V.int (manyRules (allViews (allNames n k) e) : Nat)]) hp)
      exact z _ p dx ca nw d (.of s2.kp) (h.same s2) (s1.free hp) upd_same
    rw [if_neg (show ¬ c = 11 by omega)] at z
    refine ⟨_, rfl, rfl, _, rfl, if_int (fun c1 => ?_) fun c1 => ?_⟩
    · rw [if_pos (show c = 13 by omega)] at z
      have hl16 := (views_few h.cs.st.good h.cs.st.e2).2
      have hlen := h.rule.len
      refine ⟨_, rfl, a, CD, dx, _, _, rfl, h.obj, T.cl, T.nN, dF_N, nw, nI s.now, rfl, .inr h.nw, ?_, fun H2 p s2 fp hp => ?_⟩
      · unfold nI
        rw [List.length_map]
        omega
      · exact z H2 p dx ca nw d (.of s2.kp) (h.same s2) fp hp
    rw [if_neg (show ¬ c = 13 by omega)] at z
    refine ⟨_, rfl, rfl, _, rfl, if_int (fun c1 => ?_) fun c1 => ?_⟩
    · rw [if_pos (show c = 14 by omega)] at z
      exact ⟨_, rfl, a, dx, _, rfl, h.obj, dF_none (by decide +kernel), a, s, n, e, k, dx, ca, nw, d, rfl, h, fun H' q d' kb h2 fq hq => z H' q dx ca nw d' (.of kb) h2 fq hq⟩
    rw [if_neg (show ¬ c = 14 by omega)] at z
    have hg := gathers_lt n e k s.now s.moves
    have hg50 := small_bits h8 hg
    have hg8 := members_few hg
    refine ⟨_, rfl, a, CD, dx, _, _, rfl, h.obj, T.cl, T.nC, dF_C, ca, d.dx, _, rfl, h.cs.st.obj, cF_none (by decide +kernel), _, rfl, a, CD, dx, _, _, rfl, h.obj, T.cl, T.nN, dF_N, _, rfl, a, CD, dx, _, _, rfl, h.obj, T.cl, T.nM, dF_M,
      ca, nw, n, e, k, s.moves, s.now, d, rfl, h.cs, h.nw, h.rule, h.mv, fun H1 xs1 s1 c1 => ?_⟩
    have h1 := h.kp s1 c1
    refine ⟨_, rfl, hg50, fun H2 q s2 fq hq => ⟨q, nI (members (gathers (kase n e k) s.now s.moves)), rfl, .inl (.of hq), ?_, fun H3 p s3 fp hp => ?_⟩⟩
    · unfold nI
      rw [List.length_map]
      omega
    · exact z H3 p dx ca nw _ (.of (s1.trans (s2.trans s3).kp)) (h1.same (s2.trans s3)) (s1.free p (s2.free fp)) hp
end
end Rf
/-! ## RfW38 -/
namespace Rf
open PySem PySem.Spec PyProof.Rows L2
section
variable {P : Program} {w : World} {K : PySem.W.Frag} {C CD CC : Addr} {H1 H : Hp} {a D ca dx nw : Addr} {n e k : Nat} {s : Dsk}
theorem CaseR.put2 {d : CaseD} {xs : List (K3 × Addr × Int)} {kvs : List (Key × V)} {l l' : List V} (c1 : CaseR P w K C H1 a n e k d) (hD : H1 D = none) (s : Kp H1 H) (hl : H D = some (.lst l)) (c : CaseR P w K C H a n e k { d with xs := xs, kvs := kvs })
    (hk : ∀ (m : Int) q, valV kvs (Sum.inl m) = some (.ref q) → q ≠ D) : CaseR P w K C (upd H D (.lst l')) a n e k { d with xs := xs, kvs := kvs } := by
  have off : ∀ {b : Addr} {o : HO}, H1 b = some o → b ≠ D := fun {b o} h z => by
    rw [z, hD] at h
    cases h
  have put : ∀ {b : Addr} {o o' : HO}, H b = some o → H1 b = some o' → upd H D (.lst l') b = some o := fun {b o o'} h h' => by
    rw [upd_ne (off h')]
    exact h
  have lst : ∀ {q : Addr} {rows : List (List Int)}, LsT K H q rows → LsT K H1 q rows → LsT K (upd H D (.lst l')) q rows := fun {q rows} h h' => lsT_put (off h'.choose_spec.1) hl h
  have tup : ∀ {b : Addr} {ys : List V}, H b = some (.tup ys) → upd H D (.lst l') b = some (.tup ys) := fun {b ys} h => by
    rw [upd_ne (fun z => by rw [z, hl] at h; cases h)]
    exact h
  have q := c.st
  have q1 := c1.st
  have lnsP : ∀ {fs : List Addr} {rows : List (List Nat)}, Lns H fs rows → Lns H1 fs rows → Lns (upd H D (.lst l')) fs rows := fun {fs rows} h h' => by
    refine lns_put (fun f hf => ?_) h
    obtain ⟨i, hi⟩ := List.getElem?_of_mem hf
    obtain ⟨r, _, hr⟩ := Paired.at h' i f hi
    exact off hr
  have lisP : ∀ {fs : List Addr} {rows : List (List Int)}, Lis H fs rows → Lis H1 fs rows → Lis (upd H D (.lst l')) fs rows := by
    intro fs rows h h'
    induction h with
    | nil => exact .nil
    | cons x t ih =>
      cases h' with
      | cons x' t' => exact .cons (put x x') (ih t')
  refine ⟨⟨put q.obj q1.obj, lst q.nm q1.nm, lst q.vw q1.vw, put q.hd q1.hd, lnsP q.hdl q1.hdl, put q.sd q1.sd, lisP q.sdl q1.sdl, q.good, q.e2⟩, put c.kn c1.kn, fun x hx => ?_, c.kok, put c.ga c1.ga, fun m v h => ?_, c.gks, c.gnd⟩
  · obtain ⟨b, h1, h2⟩ := c.kin x hx
    exact ⟨b, tup h1, tup h2⟩
  · obtain ⟨mm, q', h1, h2, h3, h4⟩ := c.gok m v h
    exact ⟨mm, q', h1, h2, h3, by rw [upd_ne (hk _ q' (by rw [← h3]; exact h))]; exact h4⟩
theorem refs_inj {l m : List Addr} (h : l.map V.ref = m.map V.ref) : l = m := (List.map_inj_right (fun a b e => by injection e)).mp h
theorem CaseR.shape {d d' : CaseD} (c1 : CaseR P w K C H1 a n e k d) (s : Kp H1 H) (c : CaseR P w K C H a n e k d') : d' = { d with xs := d'.xs, kvs := d'.kvs } := by
  have e0 := s.keep _ _ c1.st.obj rfl
  rw [c.st.obj] at e0
  injection e0 with e0
  injection e0 with _ edx ef
  have eN := congrArg (List.lookup ("names" : Str)) ef
  rw [cF_N, cF_N] at eN
  have eV := congrArg (List.lookup ("views" : Str)) ef
  rw [cF_V, cF_V] at eV
  have eH := congrArg (List.lookup ("had" : Str)) ef
  rw [cF_H, cF_H] at eH
  have eS := congrArg (List.lookup ("sides" : Str)) ef
  rw [cF_S, cF_S] at eS
  have eK := congrArg (List.lookup ("known" : Str)) ef
  rw [cF_K, cF_K] at eK
  have eG := congrArg (List.lookup ("gathered" : Str)) ef
  rw [cF_G, cF_G] at eG
  injection eN with eN
  injection eN with eN
  injection eV with eV
  injection eV with eV
  injection eH with eH
  injection eH with eH
  injection eS with eS
  injection eS with eS
  injection eK with eK
  injection eK with eK
  injection eG with eG
  injection eG with eG
  have h1 := s.keep _ _ c1.st.hd rfl
  have h2 := s.keep _ _ c1.st.sd rfl
  rw [← eH, c.st.hd] at h1
  rw [← eS, c.st.sd] at h2
  injection h1 with h1
  injection h1 with h1
  injection h2 with h2
  injection h2 with h2
  have g1 := refs_inj h1
  have g2 := refs_inj h2
  clear h1 h2 ef
  cases d
  cases d'
  simp only at edx eN eV eH eS eK eG g1 g2
  subst edx eN eV eH eS eK eG g1 g2
  rfl
theorem DeskR.putL {d : CaseD} {xs : List (K3 × Addr × Int)} {kvs : List (Key × V)} {l l' : List V} (h1 : DeskR P w K CD CC H1 a s n e k dx ca nw d) (hD : H1 D = none) (q : Kp H1 H) (hl : H D = some (.lst l)) (h : DeskR P w K CD CC H a s n e k dx ca nw { d with xs := xs, kvs := kvs })
    (hk : ∀ (m : Int) q, valV kvs (Sum.inl m) = some (.ref q) → q ≠ D) : DeskR P w K CD CC (upd H D (.lst l')) a s n e k dx ca nw { d with xs := xs, kvs := kvs } :=
  ⟨by rw [upd_ne (fun z => by have := h.obj; rw [z, hl] at this; cases this)]; exact h.obj, h1.cs.put2 hD q hl h.cs hk, tup_put h.nw hl, h.eq, h.rule, h.mv, h.mb⟩
end
theorem paired_fst {α β : Type} {R : α → β → Prop} {Y : Prop} : ∀ {is : List α} {acc : List β}, Paired (fun i y => R i y ∧ Y) is acc → Paired R is acc
  | _, _, .nil => .nil
  | _, _, .cons h t => .cons h.1 (paired_fst t)
theorem paired_snd {α β : Type} {R : α → β → Prop} {Y : Prop} {i : α} {is : List α} {acc : List β} : Paired (fun i y => R i y ∧ Y) (i :: is) acc → Y
  | .cons h _ => h.2
section
variable {P : Program} {w : World} {K : PySem.W.Frag} {mg : Str → Option Value} {base : Heap} {CD CC R : Addr}
def spDRules (P : Program) (w : World) (K : PySem.W.Frag) (CD CC R : Addr) : Sp := fun vs H Q E => ∃ (a : Addr) (s : Dsk) (n e k c : Nat) (dx ca nw : Addr) (d : CaseD), vs = [.ref a, .int c] ∧ DeskR P w K CD CC H a s n e k dx ca nw d ∧ DEnds P w K CD CC R H a s n e k (dRules s n e k c) Q E
abbrev sRulesD : Stmt := inClass (top 42) 25
abbrev nRulesD : List Str := ["self", "call", "moves"]
theorem sc_drules : FnScope nRulesD ["self", "call"] (defScope sRulesD) := ⟨rfl, rfl, rfl, by decide +kernel, rfl, by decide +kernel, by decide +kernel⟩
theorem ok_drules (B : Bts mg) (Cc : Csts mg) (T : DeskTxt K mg CD) (TC : CaseTxt K mg CC) (D : MDef K CD "of_rules" "Desk.of_rules" sRulesD ["self", "call"]) (Mn : Met P w K mg base (L2.CX P w) 10 CD "nth_good" ["self", "i"] (spNth P w K CD CC R)) (Co : Cal P w K mg base CX0 1 "counted" ["row"] (spCounted K))
    (Mt : Met P w K mg base (L2.CX P w) 11 CD "take" ["self"] (spTake P w K CD CC R)) (Mg : Met P w K mg base (L2.CX P w) 9 CD "good_places" ["self", "moves"] (spGoodP P w K CD CC R)) (Mm : Met P w K mg base CX0 3 CC "many_rules" ["self"] (spMany K CC))
    (Mb : Met P w K mg base (L2.CX P w) 9 CD "best" ["self"] (spOut P w K CD CC R dBest)) (My : Met P w K mg base (L2.CX P w) 10 CD "why" ["self"] (spOut P w K CD CC R dWhy)) (Md : Met P w K mg base CX0 2 CD "told" ["self"] (spTold P w K CD CC)) :
    Met P w K mg base (L2.CX P w) 12 CD "of_rules" ["self", "call"] (spDRules P w K CD CC R) := by
  refine D.met fun f fd F => F.okX sc_drules (fun vs H Q E h => ?_) (fun cdv A outer s H vs Q E hr h => ?_)
  · obtain ⟨a, s, n, e, k, c, dx, ca, nw, d, rfl, _⟩ := h
    rfl
  · have nd := sc_drules.nd
    refine ⟨_, pss_cons (ps_if (pt_cmpR op_eq (pv 1) pe_int (nomark _)) (pss_one (ps_ret (pe_c Co hr (pa_cons (pe_mS (E := WE (fun cls d _ H => E cls d H)) T.cl Mn hr (fun σ => passAt (takes_of rfl rfl rfl rfl) σ) (pv 0) (pa_cons pe_int pa_nil)) pa_nil)))) pss_nil)
      (pss_cons (ps_if (pt_cmpR op_eq (pv 1) pe_int (nomark _)) (pss_one (ps_ret (pe_mS0 (E := WE (fun cls d _ H => E cls d H)) T.cl Mt hr (fun σ => passAt (takes_of rfl rfl rfl rfl) σ) (pv 0)))) pss_nil)
      (pss_cons (ps_if (pt_cmpR op_eq (pv 1) pe_int (nomark _)) (pss_one (ps_ret (pe_lst (pa_cons (pe_callB call_len_seq rfl B.len bt_len (pa_cons (pe_mS (E := WE (fun cls d _ H => E cls d H)) T.cl Mg hr (fun σ => passAt (takes_of rfl rfl rfl rfl) σ) (pv 0) (pa_cons (pe_fld (pv 0) rfl) pa_nil)) pa_nil)) (pa_cons (pe_m0 TC.cl Mm hr (pe_fld (pv 0) rfl)) pa_nil))))) pss_nil)
      (pss_cons (ps_if (pt_cmpR op_eq (pv 1) pe_int (nomark _)) (pss_one (ps_ret (pe_mS0 (E := WE (fun cls d _ H => E cls d H)) T.cl Mb hr (fun σ => passAt (takes_of rfl rfl rfl rfl) σ) (pv 0)))) pss_nil)
      (pss_cons (ps_if (pt_cmpR op_eq (pv 1) pe_int (nomark _)) (pss_one (ps_ret (pe_mS0 (E := WE (fun cls d _ H => E cls d H)) T.cl My hr (fun σ => passAt (takes_of rfl rfl rfl rfl) σ) (pv 0)))) pss_nil)
      (pss_cons (ps_if (pt_cmpR op_eq (pv 1) pe_int (nomark _)) (pss_one (ps_ret (pe_lcX (own := [("moves", 2)]) (g := gName 2) (E := E) (W := fun cls d _ H => E cls d H) (te := tCB (rLen K) (tCons (tMethS CD "good_places" (spGoodP P w K CD CC R) (fun _ => E) (tVar 0) (tCons (tVar 2) tNil)) tNil)) rfl rfl (takes_of rfl rfl rfl rfl) (fun _ _ _ _ h => h) rfl nd
          (pi_range1 rfl B.range (pa_cons (pe_op op_add (pe_gi Cc.moves) pe_int) pa_nil)) (blkOk_by (own := [("moves", 2)]) (N := nRulesD) (sc := defScope sRulesD) (by decide +kernel)) (fun _ _ _ _ _ => pg_name (i := 2) nd rfl (Or.inl rfl))
          (fun _ _ _ _ _ _ hp => pe_callB call_len_seq rfl B.len bt_len (pa_cons (pe_mS (E := fun _ => E) T.cl Mg hr hp (pv 0) (pa_cons (pv 2) pa_nil)) pa_nil))))) pss_nil)
      (pss_one (ps_ret (pe_m0 T.cl Md hr (pv 0))))))))), ?_⟩
    obtain ⟨a, s, n, e, k, c, dx, ca, nw, d, rfl, h, z⟩ := h
    unfold dRules at z
    refine ⟨_, rfl, rfl, _, rfl, if_int (fun c1 => ?_) fun c1 => ?_⟩
    · rw [if_pos (show c = 16 by omega)] at z
      unfold dNth at z
      refine ⟨_, rfl, a, dx, _, rfl, h.obj, dF_none (by decide +kernel), a, s, n, e, k, 0, dx, ca, nw, d, rfl, h, fun hm => ?_, fun hm hg => ?_, fun hm hg H1 q d1 s1 h1 hq => ?_⟩
      · rw [if_pos hm] at z
        exact fun H' dd s' hd => z H' dd dx ca nw d (.of s'.kp) (h.same s') hd
      · rw [if_neg (by omega), if_pos (by omega)] at z
        exact fun H' dd d' s' h' hd => z H' dd dx ca nw d' (.of s') h' hd
      · rw [if_neg (by omega), if_neg (by omega)] at z
        have hlr : ((rules (allViews (allNames n k) e)).getD ((goodP s n e k s.moves).getD 0 0) []).length ≤ 16 := by
          have hgi : (goodP s n e k s.moves)[0]? = some ((goodP s n e k s.moves).getD 0 0) := by
            rw [List.getD_eq_getElem?_getD, List.getElem?_eq_getElem hg]
            rfl
          have hlt := goodP_lt (List.mem_of_getElem? hgi)
          generalize (goodP s n e k s.moves).getD 0 0 = g at hlt
          have hrow : (rules (allViews (allNames n k) e))[g]? = some ((rules (allViews (allNames n k) e)).getD g []) := by
            rw [List.getD_eq_getElem?_getD, List.getElem?_eq_getElem hlt]
            rfl
          have hr1 := (rules_row _ _ rfl _ (List.mem_of_getElem? hrow)).1
          have := (views_few h.cs.st.good h.cs.st.e2).2
          omega
        generalize (rules (allViews (allNames n k) e)).getD ((goodP s n e k s.moves).getD 0 0) [] = row at hq z hlr
        refine ⟨q, nI row, rfl, .inr hq, ?_, fun H2 p s2 fp hp => ?_⟩
        · unfold nI
          rw [List.length_map]
          omega
        · exact z H2 p dx ca nw d1 (.of (s1.trans s2.kp)) (h1.same s2) (s1.free p fp) hp
    rw [if_neg (show ¬ c = 16 by omega)] at z
    refine ⟨_, rfl, rfl, _, rfl, if_int (fun c1 => ?_) fun c1 => ?_⟩
    · rw [if_pos (show c = 17 by omega)] at z
      exact ⟨_, rfl, a, dx, _, rfl, h.obj, dF_none (by decide +kernel), a, s, n, e, k, dx, ca, nw, d, rfl, h, z⟩
    rw [if_neg (show ¬ c = 17 by omega)] at z
    refine ⟨_, rfl, rfl, _, rfl, if_int (fun c1 => ?_) fun c1 => ?_⟩
    · rw [if_pos (show c = 18 by omega)] at z
      unfold dMany at z
      refine ⟨_, rfl, a, dx, _, rfl, h.obj, dF_none (by decide +kernel), _, rfl, a, CD, dx, _, _, rfl, h.obj, T.cl, T.nM, dF_M, a, s, n, e, k, s.moves, dx, ca, nw, d, rfl, h, h.mv, fun hm => ?_, fun hle H1 q d1 s1 h1 nk fq hq => ?_⟩
      · rw [if_pos hm] at z
        exact fun H' dd s' hd => z H' dd dx ca nw d (.of s'.kp) (h.same s') hd
      · rw [if_neg (by omega)] at z
        refine ⟨q, _, rfl, .inl (.of hq), _, rfl, a, CD, dx, _, _, rfl, h1.obj, T.cl, T.nC, dF_C, ca, d1.dx, _, rfl, h1.cs.st.obj, cF_none (by decide +kernel), ca, n, e, k, d1, rfl, h1.cs.st, fun H2 s2 => ⟨(by show 2 ≤ sizeLine; decide), fun p hp => ?_⟩⟩
        have s3 := s2.trans (Same.new (o := .lst [V.int ((tN (goodP s n e k s.moves)).length : Nat), V.int (manyRules (allViews (allNames n k) e) : Nat)]) hp)
        refine z _ p dx ca nw d1 (.of (s1.trans s3.kp)) (h1.same s3) (s1.free p (s2.free hp)) ?_
        rw [upd_same, tN_len]
        rfl
    rw [if_neg (show ¬ c = 18 by omega)] at z
    refine ⟨_, rfl, rfl, _, rfl, if_int (fun c1 => ?_) fun c1 => ?_⟩
    · rw [if_pos (show c = 19 by omega)] at z
      exact ⟨_, rfl, a, dx, _, rfl, h.obj, dF_none (by decide +kernel), a, s, n, e, k, dx, ca, nw, d, rfl, h, z⟩
    rw [if_neg (show ¬ c = 19 by omega)] at z
    refine ⟨_, rfl, rfl, _, rfl, if_int (fun c1 => ?_) fun c1 => ?_⟩
    · rw [if_pos (show c = 21 by omega)] at z
      exact ⟨_, rfl, a, dx, _, rfl, h.obj, dF_none (by decide +kernel), a, s, n, e, k, dx, ca, nw, d, rfl, h, z⟩
    rw [if_neg (show ¬ c = 21 by omega)] at z
    refine ⟨_, rfl, rfl, _, rfl, if_int (fun c1 => ?_) fun c1 => ?_⟩
    · rw [if_pos (show c = 22 by omega)] at z
      unfold dAllAt at z
      refine ⟨_, _, rfl, rfl, _, rfl, by decide, by decide, fun b hb => ?_⟩
      have en : ((2 : Int) + 1).toNat = 3 := by decide
      refine lc_mapK walk_rg (fun H' => ∃ xs kvs, DeskR P w K CD CC H' a s n e k dx ca nw { d with xs := xs, kvs := kvs } ∧ (∀ (m : Int) q, valV kvs (Sum.inl m) = some (.ref q) → q ≠ b) ∧ ∃ l, H' b = some (.lst l)) (fun i y H' => FInt (fun m => ((goodP s n e k m).length : Int)) i y H' ∧ manyRules (allViews (allNames n k) e) ≤ 6000) ⟨fun _ _ _ _ _ h => h, fun _ _ _ _ _ _ h => h⟩ hb (by decide)
        ⟨d.xs, d.kvs, h.same (Same.new hb), fun m q hv z => ?_, [], upd_same⟩ (fun H' l l' s' hl ⟨xs, kvs, h', hk, _⟩ => ⟨xs, kvs, h.putL hb s' hl h' hk, hk, l', upd_same⟩) (fun _ _ _ => trivial) ?_ ?_
      · obtain ⟨mm, q', h1, h2, h3, h4⟩ := h.cs.gok _ _ hv
        injection h3 with h3
        rw [← h3, z, hb] at h4
        cases h4
      · rintro i x H3 H2 hi s3 ⟨xs, kvs, h3, hk, l, hl⟩ ⟨rfl, rfl⟩ Z hz
        have hi3 : i < 3 := by rw [← en]; exact hi
        refine ⟨rfl, _, rfl, a, dx, _, rfl, h3.obj, dF_none (by decide +kernel), _, rfl, a, s, n, e, k, i, dx, ca, nw, _, rfl, h3, by omega, fun hm => ?_, fun hle H4 q d4 s4 h4 nk fq hq => ?_⟩
        · rw [if_pos hm] at z
          exact fun H' dd s' hd => z H' dd dx ca nw _ (.of (s3.trans s'.kp)) (h3.same s') hd
        · have e4 := h3.cs.shape s4 h4.cs
          refine ⟨q, _, rfl, .inl (.of hq), hz _ H4 s4 ⟨d4.xs, d4.kvs, by rw [e4] at h4; exact h4, fun m q' hv zz => ?_, l, s4.keep _ _ hl rfl⟩ ?_⟩
          · rcases nk (Sum.inl m) _ hv with hv | ⟨q2, e2, f2⟩
            · exact hk m q' hv zz
            · injection e2 with e2
              rw [← e2, zz, hl] at f2
              cases f2
          · refine ⟨?_, hle⟩
            show V.int ((tN (goodP s n e k i)).length : Nat) = V.int ((goodP s n e k i).length : Int)
            rw [tN_len]
      · rintro H2 acc s2 ⟨xs, kvs, h2, _, _⟩ ha pr
        have ea := ints_of (paired_fst pr)
        have hm := paired_snd (i := 0) (is := [1, 2]) pr
        rw [if_neg (by omega)] at z
        refine z H2 b dx ca nw _ (.of s2) h2 hb ?_
        rw [ha, ea]
        rfl
    rw [if_neg (show ¬ c = 22 by omega)] at z
    exact ⟨_, rfl, a, dx, _, rfl, h.obj, dF_none (by decide +kernel), a, s, n, e, k, dx, ca, nw, d, rfl, h, fun H' q s' fq hq => z H' q dx ca nw d (.of s'.kp) (h.same s') fq hq⟩
end
end Rf
/-! ## RfW39 -/
namespace Rf
open PySem PySem.Spec PyProof.Rows L2
/-! ### the desk, with a case or without -/
structure IDef (K : PySem.W.Frag) (C : Addr) (qual : Str) (st : Stmt) (ps : List Str) : Prop where
  ex : ∃ (f : Addr) (fd : FuncData), Fun K "__init__" qual st f fd ∧ Mk K C f ∧ Binds K fd ps []
structure Ini (P : Program) (w : World) (K : PySem.W.Frag) (mg : Str → Option Value) (base : Heap) (k : Nat) (C : Addr) (ps : List Str) (sp : Sp) : Prop where
  ex : ∃ (f : Addr) (fd : FuncData), FnOk P w K mg base CX0 k f fd ps sp ∧ Mk K C f ∧ Binds K fd ps []
theorem IDef.ini {P : Program} {w : World} {K : PySem.W.Frag} {mg : Str → Option Value} {base : Heap} {k : Nat} {C : Addr} {qual : Str} {st : Stmt} {ps : List Str} {sp : Sp} (D : IDef K C qual st ps)
    (h : ∀ f fd, Fun K "__init__" qual st f fd → FnOk P w K mg base CX0 k f fd ps sp) : Ini P w K mg base k C ps sp := by
  obtain ⟨f, fd, F, m, b⟩ := D.ex
  exact ⟨f, fd, h f fd F, m, b⟩
section
variable {X : Cx} {j k : Nat} {C : Addr} {x : Str} {ps : List Str} {sp : Sp} {e : Expr} {es : List Expr} {t : TA} {p pos : Pos}
theorem pe_new (I : Ini X.prog X.w X.K X.mg X.base k C ps sp) (hm : X.mg x = some (.ref C)) (hr : Room j X.A) (ha : PA X (e :: es) t) (hk : k + 1 ≤ j := by decide) (hg : Gl X x := by rfl)
    (hdb : (x == ("__debug__" : Str)) = false := by decide) (he : starEach (e :: es) X.env = (false, eval e X.env) :: starEach es X.env := by rfl) (hpl : (backTo pos (starEach es X.env)).any (·.1) = false := by rfl) :
    PE X (.Call (.Name x p) (e :: es) [] pos) (tMake C sp [] E0 t) := by
  obtain ⟨f, fd, G, m, b⟩ := I.ex
  exact pe_make m G (hr.mono hk) hg hm b .nil pass0 ha hdb he hpl
theorem pe_new0 (I : Ini X.prog X.w X.K X.mg X.base k C ps sp) (hm : X.mg x = some (.ref C)) (hr : Room j X.A) (hk : k + 1 ≤ j := by decide) (hg : Gl X x := by rfl)
    (hdb : (x == ("__debug__" : Str)) = false := by decide) : PE X (.Call (.Name x p) [] [] pos) (tMake C sp [] E0 tNil) := by
  obtain ⟨f, fd, G, m, b⟩ := I.ex
  exact pe_make0 m G (hr.mono hk) hg hm b .nil pass0 hdb
end
section
variable {P : Program} {w : World} {K : PySem.W.Frag} {mg : Str → Option Value} {base : Heap} {CD CC R : Addr}
structure DeskN (K : PySem.W.Frag) (CD : Addr) (H : Hp) (a : Addr) (s : Dsk) : Prop where
  none_ : s.case = none
  ex : ∃ dx nw, H a = some (.ins CD dx (dF .non s.moves s.marked nw))
def DeskA (P : Program) (w : World) (K : PySem.W.Frag) (CD CC : Addr) (H : Hp) (a : Addr) (s : Dsk) : Prop := DeskN K CD H a s ∨ ∃ n e k dx ca nw d, DeskR P w K CD CC H a s n e k dx ca nw d
theorem DeskA.same {H H' : Hp} {a : Addr} {s : Dsk} (h : DeskA P w K CD CC H a s) (q : Same H H') : DeskA P w K CD CC H' a s := by
  rcases h with ⟨h1, dx, nw, h2⟩ | ⟨n, e, k, dx, ca, nw, d, h⟩
  · exact .inl ⟨h1, dx, nw, q _ _ h2⟩
  · exact .inr ⟨n, e, k, dx, ca, nw, d, h.same q⟩
theorem DeskA.at_ {H : Hp} {a : Addr} {s : Dsk} (h : DeskA P w K CD CC H a s) : ∃ dx vc nw, H a = some (.ins CD dx (dF vc s.moves s.marked nw)) := by
  rcases h with ⟨h1, dx, nw, h2⟩ | ⟨n, e, k, dx, ca, nw, d, h⟩
  · exact ⟨dx, _, nw, h2⟩
  · exact ⟨dx, _, nw, h.obj⟩
def AEnds (P : Program) (w : World) (K : PySem.W.Frag) (CD CC R : Addr) (H : Hp) (a : Addr) (s : Dsk) (out : Out) (Q : VK) (E : XK) : Prop := match out with
  | .ok (s', l) => ∀ H' q, KpB a H H' → DeskA P w K CD CC H' a s' → H q = none → H' q = some (.lst (tI l)) → Q (.ref q) H'
  | .error z => ∀ H' dd, KpB a H H' → DeskA P w K CD CC H' a s → H' dd = some (.xd (xN z)) → E (.ref R) (some dd) H'
theorem AEnds.d {H : Hp} {a : Addr} {s : Dsk} {n e k : Nat} {out : Out} {Q : VK} {E : XK} (h : AEnds P w K CD CC R H a s out Q E) : DEnds P w K CD CC R H a s n e k out Q E := by
  cases out with
  | ok x =>
    obtain ⟨s', l⟩ := x
    exact fun H' q dx ca nw d kb h2 fq hq => h H' q kb (.inr ⟨n, e, k, dx, ca, nw, d, h2⟩) fq hq
  | error z => exact fun H' dd dx ca nw d kb h2 hd => h H' dd kb (.inr ⟨n, e, k, dx, ca, nw, d, h2⟩) hd
/-! Desk.__init__ -/
def spDesk (K : PySem.W.Frag) (CD : Addr) : Sp := fun vs H Q _ => ∃ (a dx : Addr), vs = [.ref a] ∧ H a = some (.ins CD dx []) ∧ ∀ H' nw, But a H H' → H' a = some (.ins CD dx (dF .non 0 0 nw)) → Q .non H'
abbrev sDesk : Stmt := inClass (top 42) 0
theorem sc_desk : FnScope ["self"] ["self"] (defScope sDesk) := ⟨rfl, rfl, rfl, by decide +kernel, rfl, by decide +kernel, by decide +kernel⟩
theorem ok_desk (T : DeskTxt K mg CD) {f : Addr} {fd : FuncData} (F : Fun K "__init__" "Desk.__init__" sDesk f fd) : FnOk P w K mg base CX0 1 f fd ["self"] (spDesk K CD) := by
  refine F.ok sc_desk (fun vs H Q E h => ?_) (fun cdv A outer s H vs Q E hr h => ?_)
  · obtain ⟨a, dx, rfl, _⟩ := h
    rfl
  · refine ⟨_, pss_cons (ps_fld (pv 0) pe_non rfl) (pss_cons (ps_fld (pv 0) pe_int rfl) (pss_cons (ps_fld (pv 0) pe_int rfl) (pss_one (ps_fld (pv 0) (pe_tup pa_nil) rfl)))), ?_⟩
    obtain ⟨a, dx, rfl, ha, z⟩ := h
    refine ⟨_, rfl, a, CD, dx, _, rfl, ha, T.cl, T.nC, (by show 0 < 1000; decide), ?_⟩
    have o1 : (upd H a (.ins CD dx (putF ("case" : Str) V.non []))) a = some (.ins CD dx [(("case" : Str), V.non)]) := upd_same
    have b1 : But a H (upd H a (.ins CD dx (putF ("case" : Str) V.non []))) := (But.refl a H).put ha
    generalize upd H a (.ins CD dx (putF ("case" : Str) V.non [])) = G1 at o1 b1 ⊢
    refine ⟨_, rfl, a, CD, dx, _, rfl, o1, T.cl, T.nM, (by show 1 < 1000; decide), ?_⟩
    have o2 : (upd G1 a (.ins CD dx (putF ("moves" : Str) (V.int 0) [(("case" : Str), V.non)]))) a = some (.ins CD dx [(("case" : Str), V.non), (("moves" : Str), V.int 0)]) := upd_same.trans (by rw [putF_new (by show notIn "moves" ["case"] = true; decide +kernel)]; rfl)
    have b2 : But a H (upd G1 a (.ins CD dx (putF ("moves" : Str) (V.int 0) [(("case" : Str), V.non)]))) := b1.put o1
    generalize upd G1 a (.ins CD dx (putF ("moves" : Str) (V.int 0) [(("case" : Str), V.non)])) = G2 at o2 b2 ⊢
    refine ⟨_, rfl, a, CD, dx, _, rfl, o2, T.cl, T.nB, (by show 2 < 1000; decide), ?_⟩
    have o3 : (upd G2 a (.ins CD dx (putF ("marked" : Str) (V.int 0) [(("case" : Str), V.non), (("moves" : Str), V.int 0)]))) a = some (.ins CD dx [(("case" : Str), V.non), (("moves" : Str), V.int 0), (("marked" : Str), V.int 0)]) := upd_same.trans (by rw [putF_new (by show notIn "marked" ["case", "moves"] = true; decide +kernel)]; rfl)
    have b3 : But a H (upd G2 a (.ins CD dx (putF ("marked" : Str) (V.int 0) [(("case" : Str), V.non), (("moves" : Str), V.int 0)]))) := b2.put o2
    generalize upd G2 a (.ins CD dx (putF ("marked" : Str) (V.int 0) [(("case" : Str), V.non), (("moves" : Str), V.int 0)])) = G3 at o3 b3 ⊢
    refine ⟨(by show 0 ≤ sizeLine; decide), fun t ht => ?_⟩
    have st := Same.new (o := .tup []) ht
    refine ⟨_, rfl, a, CD, dx, _, rfl, st _ _ o3, T.cl, T.nN, (by show 3 < 1000; decide), ?_⟩
    refine z _ t ((b3.same st).put (st _ _ o3)) ?_
    rw [upd_same, putF_new (by show notIn "now" ["case", "moves", "marked"] = true; decide +kernel)]
    rfl
/-! begin -/
theorem rep_zero {H : Hp} {Q : VK} {t : Addr} {kk : Nat} (ht : SqT K H t [V.int 0]) (h1 : 1 ≤ kk) (h2 : kk ≤ 1000) (q : ∀ H' p, Same H H' → SqT K H' p (tN (List.replicate kk 0)) → Q (.ref p) H') : rTimes K (.ref t) (.int (kk : Nat)) H Q := by
  have e : (List.replicate ((kk : Int)).toNat [V.int 0]).flatten = tN (List.replicate kk 0) := by
    rw [Int.toNat_natCast, List.flatten_replicate_singleton]
    unfold tN tI
    rw [List.map_replicate, List.map_replicate]
    rfl
  refine ⟨t, kk, [V.int 0], rfl, rfl, ht, by simp, by omega, by omega, by decide, fun hk => ?_, fun hk p hp => ?_⟩
  · have hk : kk = 1 := by omega
    subst hk
    exact q H t (Same.refl H) ht
  · exact q _ p (Same.new hp) (SqT.of (by rw [upd_same, e]))
def spBegin (P : Program) (w : World) (K : PySem.W.Frag) (CD CC R : Addr) : Sp := fun vs H Q E => ∃ (a : Addr) (s : Dsk) (n e k m : Nat), vs = [.ref a, .int n, .int e, .int k, .int m] ∧ DeskA P w K CD CC H a s ∧ AEnds P w K CD CC R H a s (dBegin n e k m) Q E
abbrev sBegin : Stmt := inClass (top 42) 1
abbrev nBegin : List Str := ["self", "places", "eyes", "robots", "moves"]
theorem sc_begin : FnScope nBegin nBegin (defScope sBegin) := ⟨rfl, rfl, rfl, by decide +kernel, rfl, by decide +kernel, by decide +kernel⟩
theorem ok_begin (B : Bts mg) (Cc : Csts mg) (T : DeskTxt K mg CD) (TC : CaseTxt K mg CC) (D : MDef K CD "begin" "Desk.begin" sBegin nBegin) (Cr : Cal P w K mg base (L2.CX P w) 3 "refuse" ["bad", "number"] (spRefuse R)) (IC : Ini P w K mg base 5 CC pCase (spCase P w K CC)) :
    Met P w K mg base (L2.CX P w) 7 CD "begin" nBegin (spBegin P w K CD CC R) := by
  refine D.met fun f fd F => F.okX sc_begin (fun vs H Q E h => ?_) (fun cdv A outer s H vs Q E hr h => ?_)
  · obtain ⟨a, s, n, e, k, m, rfl, _⟩ := h
    rfl
  · refine ⟨_, pss_cons (ps_expr (pe_cS (E := WE (fun cls d _ H => E cls d H)) Cr hr (fun σ => passAt (takes_of rfl rfl rfl rfl) σ) (pa_cons
        (pe_or (pe_not (pe_chain op_le op_le pe_int (pv 1) pe_int)) (pe_or (pe_cmpR op_gt (pv 2) pe_int (nomark _)) (pe_or (pe_not (pe_chain op_le op_le pe_int (pv 3) pe_int)) (pe_one (pe_cmpR op_gt (pv 4) (pe_gi Cc.moves) (nomark _))))))
        (pa_cons (pe_gi Cc.num) pa_nil))))
      (pss_cons (ps_fld (pv 0) (pe_new IC TC.gC hr (pa_cons (pv 1) (pa_cons (pv 2) (pa_cons (pv 3) pa_nil)))) rfl)
      (pss_cons (ps_fld (pv 0) (pv 4) rfl)
      (pss_cons (ps_fld (pv 0) pe_int rfl)
      (pss_cons (ps_fld (pv 0) (pe_op op_times (pe_tup (pa_cons pe_int pa_nil)) (pe_callB call_len_seq rfl B.len bt_len (pa_cons (pe_fld (pe_fld (pv 0) rfl) rfl) pa_nil))) rfl)
      (pss_one (ps_ret (pe_lst (pa_cons (pe_callB call_len_seq rfl B.len bt_len (pa_cons (pe_fld (pe_fld (pv 0) rfl) rfl) pa_nil)) pa_nil)))))))), ?_⟩
    obtain ⟨a, s, n, e, k, m, rfl, h, z⟩ := h
    unfold dBegin at z
    -- what is refused
    have bad : (¬ (3 ≤ n ∧ n ≤ 7) ∨ 2 < e ∨ ¬ (1 ≤ k ∧ k ≤ 3) ∨ 2 < m) → ∀ H' dd, Same H H' → H' dd = some (.xd (xN (-22))) → E (.ref R) (some dd) H' := fun hb H' dd s' hd => by
      rw [if_pos hb] at z
      exact z H' dd (.of s'.kp) (h.same s') hd
    refine ⟨_, rfl, _, _, rfl, rfl, _, rfl, ?_⟩
    by_cases c1 : (3 : Int) ≤ (n : Int)
    case neg => exact if_false_of (decide_eq_false c1) ⟨_, rfl, _, rfl, if_true_of rfl ⟨true, _, rfl, fun _ => bad (by omega), fun q => nomatch q⟩⟩
    refine if_true_of (decide_eq_true c1) ⟨_, _, rfl, rfl, _, rfl, _, rfl, ?_⟩
    by_cases c2 : (n : Int) ≤ 7
    case neg => exact if_true_of (by rw [decide_eq_false c2]; rfl) ⟨true, _, rfl, fun _ => bad (by omega), fun q => nomatch q⟩
    refine if_false_of (by rw [decide_eq_true c2]; rfl) ⟨_, rfl, _, _, rfl, rfl, _, rfl, ?_⟩
    by_cases c3 : (e : Int) > 2
    case pos => exact if_true_of (decide_eq_true c3) ⟨true, _, rfl, fun _ => bad (by omega), fun q => nomatch q⟩
    refine if_false_of (decide_eq_false c3) ⟨_, rfl, _, _, rfl, rfl, _, rfl, ?_⟩
    by_cases c4 : (1 : Int) ≤ (k : Int)
    case neg => exact if_false_of (decide_eq_false c4) ⟨_, rfl, _, rfl, if_true_of rfl ⟨true, _, rfl, fun _ => bad (by omega), fun q => nomatch q⟩⟩
    refine if_true_of (decide_eq_true c4) ⟨_, _, rfl, rfl, _, rfl, _, rfl, ?_⟩
    by_cases c5 : (k : Int) ≤ 3
    case neg => exact if_true_of (by rw [decide_eq_false c5]; rfl) ⟨true, _, rfl, fun _ => bad (by omega), fun q => nomatch q⟩
    refine if_false_of (by rw [decide_eq_true c5]; rfl) ⟨_, rfl, _, _, rfl, rfl, _, _, rfl, fun hb => bad (by have := of_decide_eq_true hb; omega), fun hb => ?_⟩
    have c6 := of_decide_eq_false hb
    rw [if_neg (by omega)] at z
    have g : Good n k := ⟨by omega, by omega, by omega, by omega⟩
    have he : e ≤ 2 := by omega
    obtain ⟨dx, vc, nw0, ha⟩ := h.at_
    have hvf := views_few g he
    have hvl : 1 ≤ (allViews (allNames n k) e).length := List.length_pos_iff.mpr hvf.1
    refine ⟨_, rfl, _, rfl, _, rfl, fun x dxc hx hdx ne => ⟨x, dxc, n, e, k, rfl, upd_same, g, he, fun H1 d b1 cr1 => ⟨rfl, ?_⟩⟩⟩
    have nax : a ≠ x := fun q => by rw [q, hx] at ha; cases ha
    have nad : a ≠ dxc := fun q => by rw [q, hdx] at ha; cases ha
    have ha1 : H1 a = some (.ins CD dx (dF vc s.moves s.marked nw0)) := b1.keep a _ (by rw [upd_ne nax, upd_ne nad]; exact ha) nax
    have kb1 : KpB a H H1 := ⟨fun b o e0 _ _ => b1.keep b o (by rw [upd_ne (ne_of_none e0 hx), upd_ne (ne_of_none e0 hdx)]; exact e0) (ne_of_none e0 hx), fun b e0 => by
      have q := b1.free b e0
      by_cases q1 : b = x
      · rw [q1]; exact hx
      · rw [upd_ne q1] at q
        by_cases q2 : b = dxc
        · rw [q2]; exact hdx
        · rw [upd_ne q2] at q; exact q⟩
    refine ⟨_, rfl, a, CD, dx, _, rfl, ha1, T.cl, T.nC, (by show 4 < 1000; decide), ?_⟩
    have e2 : upd H1 a (.ins CD dx (putF ("case" : Str) (V.ref x) (dF vc s.moves s.marked nw0))) = upd H1 a (.ins CD dx (dF (.ref x) s.moves s.marked nw0)) := congrArg (fun fs => upd H1 a (.ins CD dx fs)) dF_putC
    rw [e2]
    have ha2 : (upd H1 a (.ins CD dx (dF (.ref x) s.moves s.marked nw0))) a = some (.ins CD dx (dF (.ref x) s.moves s.marked nw0)) := upd_same
    have cr2 := cr1.over (o := .ins CD dx (dF (.ref x) s.moves s.marked nw0)) ha1
    have kb2 : KpB a H (upd H1 a (.ins CD dx (dF (.ref x) s.moves s.marked nw0))) := kb1.put ha1
    generalize upd H1 a (.ins CD dx (dF (.ref x) s.moves s.marked nw0)) = H2 at ha2 cr2 kb2 ⊢
    refine ⟨_, rfl, _, rfl, a, CD, dx, _, rfl, ha2, T.cl, T.nM, (by show 4 < 1000; decide), ?_⟩
    have e3 : upd H2 a (.ins CD dx (putF ("moves" : Str) (V.int (m : Nat)) (dF (.ref x) s.moves s.marked nw0))) = upd H2 a (.ins CD dx (dF (.ref x) m s.marked nw0)) := congrArg (fun fs => upd H2 a (.ins CD dx fs)) dF_putM
    rw [e3]
    have ha3 : (upd H2 a (.ins CD dx (dF (.ref x) m s.marked nw0))) a = some (.ins CD dx (dF (.ref x) m s.marked nw0)) := upd_same
    have cr3 := cr2.over (o := .ins CD dx (dF (.ref x) m s.marked nw0)) ha2
    have kb3 : KpB a H (upd H2 a (.ins CD dx (dF (.ref x) m s.marked nw0))) := kb2.put ha2
    generalize upd H2 a (.ins CD dx (dF (.ref x) m s.marked nw0)) = H3 at ha3 cr3 kb3 ⊢
    refine ⟨_, rfl, a, CD, dx, _, rfl, ha3, T.cl, T.nB, (by show 4 < 1000; decide), ?_⟩
    have e4 : upd H3 a (.ins CD dx (putF ("marked" : Str) (V.int 0) (dF (.ref x) m s.marked nw0))) = upd H3 a (.ins CD dx (dF (.ref x) m 0 nw0)) := congrArg (fun fs => upd H3 a (.ins CD dx fs)) (dF_putB (b' := 0))
    rw [e4]
    have ha4 : (upd H3 a (.ins CD dx (dF (.ref x) m 0 nw0))) a = some (.ins CD dx (dF (.ref x) m 0 nw0)) := upd_same
    have cr4 := cr3.over (o := .ins CD dx (dF (.ref x) m 0 nw0)) ha3
    have kb4 : KpB a H (upd H3 a (.ins CD dx (dF (.ref x) m 0 nw0))) := kb3.put ha3
    generalize upd H3 a (.ins CD dx (dF (.ref x) m 0 nw0)) = H4 at ha4 cr4 kb4 ⊢
    refine ⟨(by show 1 ≤ sizeLine; decide), fun t ht => ?_⟩
    have st := Same.new (o := .tup [V.int 0]) ht
    have cr5 := cr4.same st
    obtain ⟨vps, hvps, hvt⟩ := cr5.st.vw
    have hvlen : (List.map V.ref vps).length = (allViews (allNames n k) e).length := by rw [List.length_map, hvt.length]
    refine ⟨_, rfl, a, CD, dx, _, _, rfl, st _ _ ha4, T.cl, T.nC, dF_C, x, CC, d.dx, _, _, rfl, cr5.st.obj, TC.cl, TC.nV, cF_V, _, _, rfl, .inl (.of hvps), ?_⟩
    rw [hvlen]
    refine rep_zero (SqT.of upd_same) hvl (by omega) fun H6 q6 s6 t6 => ?_
    have s46 := st.trans s6
    have ha6 := s46 _ _ ha4
    refine ⟨_, rfl, a, CD, dx, _, rfl, ha6, T.cl, T.nN, (by show 4 < 1000; decide), ?_⟩
    have e7 : upd H6 a (.ins CD dx (putF ("now" : Str) (V.ref q6) (dF (.ref x) m 0 nw0))) = upd H6 a (.ins CD dx (dF (.ref x) m 0 q6)) := congrArg (fun fs => upd H6 a (.ins CD dx fs)) dF_putN
    rw [e7]
    have cr7 := (cr4.same s46).over (o := .ins CD dx (dF (.ref x) m 0 q6)) ha6
    have D7 : DeskR P w K CD CC (upd H6 a (.ins CD dx (dF (.ref x) m 0 q6))) a ⟨some (n, e, k), m, 0, List.replicate (allViews (allNames n k) e).length 0⟩ n e k dx x q6 d :=
      ⟨upd_same, cr7, tup_over t6 ha6, rfl, ⟨List.length_replicate, fun y hy => by rw [List.eq_of_mem_replicate hy]; exact Nat.zero_le _⟩, by show m ≤ 2; omega, Nat.two_pow_pos _⟩
    have kb7 : KpB a H (upd H6 a (.ins CD dx (dF (.ref x) m 0 q6))) := (kb4.trans (.of s46.kp)).put ha6
    generalize upd H6 a (.ins CD dx (dF (.ref x) m 0 q6)) = H7 at D7 kb7 ⊢
    obtain ⟨wps, hwl, hwt⟩ := D7.cs.st.vw
    have hwlen : (List.map V.ref wps).length = (allViews (allNames n k) e).length := by rw [List.length_map, hwt.length]
    refine ⟨_, rfl, a, CD, dx, _, _, rfl, D7.obj, T.cl, T.nC, dF_C, x, CC, d.dx, _, _, rfl, D7.cs.st.obj, TC.cl, TC.nV, cF_V, _, _, rfl, .inl (.of hwl), (by show 1 ≤ sizeLine; decide), fun p hp => ?_⟩
    exact z _ p (kb7.trans (.of (Same.new hp).kp)) (.inr ⟨n, e, k, dx, x, q6, d, D7.same (Same.new hp)⟩) (kb7.free p hp) (by rw [upd_same, hwlen]; rfl)
end
end Rf
/-! ## RfW40 -/
namespace Rf
open PySem PySem.Spec PyProof.Rows L2
theorem AEnds.trans {P : Program} {w : World} {K : PySem.W.Frag} {CD CC R : Addr} {H H1 : Hp} {a : Addr} {s : Dsk} {out : Out} {Q : VK} {E : XK} (h : AEnds P w K CD CC R H a s out Q E) (q : Same H H1) : AEnds P w K CD CC R H1 a s out Q E := by
  cases out with
  | ok x =>
    obtain ⟨s', l⟩ := x
    exact fun H' p kb h2 fq hq => h H' p ((KpB.of q.kp).trans kb) h2 (q.free fq) hq
  | error z => exact fun H' dd kb h2 hd => h H' dd ((KpB.of q.kp).trans kb) h2 hd
theorem dNames_ok (s : Dsk) (n e k c : Nat) : ∃ x, dNames s n e k c = .ok x := by
  unfold dNames
  repeat' split
  all_goals exact ⟨_, rfl⟩
theorem DEnds.e0 {P : Program} {w : World} {K : PySem.W.Frag} {CD CC R : Addr} {H : Hp} {a : Addr} {s : Dsk} {n e k : Nat} {out : Out} {Q : VK} {E E' : XK} (hx : ∃ x, out = .ok x) (h : DEnds P w K CD CC R H a s n e k out Q E) : DEnds P w K CD CC R H a s n e k out Q E' := by
  obtain ⟨⟨s', l⟩, rfl⟩ := hx
  exact h
structure RowShape (c : Nat) (row : List Nat) : Prop where
  four : c = 0 → row.length = 4
  two : c = 12 → row.length = 2
section
variable {P : Program} {w : World} {K : PySem.W.Frag} {mg : Str → Option Value} {base : Heap} {CD CC R : Addr}
theorem row_at {K : PySem.W.Frag} {H : Hp} {ra : Addr} {row : List Nat} {σ : L2.St} {z : Int} {Q : VK} (i : Nat) (hz : z = (i : Int)) (h : H ra = some (.lst (tN row))) (hi : i < row.length) (q : Q (.int (row.getD i 0 : Nat)) H) : tC (.int z) σ H fun y H2 => rIxL K (.ref ra) y H2 Q := by
  show rIxL K (.ref ra) (.int z) H Q
  subst hz
  have e : row[i]? = some (row.getD i 0) := by
    rw [List.getD_eq_getElem?_getD, List.getElem?_eq_getElem hi]
    rfl
  exact ⟨ra, _, _, _, rfl, rfl, .of h, atI_nat (nat_at' e), q⟩
def spAnswered (P : Program) (w : World) (K : PySem.W.Frag) (CD CC R : Addr) : Sp := fun vs H Q E => ∃ (a ra : Addr) (s : Dsk) (c : Nat) (row : List Nat), vs = [.ref a, .int c, .ref ra] ∧ H ra = some (.lst (tN row)) ∧ RowShape c row ∧ DeskA P w K CD CC H a s ∧ AEnds P w K CD CC R H a s (dAnswered s c row) Q E
abbrev sAnswered : Stmt := inClass (top 42) 26
abbrev nAnswered : List Str := ["self", "call", "row"]
theorem sc_answered : FnScope nAnswered nAnswered (defScope sAnswered) := ⟨rfl, rfl, rfl, by decide +kernel, rfl, by decide +kernel, by decide +kernel⟩
theorem ok_answered (Cc : Csts mg) (T : DeskTxt K mg CD) (D : MDef K CD "answered" "Desk.answered" sAnswered nAnswered) (Mb : Met P w K mg base (L2.CX P w) 7 CD "begin" nBegin (spBegin P w K CD CC R)) (Cr : Cal P w K mg base (L2.CX P w) 3 "refuse" ["bad", "number"] (spRefuse R))
    (Mt : Met P w K mg base (L2.CX P w) 5 CD "tell" ["self", "v", "done"] (spTell P w K CD CC R)) (Mo : Met P w K mg base (L2.CX P w) 11 CD "of_one" nOne (spOne P w K CD CC R)) (Mn : Met P w K mg base CX0 8 CD "of_names" ["self", "call"] (spDNames P w K CD CC R)) (Mr : Met P w K mg base (L2.CX P w) 12 CD "of_rules" ["self", "call"] (spDRules P w K CD CC R)) :
    Met P w K mg base (L2.CX P w) 13 CD "answered" nAnswered (spAnswered P w K CD CC R) := by
  refine D.met fun f fd F => F.okX sc_answered (fun vs H Q E h => ?_) (fun cdv A outer s H vs Q E hr h => ?_)
  · obtain ⟨a, ra, s, c, row, rfl, _⟩ := h
    rfl
  · refine ⟨_, pss_cons (ps_if (pt_cmpR op_eq (pv 1) pe_int (nomark _)) (pss_one (ps_ret (pe_mS (E := WE (fun cls d _ H => E cls d H)) T.cl Mb hr (fun σ => passAt (takes_of rfl rfl rfl rfl) σ) (pv 0)
        (pa_cons (pe_ix ix_list (pv 2) pe_int (fun _ _ => rfl)) (pa_cons (pe_ix ix_list (pv 2) pe_int (fun _ _ => rfl)) (pa_cons (pe_ix ix_list (pv 2) pe_int (fun _ _ => rfl)) (pa_cons (pe_ix ix_list (pv 2) pe_int (fun _ _ => rfl)) pa_nil))))))) pss_nil)
      (pss_cons (ps_expr (pe_cS (E := WE (fun cls d _ H => E cls d H)) Cr hr (fun σ => passAt (takes_of rfl rfl rfl rfl) σ) (pa_cons (pe_cmpR op_isN (pe_fld (pv 0) rfl) pe_non (nomark _)) (pa_cons (pe_gi Cc.begun) pa_nil))))
      (pss_cons (ps_if (pt_cmpR op_eq (pv 1) pe_int (nomark _)) (pss_one (ps_ret (pe_mS (E := WE (fun cls d _ H => E cls d H)) T.cl Mt hr (fun σ => passAt (takes_of rfl rfl rfl rfl) σ) (pv 0)
        (pa_cons (pe_ix ix_list (pv 2) pe_int (fun _ _ => rfl)) (pa_cons (pe_ix ix_list (pv 2) pe_int (fun _ _ => rfl)) pa_nil))))) pss_nil)
      (pss_cons (ps_if (pt_cmpR (op_neD hr.units) (pv 2) (pe_lst pa_nil) (nomark _)) (pss_one (ps_ret (pe_mS (E := WE (fun cls d _ H => E cls d H)) T.cl Mo hr (fun σ => passAt (takes_of rfl rfl rfl rfl) σ) (pv 0)
        (pa_cons (pv 1) (pa_cons (pe_ix ix_list (pv 2) pe_int (fun _ _ => rfl)) pa_nil))))) pss_nil)
      (pss_cons (ps_if (pt_cmpR op_lt (pv 1) pe_int (nomark _)) (pss_one (ps_ret (pe_m T.cl Mn hr (pv 0) (pa_cons (pv 1) pa_nil)))) pss_nil)
      (pss_one (ps_ret (pe_mS (E := WE (fun cls d _ H => E cls d H)) T.cl Mr hr (fun σ => passAt (takes_of rfl rfl rfl rfl) σ) (pv 0) (pa_cons (pv 1) pa_nil)))))))), ?_⟩
    obtain ⟨a, ra, s, c, row, rfl, hra, sh, h, z⟩ := h
    unfold dAnswered at z
    obtain ⟨dx, vc, nw0, ha⟩ := h.at_
    refine ⟨_, rfl, rfl, _, rfl, if_int (fun c1 => ?_) fun c1 => ?_⟩
    · have hc : c = 0 := by omega
      rw [if_pos hc] at z
      have h4 := sh.four hc
      refine ⟨_, rfl, a, dx, _, rfl, ha, dF_none (by decide +kernel), _, rfl, row_at 0 rfl hra (by omega) ⟨_, rfl, row_at 1 rfl hra (by omega) ⟨_, rfl, row_at 2 rfl hra (by omega) ⟨_, rfl, row_at 3 rfl hra (by omega) ?_⟩⟩⟩⟩
      exact ⟨a, s, _, _, _, _, rfl, h, z⟩
    rw [if_neg (show ¬ c = 0 by omega)] at z
    rcases h with hN | ⟨n, e, k, dx, ca, nw, d, h⟩
    · obtain ⟨dx, nw, ha⟩ := hN.ex
      rw [hN.none_] at z
      refine ⟨_, rfl, a, CD, dx, _, _, rfl, ha, T.cl, T.nC, dF_C, rfl, _, _, rfl, fun _ => fun H' dd s' hd => ?_, fun hb => ?_⟩
      · exact z H' dd (.of s'.kp) (DeskA.same (.inl hN) s') hd
      · exact absurd (of_decide_eq_false hb) (fun q => q rfl)
    · rw [h.eq] at z
      have z : AEnds P w K CD CC R H a s (dCase s n e k c row) Q E := z
      unfold dCase at z
      refine ⟨_, rfl, a, CD, dx, _, _, rfl, h.obj, T.cl, T.nC, dF_C, rfl, _, _, rfl, fun hb => ?_, fun _ => ?_⟩
      · exact absurd (of_decide_eq_true hb) (fun q => by cases q)
      refine ⟨_, rfl, rfl, _, rfl, if_int (fun c2 => ?_) fun c2 => ?_⟩
      · have hc : c = 12 := by omega
        rw [if_pos hc] at z
        have h2 := sh.two hc
        exact ⟨_, rfl, a, dx, _, rfl, h.obj, dF_none (by decide +kernel), _, rfl, row_at 0 rfl hra (by omega) ⟨_, rfl, row_at 1 rfl hra (by omega) ⟨a, s, n, e, k, _, _, dx, ca, nw, d, rfl, h, z.d⟩⟩⟩
      rw [if_neg (show ¬ c = 12 by omega)] at z
      refine ⟨_, rfl, (by show 0 ≤ sizeLine; decide), fun p hp => ?_⟩
      have sp := Same.new (o := .lst []) hp
      have z1 := z.trans sp
      have h1 := h.same sp
      refine ne_lists (r := nI row) (s := []) (.of (sp _ _ hra)) (.of upd_same) ⟨_, rfl, ?_⟩
      by_cases hrow : row = []
      · rw [if_neg (fun q => q hrow)] at z1
        refine if_false_of (by rw [decide_eq_true (nI_nil.mpr hrow)]; rfl) ?_
        refine ⟨_, rfl, _, _, rfl, rfl, _, rfl, ?_⟩
        by_cases c16 : c < 16
        · rw [if_pos c16] at z1
          refine if_true_of (decide_eq_true (by omega)) ?_
          exact ⟨_, rfl, a, dx, _, rfl, h1.obj, dF_none (by decide +kernel), _, rfl, a, s, n, e, k, c, dx, ca, nw, d, rfl, h1, z1.d.e0 (dNames_ok _ _ _ _ _)⟩
        · rw [if_neg c16] at z1
          refine if_false_of (decide_eq_false (by omega)) ?_
          exact ⟨_, rfl, a, dx, _, rfl, h1.obj, dF_none (by decide +kernel), _, rfl, a, s, n, e, k, c, dx, ca, nw, d, rfl, h1, z1.d⟩
      · rw [if_pos hrow] at z1
        refine if_true_of (by rw [decide_eq_false (fun q => hrow (nI_nil.mp q))]; rfl) ?_
        exact ⟨_, rfl, a, dx, _, rfl, h1.obj, dF_none (by decide +kernel), _, rfl, _, rfl, row_at 0 rfl (sp _ _ hra) (List.length_pos_iff.mpr hrow) ⟨a, s, n, e, k, c, _, dx, ca, nw, d, rfl, h1, z1.d⟩⟩
/-! answer -/
def spAnswer (P : Program) (w : World) (K : PySem.W.Frag) (CD CC : Addr) : Sp := fun vs H Q _ => ∃ (a ra : Addr) (s : Dsk) (c : Nat) (row : List Nat), vs = [.ref a, .int c, .ref ra] ∧ H ra = some (.lst (tN row)) ∧ RowShape c row ∧ DeskA P w K CD CC H a s ∧
  ∀ H' q, KpB a H H' → DeskA P w K CD CC H' a (dAnswer s c row).1 → H q = none → H' q = some (.lst (tI (dAnswer s c row).2)) → Q (.ref q) H'
abbrev sAnswer : Stmt := inClass (top 42) 27
abbrev nAnswer : List Str := ["self", "call", "row", "e"]
theorem sc_answer : FnScope nAnswer ["self", "call", "row"] (defScope sAnswer) := ⟨rfl, rfl, rfl, by decide +kernel, rfl, by decide +kernel, by decide +kernel⟩
theorem ok_answer (T : DeskTxt K mg CD) (TR : RefTxt K mg R) (D : MDef K CD "answer" "Desk.answer" sAnswer ["self", "call", "row"]) (Ma : Met P w K mg base (L2.CX P w) 13 CD "answered" nAnswered (spAnswered P w K CD CC R)) :
    Met P w K mg base CX0 14 CD "answer" ["self", "call", "row"] (spAnswer P w K CD CC) := by
  refine D.met fun f fd F => F.ok sc_answer (fun vs H Q E h => ?_) (fun cdv A outer s H vs Q E hr h => ?_)
  · obtain ⟨a, ra, s, c, row, rfl, _⟩ := h
    rfl
  · have nd := sc_answer.nd
    refine ⟨_, pss_one (ps_try_as (i := 3) (tb := fun W => tRet (tMethS CD "answered" (spAnswered P w K CD CC R) (WE W) (tVar 0) (tCons (tVar 1) (tCons (tVar 2) tNil)))) (ts := fun ae cls d => tRet (tLst (tCons (tXf ae cls d R "number" (tVar 3)) tNil))) (Wout := fun _ _ _ _ => False) rfl rfl nd rfl rfl ⟨rfl, by decide, Or.inl TR.gR⟩ takes0
        (fun W pn xe tk _ => pss_one (ps_ret (pe_mS (E := WE W) T.cl Ma hr (fun σ => passAt tk σ) (pv 0) (pa_cons (pv 1) (pa_cons (pv 2) pa_nil)))))
        (fun ae oe cls d pn hz hf => pss_one (ps_ret (pe_lst (pa_cons (pe_xf TR.xf TR.noN hz hf (pv 3)) pa_nil))))), ?_⟩
    obtain ⟨a, ra, s, c, row, rfl, hra, sh, h, z⟩ := h
    obtain ⟨dx, vc, nw0, ha⟩ := h.at_
    refine ⟨_, rfl, a, dx, _, rfl, ha, dF_none (by decide +kernel), _, rfl, _, rfl, a, ra, s, c, row, rfl, hra, sh, h, ?_⟩
    unfold dAnswer at z
    cases q : dAnswered s c row with
    | ok x =>
      obtain ⟨s', l⟩ := x
      rw [q] at z
      exact fun H' p kb h2 fq hq => z H' p kb h2 fq hq
    | error y =>
      rw [q] at z
      refine fun H' dd kb h2 hd => ⟨true, TR.te, fun _ ae hae => ?_, fun q => nomatch q⟩
      refine ⟨_, rfl, rfl, rfl, dd, _, _, rfl, hd, lookup_at 0 rfl rfl, (by show 1 ≤ sizeLine; decide), fun p hp => ?_⟩
      exact z _ p (kb.trans (.of (Same.new hp).kp)) (h2.same (Same.new hp)) (kb.free p hp) upd_same
end
end Rf
/-! ## RfN11 -/
namespace Rf
/-! ### a line's calls as one list of numbers -/
def flatOf (x : Km537.Call) : List Nat := (codeOf x).1 :: (codeOf x).2
def manyT : List Nat := [4, 1, 0, 1, 0, 1, 1, 1, 1, 0, 0, 0, 2, 0, 0, 0, 0, 0, 0, 0, 1, 0, 0, 1, 0]
theorem code_many (x : Km537.Call) : manyT[(codeOf x).1]? = some (codeOf x).2.length := by
  cases x <;> rfl
theorem code_shape (x : Km537.Call) : ((codeOf x).1 = 0 → (codeOf x).2.length = 4) ∧ ((codeOf x).1 = 12 → (codeOf x).2.length = 2) := by
  cases x <;> simp [codeOf]
theorem whole_id (c : List (List Int)) : PyKm537.whole c = c := by
  unfold PyKm537.whole
  split <;> rfl
theorem whole_map (cs : List (List (List Int))) : cs.map PyKm537.whole = cs := by
  have : PyKm537.whole = id := by
    funext c
    exact whole_id c
  rw [this, List.map_id]
theorem ite_opt {α : Type} {c : Prop} [Decidable c] {P : α → Prop} {x y : α} (hx : P x) (hy : P y) : P (if c then x else y) := by
  split
  · exact hx
  · exact hy
theorem shape_rows0 (p : Int) : ∀ n k, PyKm537.shape p = some (n, k) → k = 0 := by
  unfold PyKm537.shape
  repeat' refine ite_opt (P := fun o : Option (Nat × Nat) => ∀ n k, o = some (n, k) → k = 0) ?_ ?_
  all_goals
    intro n k h
    first
    | (injection h with h; injection h with h1 h2; exact h2.symm)
    | cases h
theorem shape_rows {p : Int} {n k : Nat} (h : PyKm537.shape p = some (n, k)) : k = 0 := shape_rows0 p n k h
theorem call_is {p : Int} {r : List Int} {c : List (List Int)} {t : List Int} (h : PyFlat.call PyKm537.shape (p :: r) = some (c, t)) : ∃ n, n ≤ r.length ∧ c = [p :: r.take n] ∧ t = r.drop n := by
  have h : (match PyKm537.shape p with
      | none => none
      | some (n, k) => if r.length < n then none else match PyFlat.rows k (r.drop n) with
        | none => none
        | some (xs, t) => some ((p :: r.take n) :: xs, t)) = some (c, t) := h
  cases hs : PyKm537.shape p with
  | none => rw [hs] at h; cases h
  | some nk =>
    obtain ⟨n, k⟩ := nk
    obtain rfl := shape_rows hs
    rw [hs] at h
    have h : (if r.length < n then none else some ((p :: r.take n) :: [], r.drop n)) = some (c, t) := h
    by_cases c1 : r.length < n
    · rw [if_pos c1] at h
      cases h
    · rw [if_neg c1] at h
      injection h with h
      injection h with h1 h2
      exact ⟨n, by omega, h1.symm, h2.symm⟩
theorem calls_flat : ∀ (f : Nat) (l : List Int) (cs : List (List (List Int))), PyFlat.calls PyKm537.shape f l = some cs → (∀ c ∈ cs, c.length = 1) ∧ l = cs.flatMap fun c => c.flatten
  | f, [], cs, h => by
    have h : some [] = some cs := by
      cases f <;> exact h
    injection h with h
    subst h
    simp
  | 0, p :: r, cs, h => by cases h
  | f + 1, p :: r, cs, h => by
    have h : (match PyFlat.call PyKm537.shape (p :: r) with
      | none => none
      | some (c, t) => match PyFlat.calls PyKm537.shape f t with
        | none => none
        | some cs => some (c :: cs)) = some cs := h
    cases hc : PyFlat.call PyKm537.shape (p :: r) with
    | none => rw [hc] at h; cases h
    | some ct =>
      obtain ⟨c, t⟩ := ct
      rw [hc] at h
      have h : (match PyFlat.calls PyKm537.shape f t with
        | none => none
        | some cs => some (c :: cs)) = some cs := h
      obtain ⟨n, hn, rfl, rfl⟩ := call_is hc
      cases hq : PyFlat.calls PyKm537.shape f (r.drop n) with
      | none => rw [hq] at h; cases h
      | some cs' =>
        rw [hq] at h
        have h : some ([p :: r.take n] :: cs') = some cs := h
        injection h with h
        subst h
        obtain ⟨i1, i2⟩ := calls_flat f _ _ hq
        refine ⟨fun c hc => ?_, ?_⟩
        · rcases List.mem_cons.mp hc with e | hc
          · rw [e]; rfl
          · exact i1 c hc
        · rw [List.flatMap_cons, ← i2]
          simp
theorem nat_cast {a : Int} (h : Km537Neutral.natural a = true) : ((a.toNat : Nat) : Int) = a := by
  unfold Km537Neutral.natural at h
  rw [Bool.and_eq_true, decide_eq_true_iff, decide_eq_true_iff] at h
  omega
theorem nats_cast {l : List Int} (h : Km537Neutral.naturals l = true) : ∀ a ∈ l, ((a.toNat : Nat) : Int) = a := fun a ha => by
  unfold Km537Neutral.naturals at h
  rw [List.all_eq_true] at h
  exact nat_cast (h a ha)
theorem asked_call {c : List (List Int)} (h : Km537Neutral.asked1 c = true) : ∃ x, Km537Neutral.callOf c = some x ∧ c = [castR (flatOf x)] := by
  unfold Km537Neutral.asked1 at h
  split at h
  case h_1 a b c d =>
    have z := nats_cast h
    refine ⟨_, rfl, ?_⟩
    show [[0, a, b, c, d]] = [[0, ((a.toNat : Nat) : Int), ((b.toNat : Nat) : Int), ((c.toNat : Nat) : Int), ((d.toNat : Nat) : Int)]]
    rw [z a (by simp), z b (by simp), z c (by simp), z d (by simp)]
  case h_13 a b =>
    have z := nats_cast h
    refine ⟨_, rfl, ?_⟩
    show [[12, a, b]] = [[12, ((a.toNat : Nat) : Int), ((b.toNat : Nat) : Int)]]
    rw [z a (by simp), z b (by simp)]
  all_goals first
    | exact ⟨_, rfl, rfl⟩
    | (rename_i a
       have z := nats_cast h a (by simp)
       refine ⟨_, rfl, ?_⟩
       show [[_, a]] = [[_, ((a.toNat : Nat) : Int)]]
       rw [z]
       rfl)
    | cases h
theorem asked_calls : ∀ (cs : List (List (List Int))), cs.all Km537Neutral.asked1 = true → ∃ xs : List Km537.Call, cs.map Km537Neutral.callOf = xs.map some ∧ cs = xs.map fun x => [castR (flatOf x)]
  | [], _ => ⟨[], rfl, rfl⟩
  | c :: cs, h => by
    rw [List.all_cons, Bool.and_eq_true] at h
    obtain ⟨x, h1, h2⟩ := asked_call h.1
    obtain ⟨xs, h3, h4⟩ := asked_calls cs h.2
    exact ⟨x :: xs, by rw [List.map_cons, List.map_cons, h1, h3], by rw [List.map_cons, ← h2, ← h4]⟩
/-! ### the mirror of answers -/
def told2 (l : List Int) : List Int := (l.length : Int) :: l
def playM (s : Dsk) : List Km537.Call → List Int
  | [] => []
  | x :: xs => told2 (dAnswer s (codeOf x).1 (codeOf x).2).2 ++ playM (dAnswer s (codeOf x).1 (codeOf x).2).1 xs
def afterM (s : Dsk) : List Km537.Call → Dsk
  | [] => s
  | x :: xs => afterM (dAnswer s (codeOf x).1 (codeOf x).2).1 xs
theorem playM_app (s : Dsk) : ∀ (xs ys : List Km537.Call), playM s (xs ++ ys) = playM s xs ++ playM (afterM s xs) ys
  | [], ys => rfl
  | x :: xs, ys => by
    show told2 _ ++ playM _ (xs ++ ys) = (told2 _ ++ playM _ xs) ++ _
    rw [playM_app _ xs ys, List.append_assoc]
    rfl
theorem afterM_app (s : Dsk) : ∀ (xs ys : List Km537.Call), afterM s (xs ++ ys) = afterM (afterM s xs) ys
  | [], ys => rfl
  | x :: xs, ys => afterM_app _ xs ys
theorem play_same : ∀ (xs : List Km537.Call) (s : Dsk) (st : Km537.State), RelS s st → PyFlat.told (PyFlat.played Km537Neutral.step st (xs.map fun x => [castR (flatOf x)])) = playM s xs
  | [], s, st, _ => rfl
  | x :: xs, s, st, h => by
    obtain ⟨h1, h2⟩ := agree_answer h x
    have hc : Km537Neutral.callOf [castR (flatOf x)] = some x := by
      cases x <;> rfl
    have hs : Km537Neutral.step st [castR (flatOf x)] = ((Km537.step st x).1, told1 (Km537.step st x).2) := by
      unfold Km537Neutral.step
      rw [hc]
      rfl
    rw [List.map_cons]
    unfold PyFlat.played
    rw [hs]
    show PyFlat.told (told1 (Km537.step st x).2 :: PyFlat.played Km537Neutral.step (Km537.step st x).1 (xs.map fun x => [castR (flatOf x)])) = told2 (dAnswer s (codeOf x).1 (codeOf x).2).2 ++ playM (dAnswer s (codeOf x).1 (codeOf x).2).1 xs
    rw [← play_same xs _ _ h1, h2]
    rfl
def fresh : Dsk := ⟨none, 0, 0, []⟩
structure Lined (l : List Int) (xs : List Km537.Call) : Prop where
  flat : l = castR (xs.flatMap flatOf)
  out : PyKm537.answers l = playM fresh xs
  few : (playM fresh xs).length ≤ 10000000
theorem castR_flat (xs : List Km537.Call) : (xs.map fun x => [castR (flatOf x)]).flatMap (fun c => c.flatten) = castR (xs.flatMap flatOf) := by
  induction xs with
  | nil => rfl
  | cons x xs ih =>
    rw [List.map_cons, List.flatMap_cons, ih, List.flatMap_cons]
    unfold castR
    rw [List.map_append]
    simp
theorem lined {l : List Int} (h : PyKm537.answers_asked l = true) : ∃ xs, Lined l xs := by
  unfold PyKm537.answers_asked at h
  cases hc : PyFlat.calls PyKm537.shape l.length l with
  | none => rw [hc] at h; cases h
  | some raw =>
    rw [hc] at h
    have h : (!raw.isEmpty && PyFlat.atMost 30 raw && PyInside.calls PyKm537.bound raw && Km537Neutral.asked (raw.map PyKm537.whole) && PyFlat.short 10000000 (PyKm537.answers l)) = true := h
    rw [Bool.and_eq_true, Bool.and_eq_true] at h
    obtain ⟨⟨_, ha⟩, hs⟩ := h
    rw [whole_map] at ha
    unfold Km537Neutral.asked at ha
    rw [Bool.and_eq_true, Bool.and_eq_true] at ha
    obtain ⟨xs, _, hx⟩ := asked_calls raw ha.2.2
    have hf := (calls_flat _ _ _ hc).2
    have hout : PyKm537.answers l = playM fresh xs := by
      unfold PyKm537.answers PyKm537.calls
      rw [hc]
      show PyFlat.told (PyFlat.played Km537Neutral.step Km537Neutral.start (raw.map PyKm537.whole)) = _
      rw [whole_map, hx]
      exact play_same xs fresh none rfl
    refine ⟨xs, ?_, hout, ?_⟩
    · rw [hf, hx, castR_flat]
    · rw [← hout]
      exact of_decide_eq_true hs
end Rf
/-! ## RfW41 -/
namespace Rf
open PySem PySem.Spec PyProof.Rows L2
/-! ### a list of one's own is held still while an expression is walked -/
section
variable {X : Cx} {e : Expr} {t : TE} {pins : List (Addr × Obj)} {σ σ0 : L2.St} {H H0 : Hp} {s s0 : Shared} {fo : Addr} {xs xs0 : List V}
theorem frozen (I : Inv X pins σ H s) (h : H fo = some (.lst xs)) : ∃ o, Inv X pins σ (upd H fo (.frz o (.lst xs))) s := by
  obtain ⟨z, its, n, r, e⟩ := I.hok fo _ h
  exact ⟨_, I.write (x := fo) (e := fo) (h' := s.heap) (t' := s.toks) (by rw [h]; trivial) (.inl rfl) (fun b u _ q => q) ⟨_, e⟩ ⟨e, z, its, n, r, e⟩⟩
theorem thawed {o : Obj} (I0 : Inv X pins σ0 H0 s0) (h0 : H0 fo = some (.lst xs0)) (I : Inv X pins σ H s) (h : H fo = some (.frz o (.lst xs))) : Inv X pins σ (upd H fo (.lst xs)) s := by
  have nn : ∀ b, H b = none → b ≠ fo := fun b n z => by rw [z, h] at n; cases n
  have nt : ∀ b ys, H b = some (.tup ys) → b ≠ fo := fun b ys n z => by rw [z, h] at n; cases n
  have no : ∀ b y, H b = some (.own y) → b ≠ fo := fun b ys n z => by rw [z, h] at n; cases n
  have nb : ∀ b ys, H b = some (.tbl ys) → b ≠ fo := fun b ys n z => by rw [z, h] at n; cases n
  have keep : ∀ b, b ≠ fo → upd H fo (.lst xs) b = H b := fun b n => upd_ne n
  refine ⟨I.ok, I.os, I.bare, ⟨I.base.keep, I.base.slot, fun b ob q n hx => ?_, I.base.there, fun b ys q => ?_, fun b u ys q => ?_, fun b ps q => ?_⟩, I.loc, I.cell, ?_, fun x c q => ?_, fun p hp => ?_, fun b u q => ?_, I.len⟩
  · have := I.base.free b ob q n hx
    rw [keep b (nn b this)]
    exact this
  · have := I.base.tups b ys q
    rw [keep b (nt b ys this)]
    exact this
  · have q1 := I0.base.frzs b u ys q
    have := I.base.frzs b u ys q
    rw [keep b (fun z => by rw [z, h0] at q1; cases q1)]
    exact this
  · obtain ⟨more, this⟩ := I.base.tbls b ps q
    exact ⟨more, by rw [keep b (nb b _ this)]; exact this⟩
  · rw [keep _ (nn _ I.free)]
    exact I.free
  · rw [keep _ (nn _ (I.freeC x c q))]
    exact I.freeC x c q
  · obtain ⟨a, b, c⟩ := I.pin p hp
    exact ⟨a, by rw [keep _ (nn _ b)]; exact b, c⟩
  · have ho : ∀ c y, H c = some (.own y) → upd H fo (.lst xs) c = some (.own y) := fun c y n => by rw [keep c (no c y n)]; exact n
    have ht : ∀ c ys, H c = some (.tup ys) → upd H fo (.lst xs) c = some (.tup ys) := fun c ys n => by rw [keep c (nt c ys n)]; exact n
    by_cases hb : b = fo
    · subst hb
      rw [upd_same] at q
      cases q
      obtain ⟨_, q⟩ := I.hok b _ h
      exact q.stay (fun c v _ z => z) (fun c => ho c b) ht
    · rw [upd_ne hb] at q
      exact (I.hok b u q).stay (fun c v _ z => z) (fun c => ho c b) ht
def tFroze (t : TE) : TE := fun σ H Q => ∃ fo xs, H fo = some (.lst xs) ∧ ∀ o, t σ (upd H fo (.frz o (.lst xs))) fun v H' => H' fo = some (.frz o (.lst xs)) ∧ Q v (upd H' fo (.lst xs))
theorem pe_froze (he : PE X e t) : PE X e (tFroze t) := by
  refine ⟨fun pins s σ H Q I ⟨fo, xs, h, hw⟩ => ?_⟩
  obtain ⟨o, I1⟩ := frozen I h
  exact thn (he.run pins s σ _ _ I1 (hw o)) fun u s1 ⟨v, H', I2, r, hf, q⟩ => ⟨v, _, thawed I h I2 hf, r, q⟩
end
/-! ### the desk stands apart from what is held still -/
section
variable {P : Program} {w : World} {K : PySem.W.Frag} {CD CC : Addr} {H : Hp} {a q fo : Addr} {o : Obj} {ys : List V} {o' : HO}
theorem tup_thaw (hf : H fo = some (.frz o (.lst ys))) {xs : List V} (h : SqT K H q xs) : SqT K (upd H fo o') q xs := by
  rcases h with (h | ⟨o', h⟩) | h
  · exact .inl (.inl (by rw [upd_ne (fun z => by rw [z, hf] at h; cases h)]; exact h))
  · exact .inl (.inr ⟨o', by rw [upd_ne (fun z => by rw [z, hf] at h; cases h)]; exact h⟩)
  · exact .inr h
theorem tups_thaw (hf : H fo = some (.frz o (.lst ys))) : ∀ {ps : List Addr} {rows : List (List Int)}, Tups K H ps rows → Tups K (upd H fo o') ps rows
  | _, _, .nil => .nil
  | _, _, .cons h t => .cons (tup_thaw hf h) (tups_thaw hf t)
theorem lst_thaw (hf : H fo = some (.frz o (.lst ys))) {l : List V} (h : H q = some (.lst l)) : upd H fo o' q = some (.lst l) := by
  rw [upd_ne (fun z => by rw [z, hf] at h; cases h)]
  exact h
theorem lsT_thaw (hf : H fo = some (.frz o (.lst ys))) {rows : List (List Int)} (h : LsT K H q rows) : LsT K (upd H fo o') q rows := by
  obtain ⟨ps, h1, h2⟩ := h
  exact ⟨ps, lst_thaw hf h1, tups_thaw hf h2⟩
theorem lns_thaw (hf : H fo = some (.frz o (.lst ys))) : ∀ {ps : List Addr} {rows : List (List Nat)}, Lns H ps rows → Lns (upd H fo o') ps rows
  | _, _, .nil => .nil
  | _, _, .cons h t => .cons (lst_thaw hf h) (lns_thaw hf t)
theorem lis_thaw (hf : H fo = some (.frz o (.lst ys))) : ∀ {ps : List Addr} {rows : List (List Int)}, Lis H ps rows → Lis (upd H fo o') ps rows
  | _, _, .nil => .nil
  | _, _, .cons h t => .cons (lst_thaw hf h) (lis_thaw hf t)
theorem CaseR.thaw (hf : H fo = some (.frz o (.lst ys))) {ca : Addr} {n e k : Nat} {d : CaseD} (c : CaseR P w K CC H ca n e k d) : CaseR P w K CC (upd H fo o') ca n e k d := by
  have q := c.st
  refine ⟨⟨by rw [upd_ne (fun z => by have := q.obj; rw [z, hf] at this; cases this)]; exact q.obj, lsT_thaw hf q.nm, lsT_thaw hf q.vw, lst_thaw hf q.hd, lns_thaw hf q.hdl, lst_thaw hf q.sd, lis_thaw hf q.sdl, q.good, q.e2⟩, ?_, fun x hx => ?_, c.kok, ?_, fun m' v h => ?_, c.gks, c.gnd⟩
  · rw [upd_ne (fun z => by have := c.kn; rw [z, hf] at this; cases this)]
    exact c.kn
  · obtain ⟨b', h1, h2⟩ := c.kin x hx
    exact ⟨b', by rw [upd_ne (fun z => by rw [z, hf] at h1; cases h1)]; exact h1, by rw [upd_ne (fun z => by rw [z, hf] at h2; cases h2)]; exact h2⟩
  · rw [upd_ne (fun z => by have := c.ga; rw [z, hf] at this; cases this)]
    exact c.ga
  · obtain ⟨mm, q', h1, h2, h3, h4⟩ := c.gok m' v h
    exact ⟨mm, q', h1, h2, h3, lst_thaw hf h4⟩
theorem DeskA.thaw (hf : H fo = some (.frz o (.lst ys))) {s : Dsk} (h : DeskA P w K CD CC H a s) : DeskA P w K CD CC (upd H fo o') a s := by
  rcases h with ⟨h1, dx, nw, h2⟩ | ⟨n, e, k, dx, ca, nw, d, h⟩
  · exact .inl ⟨h1, dx, nw, by rw [upd_ne (fun z => by rw [z, hf] at h2; cases h2)]; exact h2⟩
  · exact .inr ⟨n, e, k, dx, ca, nw, d, by rw [upd_ne (fun z => by have := h.obj; rw [z, hf] at this; cases this)]; exact h.obj, h.cs.thaw hf, tup_thaw hf h.nw, h.eq, h.rule, h.mv, h.mb⟩
/-- a list made no part of the desk -/
theorem DeskA.froze {s : Dsk} (h : DeskA P w K CD CC H a s) (hf : H fo = none) : DeskA P w K CD CC (upd H fo o') a s := h.same (Same.new hf)
theorem KpB.seq {H' : Hp} (s : KpB a H H') (na : H a = none) {xs : List V} (h : SqL K H q xs) : SqL K H' q xs := by
  rcases h with (h | ⟨o, h⟩) | h
  · exact .inl (.inl (s.keep _ _ h rfl (ne_of_none h na)))
  · exact .inl (.inr ⟨o, s.keep _ _ h rfl (ne_of_none h na)⟩)
  · exact .inr h
end
/-! ### answers -/
theorem int_at' {l : List Int} {i : Nat} {z : Int} (h : l[i]? = some z) : (tI l)[i]? = some (.int z) := by
  unfold tI
  rw [List.getElem?_map, h]
  rfl
theorem castR_len (l : List Nat) : (castR l).length = l.length := by unfold castR; rw [List.length_map]
theorem castR_app (a b : List Nat) : castR (a ++ b) = castR a ++ castR b := by unfold castR; rw [List.map_append]
theorem line_at (xs pre post : List Km537.Call) (c : Km537.Call) (h : xs = pre ++ c :: post) :
    castR (xs.flatMap flatOf) = castR (pre.flatMap flatOf) ++ (((codeOf c).1 : Nat) : Int) :: (castR (codeOf c).2 ++ castR (post.flatMap flatOf)) := by
  rw [h, List.flatMap_append, castR_app, List.flatMap_cons, castR_app]
  rfl
theorem mid_at {A B C : List Int} {z : Int} : (A ++ z :: (B ++ C))[A.length]? = some z := by
  rw [List.getElem?_append_right (Nat.le_refl _), Nat.sub_self]
  rfl
theorem mid_cut {A B C : List Int} {z : Int} : cutI (A ++ z :: (B ++ C)) (some ((A.length + 1 : Nat) : Int)) (some ((A.length + 1 + B.length : Nat) : Int)) = B := by
  unfold cutI
  rw [HT.sIx_nat, HT.sIx_nat]
  have hl : (A ++ z :: (B ++ C)).length = A.length + 1 + B.length + C.length := by
    simp only [List.length_append, List.length_cons]
    omega
  rw [Nat.min_eq_left (by omega), Nat.min_eq_left (by omega)]
  have e : A ++ z :: (B ++ C) = (A ++ [z]) ++ (B ++ C) := by simp
  rw [e, List.drop_append_of_le_length (by simp), List.drop_of_length_le (by simp), List.nil_append]
  rw [show A.length + 1 + B.length - (A.length + 1) = B.length by omega]
  simp
theorem flat_snoc (pre : List Km537.Call) (c : Km537.Call) : ((pre ++ [c]).flatMap flatOf).length = (pre.flatMap flatOf).length + 1 + (codeOf c).2.length := by
  rw [List.flatMap_append, List.length_append, List.flatMap_cons, List.flatMap_nil, List.append_nil]
  show _ + ((codeOf c).2.length + 1) = _
  omega
structure ManyT (K : PySem.W.Frag) (mg : Str → Option Value) (t : Addr) : Prop where
  m : mg "MANY_NUMBERS" = some (.ref t)
  t : ∀ H, SqT K H t (tN manyT)
section
variable {P : Program} {w : World} {K : PySem.W.Frag} {mg : Str → Option Value} {base : Heap} {CD CC : Addr}
def spAns (K : PySem.W.Frag) : Sp := fun vs H Q _ => ∃ (p : Addr) (l : List Int) (xs : List Km537.Call), vs = [.ref p] ∧ SqL K H p (tI l) ∧ Lined l xs ∧
  ∀ H' q, H' q = some (.lst (tI (playM fresh xs))) → Q (.ref q) H'
abbrev nAns : List Str := ["calls", "desk", "found", "at", "end", "told"]
theorem sc_ans : FnScope nAns ["calls"] (defScope (top 45)) := ⟨rfl, rfl, rfl, by decide +kernel, rfl, by decide +kernel, by decide +kernel⟩
/-- ahead of a call: what was answered so far, the desk as it stands then -/
structure Going (P : Program) (w : World) (K : PySem.W.Frag) (CD CC : Addr) (H H' : Hp) (a fo : Addr) (pre : List Km537.Call) : Prop where
  kb : KpB a H H'
  obj : H' fo = some (.lst (tI (playM fresh pre)))
  desk : ∀ o', DeskA P w K CD CC (upd H' fo o') a (afterM fresh pre)
theorem ok_ans {t : Addr} (B : Bts mg) (T : DeskTxt K mg CD) (M : ManyT K mg t) {f : Addr} {fd : FuncData} (F : Fun K "answers" "answers" (top 45) f fd) (ID : Ini P w K mg base 1 CD ["self"] (spDesk K CD)) (Ma : Met P w K mg base CX0 14 CD "answer" ["self", "call", "row"] (spAnswer P w K CD CC)) :
    FnOk P w K mg base CX0 15 f fd ["calls"] (spAns K) := by
  refine F.ok sc_ans (fun vs H Q E h => ?_) (fun cdv A outer s H vs Q E hr h => ?_)
  · obtain ⟨p, l, xs, rfl, _⟩ := h
    rfl
  · have nd := sc_ans.nd
    refine ⟨_, pss_cons (ps_set (i := 1) nd rfl (Or.inl rfl) (pe_new0 ID T.gC hr))
      (pss_cons (ps_set (i := 2) nd rfl (Or.inl rfl) (pe_lst pa_nil))
      (pss_cons (ps_set (i := 3) nd rfl (Or.inl rfl) pe_int)
      (pss_cons (ps_while PassesOwn.never (pt_cmpR op_lt (pv 3) (pe_callB call_len_seq rfl B.len bt_len (pa_cons (pv 0) pa_nil)) (nomark _))
        (pss_cons (ps_set (i := 4) nd rfl (Or.inl rfl) (pe_op op_add (pe_op op_add (pv 3) pe_int) (pe_ix ix_tup (pe_glob (v := V.ref t) rfl M.m rfl) (pe_ix ix_list (pv 0) (pv 3) (fun _ _ => rfl)) (fun _ _ => rfl))))
        (pss_cons (ps_set (i := 5) nd rfl (Or.inl rfl) (pe_froze (pe_m T.cl Ma hr (pv 1) (pa_cons (pe_ix ix_list (pv 0) (pv 3) (fun _ _ => rfl)) (pa_cons (pe_slice sl_list (pv 0) (po_some (pe_op op_add (pv 3) pe_int)) (po_some (pv 4))) pa_nil)))))
        (pss_cons (ps_expr (pe_bm PySem.F.plainAttrs_list PySem.F.slot_list_append PySem.F.type_list_append mt_append (pv 2) (pa_cons (pe_callB call_len_seq rfl B.len bt_len (pa_cons (pv 5) pa_nil)) pa_nil)))
        (pss_cons (ps_expr (pe_bm PySem.F.plainAttrs_list PySem.F.slot_list_extend PySem.F.type_list_extend mt_extend (pv 2) (pa_cons (pv 5) pa_nil)))
        (pss_one (ps_set (i := 3) nd rfl (Or.inl rfl) (pv 4))))))))
      (pss_one (ps_ret (pv 2)))))), ?_⟩
    obtain ⟨p, l, xs, rfl, hp, L, z⟩ := h
    intro a dx hna hndx ne
    refine ⟨a, dx, rfl, upd_same, fun H1 nw b1 o1 => ⟨rfl, ?_⟩⟩
    refine ⟨(by show 0 ≤ sizeLine; decide), fun fo hfo => ?_⟩
    have kb1 : KpB a H H1 := ⟨fun b o e0 _ n => b1.keep b o (by rw [upd_ne n, upd_ne (ne_of_none e0 hndx)]; exact e0) n, fun b e0 => by
      have q := b1.free b e0
      by_cases q1 : b = a
      · rw [q1]; exact hna
      · rw [upd_ne q1] at q
        by_cases q2 : b = dx
        · rw [q2]; exact hndx
        · rw [upd_ne q2] at q; exact q⟩
    have hfo0 : H fo = none := kb1.free fo hfo
    have d1 : DeskA P w K CD CC H1 a fresh := .inl ⟨rfl, dx, nw, o1⟩
    have hll : l.length = (xs.flatMap flatOf).length := by rw [L.flat, castR_len]
    have few := L.few
    refine ⟨fun m σ H' => ∃ (pre post : List Km537.Call) (v4 v5 : Option V), xs = pre ++ post ∧ m = post.length ∧ σ = [some (.ref p), some (.ref a), some (.ref fo), some (.int ((pre.flatMap flatOf).length : Nat)), v4, v5] ∧ Going P w K CD CC H H' a fo pre,
      ⟨xs.length, [], xs, none, none, rfl, rfl, rfl, ⟨kb1.trans (.of (Same.new hfo).kp), upd_same, fun o' => by rw [upd_upd]; exact d1.same (Same.new hfo)⟩⟩, ?_⟩
    rintro m σ H' ⟨pre, post, v4, v5, hxs, rfl, rfl, J⟩
    have hl := J.kb.seq hna hp
    refine ⟨_, rfl, _, rfl, p, _, rfl, .inl hl, _, _, rfl, rfl, _, rfl, ?_⟩
    rw [tI_len, hll]
    cases post with
    | nil =>
      have e : pre = xs := by rw [hxs, List.append_nil]
      subst e
      exact if_false_of (decide_eq_false (by omega)) ⟨_, rfl, z _ fo J.obj⟩
    | cons c post =>
      have hlen : (pre.flatMap flatOf).length < (xs.flatMap flatOf).length := by
        rw [hxs, List.flatMap_append, List.length_append, List.flatMap_cons]
        show _ < _ + ((codeOf c).1 :: (codeOf c).2 ++ _).length
        simp only [List.length_append, List.length_cons]
        omega
      refine if_true_of (decide_eq_true (by omega)) ⟨fun σ' H'' => ∃ v4 v5, σ' = [some (.ref p), some (.ref a), some (.ref fo), some (.int (((pre ++ [c]).flatMap flatOf).length : Nat)), v4, v5] ∧ Going P w K CD CC H H'' a fo (pre ++ [c]),
        fun σ' H'' ⟨v4, v5, hs, J'⟩ => ⟨post.length, by simp, pre ++ [c], post, v4, v5, by rw [hxs]; simp, rfl, hs, J'⟩, ?_⟩
      have hline := line_at xs pre post c hxs
      have hlc : l[(pre.flatMap flatOf).length]? = some (((codeOf c).1 : Nat) : Int) := by
        rw [L.flat, hline, ← castR_len (pre.flatMap flatOf)]
        exact mid_at
      have hcut : cutI l (some (((pre.flatMap flatOf).length + 1 : Nat) : Int)) (some (((pre.flatMap flatOf).length + 1 + (codeOf c).2.length : Nat) : Int)) = castR (codeOf c).2 := by
        rw [L.flat, hline, ← castR_len (pre.flatMap flatOf), ← castR_len (codeOf c).2]
        exact mid_cut
      -- end = at + 1 + MANY_NUMBERS[calls[at]]
      refine ⟨_, rfl, _, _, rfl, rfl, _, rfl, _, rfl, p, _, _, _, rfl, rfl, hl, atI_nat (int_at' hlc), t, _, _, _, rfl, rfl, M.t _, atI_nat (nat_at' (code_many c)), _, _, rfl, rfl, ?_⟩
      -- told = desk.answer(calls[at], calls[at + 1:end])
      have few' : (playM fresh pre).length + 1 + (dAnswer (afterM fresh pre) (codeOf c).1 (codeOf c).2).2.length ≤ 10000000 := by
        rw [hxs, playM_app, List.length_append] at few
        have e : playM (afterM fresh pre) (c :: post) = told2 (dAnswer (afterM fresh pre) (codeOf c).1 (codeOf c).2).2 ++ playM (dAnswer (afterM fresh pre) (codeOf c).1 (codeOf c).2).1 post := rfl
        rw [e, List.length_append] at few
        have e2 : (told2 (dAnswer (afterM fresh pre) (codeOf c).1 (codeOf c).2).2).length = (dAnswer (afterM fresh pre) (codeOf c).1 (codeOf c).2).2.length + 1 := rfl
        omega
      have ep : playM fresh (pre ++ [c]) = playM fresh pre ++ told2 (dAnswer (afterM fresh pre) (codeOf c).1 (codeOf c).2).2 := by
        rw [playM_app]
        show _ ++ (told2 _ ++ []) = _
        rw [List.append_nil]
      have ea : afterM fresh (pre ++ [c]) = (dAnswer (afterM fresh pre) (codeOf c).1 (codeOf c).2).1 := afterM_app _ _ _
      have sh : RowShape (codeOf c).1 (codeOf c).2 := ⟨(code_shape c).1, (code_shape c).2⟩
      refine ⟨fo, _, J.obj, fun o => ?_⟩
      have dF' := J.desk (.frz o (.lst (tI (playM fresh pre))))
      have ff : (upd H' fo (.frz o (.lst (tI (playM fresh pre))))) fo = some (.frz o (.lst (tI (playM fresh pre)))) := upd_same
      have kbF : KpB a H (upd H' fo (.frz o (.lst (tI (playM fresh pre))))) := ⟨fun b u e0 cc n => by
          rw [upd_ne (ne_of_none e0 hfo0)]
          exact J.kb.keep b u e0 cc n, fun b e0 => by
          by_cases q : b = fo
          · rw [q]; exact hfo0
          · rw [upd_ne q] at e0; exact J.kb.free b e0⟩
      generalize upd H' fo (.frz o (.lst (tI (playM fresh pre)))) = G at dF' ff kbF ⊢
      obtain ⟨dx', vc, nw', hobj⟩ := dF'.at_
      have nfo : fo ≠ a := fun q => by rw [q, hobj] at ff; cases ff
      have hlF := kbF.seq hna hp
      refine ⟨_, rfl, a, dx', _, rfl, hobj, dF_none (by decide +kernel), _, rfl, _, rfl, p, _, _, _, rfl, rfl, hlF, atI_nat (int_at' hlc), _, rfl, _, rfl, _, _, rfl, rfl, _, rfl, _, rfl, _, rfl, p, _, rfl, hlF, fun q hq => ?_⟩
      have eA : (((pre.flatMap flatOf).length : Nat) : Int) + 1 = (((pre.flatMap flatOf).length + 1 : Nat) : Int) := by omega
      have eB : (((pre.flatMap flatOf).length + 1 : Nat) : Int) + (((codeOf c).2.length : Nat) : Int) = (((pre.flatMap flatOf).length + 1 + (codeOf c).2.length : Nat) : Int) := by omega
      rw [eA, eB, cutI_tI, hcut]
      have sq := Same.new (o := .lst (tI (castR (codeOf c).2))) hq
      refine ⟨a, q, afterM fresh pre, (codeOf c).1, (codeOf c).2, rfl, upd_same, sh, dF'.same sq, fun H2 r kb2 d2 fr hr2 => ?_⟩
      have f2 := kb2.keep fo _ (sq _ _ ff) rfl nfo
      have nr : r ≠ fo := fun z => by rw [z, sq _ _ ff] at fr; cases fr
      refine ⟨f2, ?_⟩
      -- found.append(len(told)); found.extend(told); at = end
      refine ⟨_, rfl, .inl ⟨rfl, _, .of upd_same⟩, _, rfl, r, _, rfl, .inl (.of (by rw [upd_ne nr]; exact hr2)), fo, _, _, rfl, rfl, upd_same, ?_, ?_⟩
      · rw [tI_len]
        show _ < 2 ^ 24
        omega
      refine ⟨_, rfl, .inl ⟨rfl, _, .of upd_same⟩, _, rfl, fo, r, _, _, rfl, rfl, upd_same, by rw [upd_ne nr, upd_ne nr]; exact hr2, ?_, ?_⟩
      · rw [List.length_append, tI_len, tI_len]
        show _ + 1 + _ ≤ 2 ^ 24
        omega
      rw [upd_upd, upd_upd, tI_len]
      have e4 : (((pre.flatMap flatOf).length + 1 : Nat) : Int) + (((codeOf c).2.length : Nat) : Int) = ((((pre ++ [c]).flatMap flatOf).length : Nat) : Int) := by rw [eB, flat_snoc]
      refine ⟨_, rfl, some (.int ((((pre ++ [c]).flatMap flatOf).length : Nat) : Int)), some (.ref r), ?_, ⟨fun b u e0 cc n => ?_, fun b e0 => ?_⟩, ?_, fun o' => ?_⟩
      · rw [← e4]
        rfl
      · rw [upd_ne (ne_of_none e0 hfo0)]
        exact kb2.keep b u (sq _ _ (kbF.keep b u e0 cc n)) cc n
      · by_cases z : b = fo
        · rw [z]; exact hfo0
        · rw [upd_ne z] at e0
          exact kbF.free b (sq.free (kb2.free b e0))
      · rw [upd_same, ep]
        unfold told2
        show some (HO.lst ((tI (playM fresh pre) ++ [V.int _]) ++ tI _)) = some (HO.lst (tI _))
        unfold tI
        rw [List.map_append, List.map_cons, List.append_assoc]
        rfl
      · rw [upd_upd, ea]
        exact d2.thaw f2
end
end Rf
/-! ## RfEnd -/
namespace Rf
open PySem PySem.Spec PyProof.Rows L2
/-! ### what the top has written -/
theorem gdef_mk {K : PySem.W.Frag} {h : Heap} {mg : Str → Option Value} {x : Str} {st : Stmt} {ps : List Str} {f : Addr} {oc : Value} {od an : Option Addr} {sl : Array (Option Value)} {kV dc pm cd ct : Value} (X : K.In h) (G : h.Ns mainGlobals mg)
    (a : PySem.W.nsIn K mainGlobals x = some (some (.ref f))) (l : K.lookup f = some ⟨oc, od, .func (PySem.W.fnOf x x (defArgs st) (defBody st) (defScope st) .none kV dc pm an cd ct), sl⟩) (c : PySem.W.codeIn K cd x = true) (k : PySem.W.keepIn K (.ref f) = true)
    (b : ∀ F : Fun K x x st f (PySem.W.fnOf x x (defArgs st) (defBody st) (defScope st) .none kV dc pm an cd ct), Binds K (PySem.W.fnOf x x (defArgs st) (defBody st) (defScope st) .none kV dc pm an cd ct) ps []) : GDef K mg x st ps :=
  ⟨f, _, fun_mk l c k, PySem.W.mg_of X G a, b (fun_mk l c k)⟩
theorem mdef_mk {K : PySem.W.Frag} {x q : Str} {st : Stmt} {ps : List Str} {f C : Addr} {oc : Value} {od an : Option Addr} {sl : Array (Option Value)} {kV dc pm cd ct : Value}
    (a : PySem.W.findIn K (.ref C) x = some (some (.ref f))) (i : PySem.W.isFn K (.ref f) = true) (l : K.lookup f = some ⟨oc, od, .func (PySem.W.fnOf x q (defArgs st) (defBody st) (defScope st) .none kV dc pm an cd ct), sl⟩) (c : PySem.W.codeIn K cd q = true) (k : PySem.W.keepIn K (.ref f) = true)
    (b : ∀ F : Fun K x q st f (PySem.W.fnOf x q (defArgs st) (defBody st) (defScope st) .none kV dc pm an cd ct), Binds K (PySem.W.fnOf x q (defArgs st) (defBody st) (defScope st) .none kV dc pm an cd ct) ps []) : MDef K C x q st ps :=
  ⟨f, _, fun_mk l c k, ⟨a, i, k⟩, b (fun_mk l c k)⟩
theorem idef_mk {K : PySem.W.Frag} {q : Str} {st : Stmt} {ps : List Str} {f C : Addr} {oc : Value} {od an : Option Addr} {sl : Array (Option Value)} {kV dc pm cd ct : Value}
    (m : PySem.W.makesIn K C = true) (a : PySem.W.findIn K (.ref C) "__init__" = some (some (.ref f))) (i : PySem.W.isFn K (.ref f) = true) (kC : PySem.W.keepIn K (.ref C) = true)
    (l : K.lookup f = some ⟨oc, od, .func (PySem.W.fnOf "__init__" q (defArgs st) (defBody st) (defScope st) .none kV dc pm an cd ct), sl⟩) (c : PySem.W.codeIn K cd q = true) (k : PySem.W.keepIn K (.ref f) = true)
    (b : ∀ F : Fun K "__init__" q st f (PySem.W.fnOf "__init__" q (defArgs st) (defBody st) (defScope st) .none kV dc pm an cd ct), Binds K (PySem.W.fnOf "__init__" q (defArgs st) (defBody st) (defScope st) .none kV dc pm an cd ct) ps []) : IDef K C q st ps :=
  ⟨f, _, fun_mk l c k, ⟨m, a, i, kC⟩, b (fun_mk l c k)⟩
section
variable {K : PySem.W.Frag} {h : Heap} {mg : Str → Option Value} {f C : Addr} {oc : Value} {od an : Option Addr} {sl : Array (Option Value)} {kV dc pm cd ct : Value}
theorem ki_case (m : PySem.W.makesIn K C = true) (a : PySem.W.findIn K (.ref C) "__init__" = some (some (.ref f))) (i : PySem.W.isFn K (.ref f) = true) (kC : PySem.W.keepIn K (.ref C) = true)
    (l : K.lookup f = some ⟨oc, od, .func (PySem.W.fnOf "__init__" "Case.__init__" (defArgs sCase) (defBody sCase) (defScope sCase) .none kV dc pm an cd ct), sl⟩) (c : PySem.W.codeIn K cd "Case.__init__" = true) (k : PySem.W.keepIn K (.ref f) = true) : IDef K C "Case.__init__" sCase pCase :=
  idef_mk m a i kC l c k (fun F => F.binds (ps := pCase) fun _ _ _ _ _ _ us hl => match us, hl with | [_, _, _, _], _ => rfl)
theorem ki_desk (m : PySem.W.makesIn K C = true) (a : PySem.W.findIn K (.ref C) "__init__" = some (some (.ref f))) (i : PySem.W.isFn K (.ref f) = true) (kC : PySem.W.keepIn K (.ref C) = true)
    (l : K.lookup f = some ⟨oc, od, .func (PySem.W.fnOf "__init__" "Desk.__init__" (defArgs sDesk) (defBody sDesk) (defScope sDesk) .none kV dc pm an cd ct), sl⟩) (c : PySem.W.codeIn K cd "Desk.__init__" = true) (k : PySem.W.keepIn K (.ref f) = true) : IDef K C "Desk.__init__" sDesk ["self"] :=
  idef_mk m a i kC l c k (fun F => F.binds (ps := ["self"]) fun _ _ _ _ _ _ us hl => match us, hl with | [_], _ => rfl)
theorem kr_ref (a : PySem.W.findIn K (.ref C) "__init__" = some (some (.ref f))) (y : PySem.W.typeIn K (.ref f) = some (.type "function"))
    (l : K.lookup f = some ⟨oc, od, .func (PySem.W.fnOf "__init__" "Refused.__init__" (defArgs sRefI) (defBody sRefI) (defScope sRefI) .none kV dc pm an cd ct), sl⟩) (c : PySem.W.codeIn K cd "Refused.__init__" = true) (k : PySem.W.keepIn K (.ref f) = true) : RDef K C sRefI :=
  ⟨f, _, fun_mk l c k, a, y, (fun_mk l c k).binds (ps := ["self", "number"]) fun _ _ _ _ _ _ us hl => match us, hl with | [_, _], _ => rfl⟩
structure AnsF (K : PySem.W.Frag) (f : Addr) : Prop where
  ex : ∃ fd : FuncData, Fun K "answers" "answers" (top 45) f fd ∧ ∀ (s : Shared) (us : List Value), us.length = (["calls"] : List Str).length → BindsTo s fd ⟨us, []⟩ ((["calls"] : List Str).zip us)
theorem kf_ans {fa : Addr} (X : K.In h) (G : h.Ns mainGlobals mg) (hfa : mg "answers" = some (.ref fa)) (a : PySem.W.nsIn K mainGlobals "answers" = some (some (.ref f)))
    (l : K.lookup f = some ⟨oc, od, .func (PySem.W.fnOf "answers" "answers" (defArgs (top 45)) (defBody (top 45)) (defScope (top 45)) .none kV dc pm an cd ct), sl⟩) (c : PySem.W.codeIn K cd "answers" = true) (k : PySem.W.keepIn K (.ref f) = true) : AnsF K fa := by
  have e := hfa.symm.trans (PySem.W.mg_of X G a)
  cases e
  exact ⟨_, fun_mk l c k, fun s us hu => match us, hu with | [_], _ => .of_eq rfl⟩
theorem k_bts (X : K.In h) (G : h.Ns mainGlobals mg) (e1 : PySem.W.nsIn K mainGlobals "range" = some none) (e2 : PySem.W.nsIn K mainGlobals "len" = some none) (e3 : PySem.W.nsIn K mainGlobals "min" = some none) (e4 : PySem.W.nsIn K mainGlobals "max" = some none)
    (e5 : PySem.W.nsIn K mainGlobals "sum" = some none) (e6 : PySem.W.nsIn K mainGlobals "sorted" = some none) (e7 : PySem.W.nsIn K mainGlobals "set" = some none) (e8 : PySem.W.nsIn K mainGlobals "tuple" = some none) (e9 : PySem.W.nsIn K mainGlobals "zip" = some none)
    (e10 : PySem.W.nsIn K mainGlobals "list" = some none) (e11 : PySem.W.nsIn K mainGlobals "enumerate" = some none) (e12 : PySem.W.nsIn K mainGlobals "int" = some none) (e13 : PySem.W.nsIn K mainGlobals "dict" = some none) (e14 : PySem.W.nsIn K mainGlobals "any" = some none)
    (e15 : PySem.W.nsIn K mainGlobals "ValueError" = some none) : Bts mg :=
  ⟨PySem.W.mg_none_of X G e1, PySem.W.mg_none_of X G e2, PySem.W.mg_none_of X G e3, PySem.W.mg_none_of X G e4, PySem.W.mg_none_of X G e5, PySem.W.mg_none_of X G e6, PySem.W.mg_none_of X G e7, PySem.W.mg_none_of X G e8, PySem.W.mg_none_of X G e9, PySem.W.mg_none_of X G e10,
    PySem.W.mg_none_of X G e11, PySem.W.mg_none_of X G e12, PySem.W.mg_none_of X G e13, PySem.W.mg_none_of X G e14, PySem.W.mg_none_of X G e15⟩
theorem k_csts {t1 t2 t3 t4 t5 t6 t7 t8 t9 t10 t11 t12 t13 : Nat} (X : K.In h) (G : h.Ns mainGlobals mg) (e1 : PySem.W.nsIn K mainGlobals "ONE_GOES" = some (some (.int 0 t1))) (e2 : PySem.W.nsIn K mainGlobals "SOME_GO" = some (some (.int 1 t2))) (e3 : PySem.W.nsIn K mainGlobals "STAY" = some (some (.int 0 t3)))
    (e4 : PySem.W.nsIn K mainGlobals "BY_LESSER" = some (some (.int 1 t4))) (e5 : PySem.W.nsIn K mainGlobals "MOST_RULES" = some (some (.int 6000 t5))) (e6 : PySem.W.nsIn K mainGlobals "NO_SUCH" = some (some (.int (-2) t6))) (e7 : PySem.W.nsIn K mainGlobals "NOT_MARKED" = some (some (.int (-6) t7)))
    (e8 : PySem.W.nsIn K mainGlobals "NOT_BEGUN" = some (some (.int (-11) t8))) (e9 : PySem.W.nsIn K mainGlobals "MARKED" = some (some (.int (-17) t9))) (e10 : PySem.W.nsIn K mainGlobals "NO_NUMBER" = some (some (.int (-22) t10))) (e11 : PySem.W.nsIn K mainGlobals "TOO_MANY" = some (some (.int (-28) t11)))
    (e12 : PySem.W.nsIn K mainGlobals "NO_RULE" = some (some (.int (-33) t12))) (e13 : PySem.W.nsIn K mainGlobals "MOST_MOVES" = some (some (.int 2 t13))) : Csts mg :=
  ⟨⟨t1, PySem.W.mg_of X G e1⟩, ⟨t2, PySem.W.mg_of X G e2⟩, ⟨t3, PySem.W.mg_of X G e3⟩, ⟨t4, PySem.W.mg_of X G e4⟩, ⟨t5, PySem.W.mg_of X G e5⟩, ⟨t6, PySem.W.mg_of X G e6⟩, ⟨t7, PySem.W.mg_of X G e7⟩, ⟨t8, PySem.W.mg_of X G e8⟩, ⟨t9, PySem.W.mg_of X G e9⟩,
    ⟨t10, PySem.W.mg_of X G e10⟩, ⟨t11, PySem.W.mg_of X G e11⟩, ⟨t12, PySem.W.mg_of X G e12⟩, ⟨t13, PySem.W.mg_of X G e13⟩⟩
theorem k_case (X : K.In h) (G : h.Ns mainGlobals mg) (a : PySem.W.nsIn K mainGlobals "Case" = some (some (.ref C))) (pg : PySem.W.plainGet K C Str.empty = true) (hd : PySem.W.hasDictIn K C = true) (po : PySem.W.plainOver K C = true) (sa : PySem.W.findIn K (.ref C) "__setattr__" = some (some (.builtin "object.__setattr__")))
    (n1 : PySem.W.findIn K (.ref C) "places" = some none) (n2 : PySem.W.findIn K (.ref C) "eyes" = some none) (n3 : PySem.W.findIn K (.ref C) "robots" = some none) (n4 : PySem.W.findIn K (.ref C) "names" = some none) (n5 : PySem.W.findIn K (.ref C) "views" = some none) (n6 : PySem.W.findIn K (.ref C) "had" = some none)
    (n7 : PySem.W.findIn K (.ref C) "sides" = some none) (n8 : PySem.W.findIn K (.ref C) "known" = some none) (n9 : PySem.W.findIn K (.ref C) "gathered" = some none) : CaseTxt K mg C :=
  ⟨⟨pg, hd, po, sa⟩, PySem.W.mg_of X G a, n1, n2, n3, n4, n5, n6, n7, n8, n9⟩
theorem k_desk (X : K.In h) (G : h.Ns mainGlobals mg) (a : PySem.W.nsIn K mainGlobals "Desk" = some (some (.ref C))) (pg : PySem.W.plainGet K C Str.empty = true) (hd : PySem.W.hasDictIn K C = true) (po : PySem.W.plainOver K C = true) (sa : PySem.W.findIn K (.ref C) "__setattr__" = some (some (.builtin "object.__setattr__")))
    (n1 : PySem.W.findIn K (.ref C) "case" = some none) (n2 : PySem.W.findIn K (.ref C) "moves" = some none) (n3 : PySem.W.findIn K (.ref C) "marked" = some none) (n4 : PySem.W.findIn K (.ref C) "now" = some none) : DeskTxt K mg C :=
  ⟨⟨pg, hd, po, sa⟩, PySem.W.mg_of X G a, n1, n2, n3, n4⟩
/-- an error of the class at S is what «except S» names -/
theorem exm_own {S : Addr} (h1 : PySem.W.subIn K (.ref S) (.type "BaseException") = some true) (h2 : PySem.W.isClsIn K S = true) (h3 : PySem.W.typeIn K (.ref S) = some (.type "type")) (h4 : PySem.W.subIn K (.ref S) (.ref S) = some true) :
    PySem.W.exmOne K (.ref S) (.ref S) = some true := by
  have e1 : (PySem.W.subIn K (.ref S) (.type "BaseException") == some true) = true := by rw [h1] <;> rfl
  have e2 : ((PySem.W.clsIn K S).isSome && PySem.W.typeIn K (.ref S) == some (.type "type")) = true := by
    have h2' : (PySem.W.clsIn K S).isSome = true := h2
    rw [h2', h3] <;> rfl
  show (if (PySem.W.subIn K (.ref S) (.type "BaseException") == some true) = true then (if ((PySem.W.clsIn K S).isSome && PySem.W.typeIn K (.ref S) == some (.type "type")) = true then PySem.W.subIn K (.ref S) (.ref S) else none) else none) = some true
  rw [if_pos e1, if_pos e2]
  exact h4
theorem k_ref {nm q : Str} {N : Addr} {bs : List Value} {sn : List Str} {sub : List Value} {ab : Bool} {col : Option Bool} {dd : Option Addr} {m0 m1 m2 m3 m5 : Option Value} (X : K.In h) (G : h.Ns mainGlobals mg) (a : PySem.W.nsIn K mainGlobals "Refused" = some (some (.ref C)))
    (xL : K.lookup C = some (excClassObj nm q C N bs [.type "ValueError", .type "Exception", .type "BaseException", .type "object"] true sn sub ab col dd m0 m1 m2 m3 m5 "ValueError.__new__"))
    (sa : PySem.W.findIn K (.ref C) "__setattr__" = some (some (.builtin "object.__setattr__"))) (ga : PySem.W.findIn K (.ref C) "__getattribute__" = some (some (.builtin "BaseException.__getattribute__"))) (gg : PySem.W.findIn K (.ref C) "__getattr__" = some none) (nb : PySem.W.findIn K (.ref C) "number" = some none)
    (vV : PySem.W.findCls K (.type "ValueError") (.type "type") "__init__" = some (.val (.builtin "ValueError.__init__")))
    (kC : PySem.W.keepIn K (.ref C) = true) (eC : PySem.W.subIn K (.ref C) (.type "BaseException") = some true) (tC : PySem.W.typeIn K (.ref C) = some (.type "type")) (hC : PySem.W.hasDictIn K C = true) (iC : PySem.W.isClsIn K C = true) (sC : PySem.W.subIn K (.ref C) (.ref C) = some true) : RefTxt K mg C :=
  ⟨PySem.W.mg_of X G a, ⟨⟨nm, q, N, bs, _, sn, sub, ab, col, dd, m0, m1, m2, m3, m5, xL, by decide +kernel⟩, sa, eC, tC, kC⟩, vV, nb, exm_own eC iC tC sC, ⟨ga, gg, eC, hC⟩⟩
theorem k_many {t n : Nat} {t0 t1 t2 t3 t4 t5 t6 t7 t8 t9 t10 t11 t12 t13 t14 t15 t16 t17 t18 t19 t20 t21 t22 t23 t24 : Nat} (X : K.In h) (G : h.Ns mainGlobals mg) (a : PySem.W.nsIn K mainGlobals "MANY_NUMBERS" = some (some (.ref t)))
    (l : K.lookup t = some ⟨.type "tuple", od, .seq #[.int 4 t0, .int 1 t1, .int 0 t2, .int 1 t3, .int 0 t4, .int 1 t5, .int 1 t6, .int 1 t7, .int 1 t8, .int 0 t9, .int 0 t10, .int 0 t11, .int 2 t12, .int 0 t13, .int 0 t14, .int 0 t15, .int 0 t16, .int 0 t17, .int 0 t18, .int 0 t19, .int 1 t20, .int 0 t21, .int 0 t22, .int 1 t23, .int 0 t24] n, sl⟩) : ManyT K mg t :=
  ⟨PySem.W.mg_of X G a, fun H => .inr ⟨_, _, n, l, rfl, rfl, (by show 25 ≤ sizeLine; decide), by
    show Vals (tN [4, 1, 0, 1, 0, 1, 1, 1, 1, 0, 0, 0, 2, 0, 0, 0, 0, 0, 0, 0, 1, 0, 0, 1, 0]) _
    repeat' (first | exact Paired.nil | refine Paired.cons ⟨_, rfl⟩ ?_)⟩⟩
end
section
variable {K : PySem.W.Frag} {h : Heap} {mg : Str → Option Value} {f C : Addr} {oc : Value} {od an : Option Addr} {sl : Array (Option Value)} {kV dc pm cd ct : Value}
theorem kg_turned (X : K.In h) (G : h.Ns mainGlobals mg) (a : PySem.W.nsIn K mainGlobals "turned" = some (some (.ref f))) (l : K.lookup f = some ⟨oc, od, .func (PySem.W.fnOf "turned" "turned" (defArgs (top 1)) (defBody (top 1)) (defScope (top 1)) .none kV dc pm an cd ct), sl⟩) (c : PySem.W.codeIn K cd "turned" = true) (k : PySem.W.keepIn K (.ref f) = true) : GDef K mg "turned" (top 1) ["ring", "k"] := gdef_mk X G a l c k (fun F => F.binds (ps := ["ring", "k"]) fun _ _ _ _ _ _ us hl => match us, hl with | [_, _], _ => rfl)
theorem kg_name_of (X : K.In h) (G : h.Ns mainGlobals mg) (a : PySem.W.nsIn K mainGlobals "name_of" = some (some (.ref f))) (l : K.lookup f = some ⟨oc, od, .func (PySem.W.fnOf "name_of" "name_of" (defArgs (top 2)) (defBody (top 2)) (defScope (top 2)) .none kV dc pm an cd ct), sl⟩) (c : PySem.W.codeIn K cd "name_of" = true) (k : PySem.W.keepIn K (.ref f) = true) : GDef K mg "name_of" (top 2) ["ring"] := gdef_mk X G a l c k (fun F => F.binds (ps := ["ring"]) fun _ _ _ _ _ _ us hl => match us, hl with | [_], _ => rfl)
theorem kg_all_rings (X : K.In h) (G : h.Ns mainGlobals mg) (a : PySem.W.nsIn K mainGlobals "all_rings" = some (some (.ref f))) (l : K.lookup f = some ⟨oc, od, .func (PySem.W.fnOf "all_rings" "all_rings" (defArgs (top 3)) (defBody (top 3)) (defScope (top 3)) .none kV dc pm an cd ct), sl⟩) (c : PySem.W.codeIn K cd "all_rings" = true) (k : PySem.W.keepIn K (.ref f) = true) : GDef K mg "all_rings" (top 3) ["places", "robots"] := gdef_mk X G a l c k (fun F => F.binds (ps := ["places", "robots"]) fun _ _ _ _ _ _ us hl => match us, hl with | [_, _], _ => rfl)
theorem kg_all_names (X : K.In h) (G : h.Ns mainGlobals mg) (a : PySem.W.nsIn K mainGlobals "all_names" = some (some (.ref f))) (l : K.lookup f = some ⟨oc, od, .func (PySem.W.fnOf "all_names" "all_names" (defArgs (top 4)) (defBody (top 4)) (defScope (top 4)) .none kV dc pm an cd ct), sl⟩) (c : PySem.W.codeIn K cd "all_names" = true) (k : PySem.W.keepIn K (.ref f) = true) : GDef K mg "all_names" (top 4) ["places", "robots"] := gdef_mk X G a l c k (fun F => F.binds (ps := ["places", "robots"]) fun _ _ _ _ _ _ us hl => match us, hl with | [_, _], _ => rfl)
theorem kg_seen (X : K.In h) (G : h.Ns mainGlobals mg) (a : PySem.W.nsIn K mainGlobals "seen" = some (some (.ref f))) (l : K.lookup f = some ⟨oc, od, .func (PySem.W.fnOf "seen" "seen" (defArgs (top 5)) (defBody (top 5)) (defScope (top 5)) .none kV dc pm an cd ct), sl⟩) (c : PySem.W.codeIn K cd "seen" = true) (k : PySem.W.keepIn K (.ref f) = true) : GDef K mg "seen" (top 5) ["many", "eyes"] := gdef_mk X G a l c k (fun F => F.binds (ps := ["many", "eyes"]) fun _ _ _ _ _ _ us hl => match us, hl with | [_, _], _ => rfl)
theorem kg_row_from (X : K.In h) (G : h.Ns mainGlobals mg) (a : PySem.W.nsIn K mainGlobals "row_from" = some (some (.ref f))) (l : K.lookup f = some ⟨oc, od, .func (PySem.W.fnOf "row_from" "row_from" (defArgs (top 6)) (defBody (top 6)) (defScope (top 6)) .none kV dc pm an cd ct), sl⟩) (c : PySem.W.codeIn K cd "row_from" = true) (k : PySem.W.keepIn K (.ref f) = true) : GDef K mg "row_from" (top 6) ["ring", "place", "eyes", "way"] := gdef_mk X G a l c k (fun F => F.binds (ps := ["ring", "place", "eyes", "way"]) fun _ _ _ _ _ _ us hl => match us, hl with | [_, _, _, _], _ => rfl)
theorem kg_side_of (X : K.In h) (G : h.Ns mainGlobals mg) (a : PySem.W.nsIn K mainGlobals "side_of" = some (some (.ref f))) (l : K.lookup f = some ⟨oc, od, .func (PySem.W.fnOf "side_of" "side_of" (defArgs (top 7)) (defBody (top 7)) (defScope (top 7)) .none kV dc pm an cd ct), sl⟩) (c : PySem.W.codeIn K cd "side_of" = true) (k : PySem.W.keepIn K (.ref f) = true) : GDef K mg "side_of" (top 7) ["ring", "place", "eyes"] := gdef_mk X G a l c k (fun F => F.binds (ps := ["ring", "place", "eyes"]) fun _ _ _ _ _ _ us hl => match us, hl with | [_, _, _], _ => rfl)
theorem kg_view_of (X : K.In h) (G : h.Ns mainGlobals mg) (a : PySem.W.nsIn K mainGlobals "view_of" = some (some (.ref f))) (l : K.lookup f = some ⟨oc, od, .func (PySem.W.fnOf "view_of" "view_of" (defArgs (top 8)) (defBody (top 8)) (defScope (top 8)) .none kV dc pm an cd ct), sl⟩) (c : PySem.W.codeIn K cd "view_of" = true) (k : PySem.W.keepIn K (.ref f) = true) : GDef K mg "view_of" (top 8) ["ring", "place", "eyes"] := gdef_mk X G a l c k (fun F => F.binds (ps := ["ring", "place", "eyes"]) fun _ _ _ _ _ _ us hl => match us, hl with | [_, _, _], _ => rfl)
theorem kg_is_even_handed (X : K.In h) (G : h.Ns mainGlobals mg) (a : PySem.W.nsIn K mainGlobals "is_even_handed" = some (some (.ref f))) (l : K.lookup f = some ⟨oc, od, .func (PySem.W.fnOf "is_even_handed" "is_even_handed" (defArgs (top 9)) (defBody (top 9)) (defScope (top 9)) .none kV dc pm an cd ct), sl⟩) (c : PySem.W.codeIn K cd "is_even_handed" = true) (k : PySem.W.keepIn K (.ref f) = true) : GDef K mg "is_even_handed" (top 9) ["row"] := gdef_mk X G a l c k (fun F => F.binds (ps := ["row"]) fun _ _ _ _ _ _ us hl => match us, hl with | [_], _ => rfl)
theorem kg_had_places (X : K.In h) (G : h.Ns mainGlobals mg) (a : PySem.W.nsIn K mainGlobals "had_places" = some (some (.ref f))) (l : K.lookup f = some ⟨oc, od, .func (PySem.W.fnOf "had_places" "had_places" (defArgs (top 10)) (defBody (top 10)) (defScope (top 10)) .none kV dc pm an cd ct), sl⟩) (c : PySem.W.codeIn K cd "had_places" = true) (k : PySem.W.keepIn K (.ref f) = true) : GDef K mg "had_places" (top 10) ["ring"] := gdef_mk X G a l c k (fun F => F.binds (ps := ["ring"]) fun _ _ _ _ _ _ us hl => match us, hl with | [_], _ => rfl)
theorem kg_all_views (X : K.In h) (G : h.Ns mainGlobals mg) (a : PySem.W.nsIn K mainGlobals "all_views" = some (some (.ref f))) (l : K.lookup f = some ⟨oc, od, .func (PySem.W.fnOf "all_views" "all_views" (defArgs (top 11)) (defBody (top 11)) (defScope (top 11)) .none kV dc pm an cd ct), sl⟩) (c : PySem.W.codeIn K cd "all_views" = true) (k : PySem.W.keepIn K (.ref f) = true) : GDef K mg "all_views" (top 11) ["names", "eyes"] := gdef_mk X G a l c k (fun F => F.binds (ps := ["names", "eyes"]) fun _ _ _ _ _ _ us hl => match us, hl with | [_, _], _ => rfl)
theorem kg_goings (X : K.In h) (G : h.Ns mainGlobals mg) (a : PySem.W.nsIn K mainGlobals "goings" = some (some (.ref f))) (l : K.lookup f = some ⟨oc, od, .func (PySem.W.fnOf "goings" "goings" (defArgs (top 17)) (defBody (top 17)) (defScope (top 17)) .none kV dc pm an cd ct), sl⟩) (c : PySem.W.codeIn K cd "goings" = true) (k : PySem.W.keepIn K (.ref f) = true) : GDef K mg "goings" (top 17) ["many", "side", "done"] := gdef_mk X G a l c k (fun F => F.binds (ps := ["many", "side", "done"]) fun _ _ _ _ _ _ us hl => match us, hl with | [_, _, _], _ => rfl)
theorem kg_all_goings (X : K.In h) (G : h.Ns mainGlobals mg) (a : PySem.W.nsIn K mainGlobals "all_goings" = some (some (.ref f))) (l : K.lookup f = some ⟨oc, od, .func (PySem.W.fnOf "all_goings" "all_goings" (defArgs (top 18)) (defBody (top 18)) (defScope (top 18)) .none kV dc pm an cd ct), sl⟩) (c : PySem.W.codeIn K cd "all_goings" = true) (k : PySem.W.keepIn K (.ref f) = true) : GDef K mg "all_goings" (top 18) ["ring", "sides", "deeds"] := gdef_mk X G a l c k (fun F => F.binds (ps := ["ring", "sides", "deeds"]) fun _ _ _ _ _ _ us hl => match us, hl with | [_, _, _], _ => rfl)
theorem kg_gone (X : K.In h) (G : h.Ns mainGlobals mg) (a : PySem.W.nsIn K mainGlobals "gone" = some (some (.ref f))) (l : K.lookup f = some ⟨oc, od, .func (PySem.W.fnOf "gone" "gone" (defArgs (top 19)) (defBody (top 19)) (defScope (top 19)) .none kV dc pm an cd ct), sl⟩) (c : PySem.W.codeIn K cd "gone" = true) (k : PySem.W.keepIn K (.ref f) = true) : GDef K mg "gone" (top 19) ["ring", "row"] := gdef_mk X G a l c k (fun F => F.binds (ps := ["ring", "row"]) fun _ _ _ _ _ _ us hl => match us, hl with | [_, _], _ => rfl)
theorem kg_how_many (X : K.In h) (G : h.Ns mainGlobals mg) (a : PySem.W.nsIn K mainGlobals "how_many" = some (some (.ref f))) (l : K.lookup f = some ⟨oc, od, .func (PySem.W.fnOf "how_many" "how_many" (defArgs (top 20)) (defBody (top 20)) (defScope (top 20)) .none kV dc pm an cd ct), sl⟩) (c : PySem.W.codeIn K cd "how_many" = true) (k : PySem.W.keepIn K (.ref f) = true) : GDef K mg "how_many" (top 20) ["row"] := gdef_mk X G a l c k (fun F => F.binds (ps := ["row"]) fun _ _ _ _ _ _ us hl => match us, hl with | [_], _ => rfl)
theorem kg_may_be (X : K.In h) (G : h.Ns mainGlobals mg) (a : PySem.W.nsIn K mainGlobals "may_be" = some (some (.ref f))) (l : K.lookup f = some ⟨oc, od, .func (PySem.W.fnOf "may_be" "may_be" (defArgs (top 21)) (defBody (top 21)) (defScope (top 21)) .none kV dc pm an cd ct), sl⟩) (c : PySem.W.codeIn K cd "may_be" = true) (k : PySem.W.keepIn K (.ref f) = true) : GDef K mg "may_be" (top 21) nMay := gdef_mk X G a l c k (fun F => F.binds (ps := nMay) fun _ _ _ _ _ _ us hl => match us, hl with | [_, _, _], _ => rfl)
theorem kg_rings_behind (X : K.In h) (G : h.Ns mainGlobals mg) (a : PySem.W.nsIn K mainGlobals "rings_behind" = some (some (.ref f))) (l : K.lookup f = some ⟨oc, od, .func (PySem.W.fnOf "rings_behind" "rings_behind" (defArgs (top 22)) (defBody (top 22)) (defScope (top 22)) .none kV dc pm an cd ct), sl⟩) (c : PySem.W.codeIn K cd "rings_behind" = true) (k : PySem.W.keepIn K (.ref f) = true) : GDef K mg "rings_behind" (top 22) ["ring", "sides", "deeds", "moves"] := gdef_mk X G a l c k (fun F => F.binds (ps := ["ring", "sides", "deeds", "moves"]) fun _ _ _ _ _ _ us hl => match us, hl with | [_, _, _, _], _ => rfl)
theorem kg_bits_of (X : K.In h) (G : h.Ns mainGlobals mg) (a : PySem.W.nsIn K mainGlobals "bits_of" = some (some (.ref f))) (l : K.lookup f = some ⟨oc, od, .func (PySem.W.fnOf "bits_of" "bits_of" (defArgs (top 26)) (defBody (top 26)) (defScope (top 26)) .none kV dc pm an cd ct), sl⟩) (c : PySem.W.codeIn K cd "bits_of" = true) (k : PySem.W.keepIn K (.ref f) = true) : GDef K mg "bits_of" (top 26) ["numbers"] := gdef_mk X G a l c k (fun F => F.binds (ps := ["numbers"]) fun _ _ _ _ _ _ us hl => match us, hl with | [_], _ => rfl)
theorem kg_members (X : K.In h) (G : h.Ns mainGlobals mg) (a : PySem.W.nsIn K mainGlobals "members" = some (some (.ref f))) (l : K.lookup f = some ⟨oc, od, .func (PySem.W.fnOf "members" "members" (defArgs (top 27)) (defBody (top 27)) (defScope (top 27)) .none kV dc pm an cd ct), sl⟩) (c : PySem.W.codeIn K cd "members" = true) (k : PySem.W.keepIn K (.ref f) = true) : GDef K mg "members" (top 27) ["bits"] := gdef_mk X G a l c k (fun F => F.binds (ps := ["bits"]) fun _ _ _ _ _ _ us hl => match us, hl with | [_], _ => rfl)
theorem kg_sets_of (X : K.In h) (G : h.Ns mainGlobals mg) (a : PySem.W.nsIn K mainGlobals "sets_of" = some (some (.ref f))) (l : K.lookup f = some ⟨oc, od, .func (PySem.W.fnOf "sets_of" "sets_of" (defArgs (top 28)) (defBody (top 28)) (defScope (top 28)) .none kV dc pm an cd ct), sl⟩) (c : PySem.W.codeIn K cd "sets_of" = true) (k : PySem.W.keepIn K (.ref f) = true) : GDef K mg "sets_of" (top 28) ["numbers", "many"] := gdef_mk X G a l c k (fun F => F.binds (ps := ["numbers", "many"]) fun _ _ _ _ _ _ us hl => match us, hl with | [_, _], _ => rfl)
theorem kg_fewest_not_gathered (X : K.In h) (G : h.Ns mainGlobals mg) (a : PySem.W.nsIn K mainGlobals "fewest_not_gathered" = some (some (.ref f))) (l : K.lookup f = some ⟨oc, od, .func (PySem.W.fnOf "fewest_not_gathered" "fewest_not_gathered" (defArgs (top 29)) (defBody (top 29)) (defScope (top 29)) .none kV dc pm an cd ct), sl⟩) (c : PySem.W.codeIn K cd "fewest_not_gathered" = true) (k : PySem.W.keepIn K (.ref f) = true) : GDef K mg "fewest_not_gathered" (top 29) ["gathered", "marked"] := gdef_mk X G a l c k (fun F => F.binds (ps := ["gathered", "marked"]) fun _ _ _ _ _ _ us hl => match us, hl with | [_, _], _ => rfl)
theorem kd_CC_views_in (a : PySem.W.findIn K (.ref C) "views_in" = some (some (.ref f))) (i : PySem.W.isFn K (.ref f) = true) (l : K.lookup f = some ⟨oc, od, .func (PySem.W.fnOf "views_in" "Case.views_in" (defArgs sVin) (defBody sVin) (defScope sVin) .none kV dc pm an cd ct), sl⟩) (c : PySem.W.codeIn K cd "Case.views_in" = true) (k : PySem.W.keepIn K (.ref f) = true) : MDef K C "views_in" "Case.views_in" sVin ["self", "ring"] := mdef_mk a i l c k (fun F => F.binds (ps := ["self", "ring"]) fun _ _ _ _ _ _ us hl => match us, hl with | [_, _], _ => rfl)
theorem kd_CC_deeds_of (a : PySem.W.findIn K (.ref C) "deeds_of" = some (some (.ref f))) (i : PySem.W.isFn K (.ref f) = true) (l : K.lookup f = some ⟨oc, od, .func (PySem.W.fnOf "deeds_of" "Case.deeds_of" (defArgs sDeeds) (defBody sDeeds) (defScope sDeeds) .none kV dc pm an cd ct), sl⟩) (c : PySem.W.codeIn K cd "Case.deeds_of" = true) (k : PySem.W.keepIn K (.ref f) = true) : MDef K C "deeds_of" "Case.deeds_of" sDeeds ["self", "view"] := mdef_mk a i l c k (fun F => F.binds (ps := ["self", "view"]) fun _ _ _ _ _ _ us hl => match us, hl with | [_, _], _ => rfl)
theorem kd_CC_many_rules (a : PySem.W.findIn K (.ref C) "many_rules" = some (some (.ref f))) (i : PySem.W.isFn K (.ref f) = true) (l : K.lookup f = some ⟨oc, od, .func (PySem.W.fnOf "many_rules" "Case.many_rules" (defArgs sMany) (defBody sMany) (defScope sMany) .none kV dc pm an cd ct), sl⟩) (c : PySem.W.codeIn K cd "Case.many_rules" = true) (k : PySem.W.keepIn K (.ref f) = true) : MDef K C "many_rules" "Case.many_rules" sMany ["self"] := mdef_mk a i l c k (fun F => F.binds (ps := ["self"]) fun _ _ _ _ _ _ us hl => match us, hl with | [_], _ => rfl)
theorem kd_CC_rules (a : PySem.W.findIn K (.ref C) "rules" = some (some (.ref f))) (i : PySem.W.isFn K (.ref f) = true) (l : K.lookup f = some ⟨oc, od, .func (PySem.W.fnOf "rules" "Case.rules" (defArgs sRules) (defBody sRules) (defScope sRules) .none kV dc pm an cd ct), sl⟩) (c : PySem.W.codeIn K cd "Case.rules" = true) (k : PySem.W.keepIn K (.ref f) = true) : MDef K C "rules" "Case.rules" sRules ["self"] := mdef_mk a i l c k (fun F => F.binds (ps := ["self"]) fun _ _ _ _ _ _ us hl => match us, hl with | [_], _ => rfl)
theorem kd_CC_behind (a : PySem.W.findIn K (.ref C) "behind" = some (some (.ref f))) (i : PySem.W.isFn K (.ref f) = true) (l : K.lookup f = some ⟨oc, od, .func (PySem.W.fnOf "behind" "Case.behind" (defArgs sBehind) (defBody sBehind) (defScope sBehind) .none kV dc pm an cd ct), sl⟩) (c : PySem.W.codeIn K cd "Case.behind" = true) (k : PySem.W.keepIn K (.ref f) = true) : MDef K C "behind" "Case.behind" sBehind pBehind := mdef_mk a i l c k (fun F => F.binds (ps := pBehind) fun _ _ _ _ _ _ us hl => match us, hl with | [_, _, _, _], _ => rfl)
theorem kd_CC_step (a : PySem.W.findIn K (.ref C) "step" = some (some (.ref f))) (i : PySem.W.isFn K (.ref f) = true) (l : K.lookup f = some ⟨oc, od, .func (PySem.W.fnOf "step" "Case.step" (defArgs sStep) (defBody sStep) (defScope sStep) .none kV dc pm an cd ct), sl⟩) (c : PySem.W.codeIn K cd "Case.step" = true) (k : PySem.W.keepIn K (.ref f) = true) : MDef K C "step" "Case.step" sStep pStep := mdef_mk a i l c k (fun F => F.binds (ps := pStep) fun _ _ _ _ _ _ us hl => match us, hl with | [_, _, _, _], _ => rfl)
theorem kd_CC_gathers (a : PySem.W.findIn K (.ref C) "gathers" = some (some (.ref f))) (i : PySem.W.isFn K (.ref f) = true) (l : K.lookup f = some ⟨oc, od, .func (PySem.W.fnOf "gathers" "Case.gathers" (defArgs sGath) (defBody sGath) (defScope sGath) .none kV dc pm an cd ct), sl⟩) (c : PySem.W.codeIn K cd "Case.gathers" = true) (k : PySem.W.keepIn K (.ref f) = true) : MDef K C "gathers" "Case.gathers" sGath pGath := mdef_mk a i l c k (fun F => F.binds (ps := pGath) fun _ _ _ _ _ _ us hl => match us, hl with | [_, _, _], _ => rfl)
theorem kd_CC_all_gathered (a : PySem.W.findIn K (.ref C) "all_gathered" = some (some (.ref f))) (i : PySem.W.isFn K (.ref f) = true) (l : K.lookup f = some ⟨oc, od, .func (PySem.W.fnOf "all_gathered" "Case.all_gathered" (defArgs sAllGa) (defBody sAllGa) (defScope sAllGa) .none kV dc pm an cd ct), sl⟩) (c : PySem.W.codeIn K cd "Case.all_gathered" = true) (k : PySem.W.keepIn K (.ref f) = true) : MDef K C "all_gathered" "Case.all_gathered" sAllGa ["self", "moves"] := mdef_mk a i l c k (fun F => F.binds (ps := ["self", "moves"]) fun _ _ _ _ _ _ us hl => match us, hl with | [_, _], _ => rfl)
theorem kg_refuse (X : K.In h) (G : h.Ns mainGlobals mg) (a : PySem.W.nsIn K mainGlobals "refuse" = some (some (.ref f))) (l : K.lookup f = some ⟨oc, od, .func (PySem.W.fnOf "refuse" "refuse" (defArgs (top 40)) (defBody (top 40)) (defScope (top 40)) .none kV dc pm an cd ct), sl⟩) (c : PySem.W.codeIn K cd "refuse" = true) (k : PySem.W.keepIn K (.ref f) = true) : GDef K mg "refuse" (top 40) ["bad", "number"] := gdef_mk X G a l c k (fun F => F.binds (ps := ["bad", "number"]) fun _ _ _ _ _ _ us hl => match us, hl with | [_, _], _ => rfl)
theorem kg_counted (X : K.In h) (G : h.Ns mainGlobals mg) (a : PySem.W.nsIn K mainGlobals "counted" = some (some (.ref f))) (l : K.lookup f = some ⟨oc, od, .func (PySem.W.fnOf "counted" "counted" (defArgs (top 41)) (defBody (top 41)) (defScope (top 41)) .none kV dc pm an cd ct), sl⟩) (c : PySem.W.codeIn K cd "counted" = true) (k : PySem.W.keepIn K (.ref f) = true) : GDef K mg "counted" (top 41) ["row"] := gdef_mk X G a l c k (fun F => F.binds (ps := ["row"]) fun _ _ _ _ _ _ us hl => match us, hl with | [_], _ => rfl)
theorem kd_CD_need_name (a : PySem.W.findIn K (.ref C) "need_name" = some (some (.ref f))) (i : PySem.W.isFn K (.ref f) = true) (l : K.lookup f = some ⟨oc, od, .func (PySem.W.fnOf "need_name" "Desk.need_name" (defArgs sNeedN) (defBody sNeedN) (defScope sNeedN) .none kV dc pm an cd ct), sl⟩) (c : PySem.W.codeIn K cd "Desk.need_name" = true) (k : PySem.W.keepIn K (.ref f) = true) : MDef K C "need_name" "Desk.need_name" sNeedN ["self", "i"] := mdef_mk a i l c k (fun F => F.binds (ps := ["self", "i"]) fun _ _ _ _ _ _ us hl => match us, hl with | [_, _], _ => rfl)
theorem kd_CD_need_view (a : PySem.W.findIn K (.ref C) "need_view" = some (some (.ref f))) (i : PySem.W.isFn K (.ref f) = true) (l : K.lookup f = some ⟨oc, od, .func (PySem.W.fnOf "need_view" "Desk.need_view" (defArgs sNeedV) (defBody sNeedV) (defScope sNeedV) .none kV dc pm an cd ct), sl⟩) (c : PySem.W.codeIn K cd "Desk.need_view" = true) (k : PySem.W.keepIn K (.ref f) = true) : MDef K C "need_view" "Desk.need_view" sNeedV ["self", "v"] := mdef_mk a i l c k (fun F => F.binds (ps := ["self", "v"]) fun _ _ _ _ _ _ us hl => match us, hl with | [_, _], _ => rfl)
theorem kd_CD_set_moves (a : PySem.W.findIn K (.ref C) "set_moves" = some (some (.ref f))) (i : PySem.W.isFn K (.ref f) = true) (l : K.lookup f = some ⟨oc, od, .func (PySem.W.fnOf "set_moves" "Desk.set_moves" (defArgs sSetM) (defBody sSetM) (defScope sSetM) .none kV dc pm an cd ct), sl⟩) (c : PySem.W.codeIn K cd "Desk.set_moves" = true) (k : PySem.W.keepIn K (.ref f) = true) : MDef K C "set_moves" "Desk.set_moves" sSetM ["self", "moves"] := mdef_mk a i l c k (fun F => F.binds (ps := ["self", "moves"]) fun _ _ _ _ _ _ us hl => match us, hl with | [_, _], _ => rfl)
theorem kd_CD_name (a : PySem.W.findIn K (.ref C) "name" = some (some (.ref f))) (i : PySem.W.isFn K (.ref f) = true) (l : K.lookup f = some ⟨oc, od, .func (PySem.W.fnOf "name" "Desk.name" (defArgs sNm) (defBody sNm) (defScope sNm) .none kV dc pm an cd ct), sl⟩) (c : PySem.W.codeIn K cd "Desk.name" = true) (k : PySem.W.keepIn K (.ref f) = true) : MDef K C "name" "Desk.name" sNm ["self", "i"] := mdef_mk a i l c k (fun F => F.binds (ps := ["self", "i"]) fun _ _ _ _ _ _ us hl => match us, hl with | [_, _], _ => rfl)
theorem kd_CD_view (a : PySem.W.findIn K (.ref C) "view" = some (some (.ref f))) (i : PySem.W.isFn K (.ref f) = true) (l : K.lookup f = some ⟨oc, od, .func (PySem.W.fnOf "view" "Desk.view" (defArgs sVw) (defBody sVw) (defScope sVw) .none kV dc pm an cd ct), sl⟩) (c : PySem.W.codeIn K cd "Desk.view" = true) (k : PySem.W.keepIn K (.ref f) = true) : MDef K C "view" "Desk.view" sVw ["self", "v"] := mdef_mk a i l c k (fun F => F.binds (ps := ["self", "v"]) fun _ _ _ _ _ _ us hl => match us, hl with | [_, _], _ => rfl)
theorem kd_CD_put_marks (a : PySem.W.findIn K (.ref C) "put_marks" = some (some (.ref f))) (i : PySem.W.isFn K (.ref f) = true) (l : K.lookup f = some ⟨oc, od, .func (PySem.W.fnOf "put_marks" "Desk.put_marks" (defArgs sPut) (defBody sPut) (defScope sPut) .none kV dc pm an cd ct), sl⟩) (c : PySem.W.codeIn K cd "Desk.put_marks" = true) (k : PySem.W.keepIn K (.ref f) = true) : MDef K C "put_marks" "Desk.put_marks" sPut ["self", "bits"] := mdef_mk a i l c k (fun F => F.binds (ps := ["self", "bits"]) fun _ _ _ _ _ _ us hl => match us, hl with | [_, _], _ => rfl)
theorem kd_CD_mark (a : PySem.W.findIn K (.ref C) "mark" = some (some (.ref f))) (i : PySem.W.isFn K (.ref f) = true) (l : K.lookup f = some ⟨oc, od, .func (PySem.W.fnOf "mark" "Desk.mark" (defArgs sMark) (defBody sMark) (defScope sMark) .none kV dc pm an cd ct), sl⟩) (c : PySem.W.codeIn K cd "Desk.mark" = true) (k : PySem.W.keepIn K (.ref f) = true) : MDef K C "mark" "Desk.mark" sMark ["self", "i"] := mdef_mk a i l c k (fun F => F.binds (ps := ["self", "i"]) fun _ _ _ _ _ _ us hl => match us, hl with | [_, _], _ => rfl)
theorem kd_CD_unmark (a : PySem.W.findIn K (.ref C) "unmark" = some (some (.ref f))) (i : PySem.W.isFn K (.ref f) = true) (l : K.lookup f = some ⟨oc, od, .func (PySem.W.fnOf "unmark" "Desk.unmark" (defArgs sUnmark) (defBody sUnmark) (defScope sUnmark) .none kV dc pm an cd ct), sl⟩) (c : PySem.W.codeIn K cd "Desk.unmark" = true) (k : PySem.W.keepIn K (.ref f) = true) : MDef K C "unmark" "Desk.unmark" sUnmark ["self", "i"] := mdef_mk a i l c k (fun F => F.binds (ps := ["self", "i"]) fun _ _ _ _ _ _ us hl => match us, hl with | [_, _], _ => rfl)
theorem kd_CD_mark_apart (a : PySem.W.findIn K (.ref C) "mark_apart" = some (some (.ref f))) (i : PySem.W.isFn K (.ref f) = true) (l : K.lookup f = some ⟨oc, od, .func (PySem.W.fnOf "mark_apart" "Desk.mark_apart" (defArgs sApart) (defBody sApart) (defScope sApart) .none kV dc pm an cd ct), sl⟩) (c : PySem.W.codeIn K cd "Desk.mark_apart" = true) (k : PySem.W.keepIn K (.ref f) = true) : MDef K C "mark_apart" "Desk.mark_apart" sApart ["self"] := mdef_mk a i l c k (fun F => F.binds (ps := ["self"]) fun _ _ _ _ _ _ us hl => match us, hl with | [_], _ => rfl)
theorem kd_CD_what_rules_do (a : PySem.W.findIn K (.ref C) "what_rules_do" = some (some (.ref f))) (i : PySem.W.isFn K (.ref f) = true) (l : K.lookup f = some ⟨oc, od, .func (PySem.W.fnOf "what_rules_do" "Desk.what_rules_do" (defArgs sWhat) (defBody sWhat) (defScope sWhat) .none kV dc pm an cd ct), sl⟩) (c : PySem.W.codeIn K cd "Desk.what_rules_do" = true) (k : PySem.W.keepIn K (.ref f) = true) : MDef K C "what_rules_do" "Desk.what_rules_do" sWhat ["self", "moves"] := mdef_mk a i l c k (fun F => F.binds (ps := ["self", "moves"]) fun _ _ _ _ _ _ us hl => match us, hl with | [_, _], _ => rfl)
theorem kd_CD_is_good (a : PySem.W.findIn K (.ref C) "is_good" = some (some (.ref f))) (i : PySem.W.isFn K (.ref f) = true) (l : K.lookup f = some ⟨oc, od, .func (PySem.W.fnOf "is_good" "Desk.is_good" (defArgs sIsG) (defBody sIsG) (defScope sIsG) .none kV dc pm an cd ct), sl⟩) (c : PySem.W.codeIn K cd "Desk.is_good" = true) (k : PySem.W.keepIn K (.ref f) = true) : MDef K C "is_good" "Desk.is_good" sIsG ["self", "bits"] := mdef_mk a i l c k (fun F => F.binds (ps := ["self", "bits"]) fun _ _ _ _ _ _ us hl => match us, hl with | [_, _], _ => rfl)
theorem kd_CD_good_places (a : PySem.W.findIn K (.ref C) "good_places" = some (some (.ref f))) (i : PySem.W.isFn K (.ref f) = true) (l : K.lookup f = some ⟨oc, od, .func (PySem.W.fnOf "good_places" "Desk.good_places" (defArgs sGoodP) (defBody sGoodP) (defScope sGoodP) .none kV dc pm an cd ct), sl⟩) (c : PySem.W.codeIn K cd "Desk.good_places" = true) (k : PySem.W.keepIn K (.ref f) = true) : MDef K C "good_places" "Desk.good_places" sGoodP ["self", "moves"] := mdef_mk a i l c k (fun F => F.binds (ps := ["self", "moves"]) fun _ _ _ _ _ _ us hl => match us, hl with | [_, _], _ => rfl)
theorem kd_CD_nth_good (a : PySem.W.findIn K (.ref C) "nth_good" = some (some (.ref f))) (i : PySem.W.isFn K (.ref f) = true) (l : K.lookup f = some ⟨oc, od, .func (PySem.W.fnOf "nth_good" "Desk.nth_good" (defArgs sNth) (defBody sNth) (defScope sNth) .none kV dc pm an cd ct), sl⟩) (c : PySem.W.codeIn K cd "Desk.nth_good" = true) (k : PySem.W.keepIn K (.ref f) = true) : MDef K C "nth_good" "Desk.nth_good" sNth ["self", "i"] := mdef_mk a i l c k (fun F => F.binds (ps := ["self", "i"]) fun _ _ _ _ _ _ us hl => match us, hl with | [_, _], _ => rfl)
theorem kd_CD_take (a : PySem.W.findIn K (.ref C) "take" = some (some (.ref f))) (i : PySem.W.isFn K (.ref f) = true) (l : K.lookup f = some ⟨oc, od, .func (PySem.W.fnOf "take" "Desk.take" (defArgs sTake) (defBody sTake) (defScope sTake) .none kV dc pm an cd ct), sl⟩) (c : PySem.W.codeIn K cd "Desk.take" = true) (k : PySem.W.keepIn K (.ref f) = true) : MDef K C "take" "Desk.take" sTake ["self"] := mdef_mk a i l c k (fun F => F.binds (ps := ["self"]) fun _ _ _ _ _ _ us hl => match us, hl with | [_], _ => rfl)
theorem kd_CD_good (a : PySem.W.findIn K (.ref C) "good" = some (some (.ref f))) (i : PySem.W.isFn K (.ref f) = true) (l : K.lookup f = some ⟨oc, od, .func (PySem.W.fnOf "good" "Desk.good" (defArgs sGood) (defBody sGood) (defScope sGood) .none kV dc pm an cd ct), sl⟩) (c : PySem.W.codeIn K cd "Desk.good" = true) (k : PySem.W.keepIn K (.ref f) = true) : MDef K C "good" "Desk.good" sGood ["self"] := mdef_mk a i l c k (fun F => F.binds (ps := ["self"]) fun _ _ _ _ _ _ us hl => match us, hl with | [_], _ => rfl)
theorem kd_CD_told (a : PySem.W.findIn K (.ref C) "told" = some (some (.ref f))) (i : PySem.W.isFn K (.ref f) = true) (l : K.lookup f = some ⟨oc, od, .func (PySem.W.fnOf "told" "Desk.told" (defArgs sTold) (defBody sTold) (defScope sTold) .none kV dc pm an cd ct), sl⟩) (c : PySem.W.codeIn K cd "Desk.told" = true) (k : PySem.W.keepIn K (.ref f) = true) : MDef K C "told" "Desk.told" sTold ["self"] := mdef_mk a i l c k (fun F => F.binds (ps := ["self"]) fun _ _ _ _ _ _ us hl => match us, hl with | [_], _ => rfl)
theorem kd_CD_who (a : PySem.W.findIn K (.ref C) "who" = some (some (.ref f))) (i : PySem.W.isFn K (.ref f) = true) (l : K.lookup f = some ⟨oc, od, .func (PySem.W.fnOf "who" "Desk.who" (defArgs sWho) (defBody sWho) (defScope sWho) .none kV dc pm an cd ct), sl⟩) (c : PySem.W.codeIn K cd "Desk.who" = true) (k : PySem.W.keepIn K (.ref f) = true) : MDef K C "who" "Desk.who" sWho ["self", "i"] := mdef_mk a i l c k (fun F => F.binds (ps := ["self", "i"]) fun _ _ _ _ _ _ us hl => match us, hl with | [_, _], _ => rfl)
theorem kd_CD_tell (a : PySem.W.findIn K (.ref C) "tell" = some (some (.ref f))) (i : PySem.W.isFn K (.ref f) = true) (l : K.lookup f = some ⟨oc, od, .func (PySem.W.fnOf "tell" "Desk.tell" (defArgs sTell) (defBody sTell) (defScope sTell) .none kV dc pm an cd ct), sl⟩) (c : PySem.W.codeIn K cd "Desk.tell" = true) (k : PySem.W.keepIn K (.ref f) = true) : MDef K C "tell" "Desk.tell" sTell ["self", "v", "done"] := mdef_mk a i l c k (fun F => F.binds (ps := ["self", "v", "done"]) fun _ _ _ _ _ _ us hl => match us, hl with | [_, _, _], _ => rfl)
theorem kd_CD_best (a : PySem.W.findIn K (.ref C) "best" = some (some (.ref f))) (i : PySem.W.isFn K (.ref f) = true) (l : K.lookup f = some ⟨oc, od, .func (PySem.W.fnOf "best" "Desk.best" (defArgs sBest) (defBody sBest) (defScope sBest) .none kV dc pm an cd ct), sl⟩) (c : PySem.W.codeIn K cd "Desk.best" = true) (k : PySem.W.keepIn K (.ref f) = true) : MDef K C "best" "Desk.best" sBest ["self"] := mdef_mk a i l c k (fun F => F.binds (ps := ["self"]) fun _ _ _ _ _ _ us hl => match us, hl with | [_], _ => rfl)
theorem kd_CD_needed (a : PySem.W.findIn K (.ref C) "needed" = some (some (.ref f))) (i : PySem.W.isFn K (.ref f) = true) (l : K.lookup f = some ⟨oc, od, .func (PySem.W.fnOf "needed" "Desk.needed" (defArgs sNeeded) (defBody sNeeded) (defScope sNeeded) .none kV dc pm an cd ct), sl⟩) (c : PySem.W.codeIn K cd "Desk.needed" = true) (k : PySem.W.keepIn K (.ref f) = true) : MDef K C "needed" "Desk.needed" sNeeded ["self", "v"] := mdef_mk a i l c k (fun F => F.binds (ps := ["self", "v"]) fun _ _ _ _ _ _ us hl => match us, hl with | [_, _], _ => rfl)
theorem kd_CD_why (a : PySem.W.findIn K (.ref C) "why" = some (some (.ref f))) (i : PySem.W.isFn K (.ref f) = true) (l : K.lookup f = some ⟨oc, od, .func (PySem.W.fnOf "why" "Desk.why" (defArgs sWhy) (defBody sWhy) (defScope sWhy) .none kV dc pm an cd ct), sl⟩) (c : PySem.W.codeIn K cd "Desk.why" = true) (k : PySem.W.keepIn K (.ref f) = true) : MDef K C "why" "Desk.why" sWhy ["self"] := mdef_mk a i l c k (fun F => F.binds (ps := ["self"]) fun _ _ _ _ _ _ us hl => match us, hl with | [_], _ => rfl)
theorem kd_CD_of_one (a : PySem.W.findIn K (.ref C) "of_one" = some (some (.ref f))) (i : PySem.W.isFn K (.ref f) = true) (l : K.lookup f = some ⟨oc, od, .func (PySem.W.fnOf "of_one" "Desk.of_one" (defArgs sOne) (defBody sOne) (defScope sOne) .none kV dc pm an cd ct), sl⟩) (c : PySem.W.codeIn K cd "Desk.of_one" = true) (k : PySem.W.keepIn K (.ref f) = true) : MDef K C "of_one" "Desk.of_one" sOne nOne := mdef_mk a i l c k (fun F => F.binds (ps := nOne) fun _ _ _ _ _ _ us hl => match us, hl with | [_, _, _], _ => rfl)
theorem kd_CD_of_names (a : PySem.W.findIn K (.ref C) "of_names" = some (some (.ref f))) (i : PySem.W.isFn K (.ref f) = true) (l : K.lookup f = some ⟨oc, od, .func (PySem.W.fnOf "of_names" "Desk.of_names" (defArgs sNames) (defBody sNames) (defScope sNames) .none kV dc pm an cd ct), sl⟩) (c : PySem.W.codeIn K cd "Desk.of_names" = true) (k : PySem.W.keepIn K (.ref f) = true) : MDef K C "of_names" "Desk.of_names" sNames ["self", "call"] := mdef_mk a i l c k (fun F => F.binds (ps := ["self", "call"]) fun _ _ _ _ _ _ us hl => match us, hl with | [_, _], _ => rfl)
theorem kd_CD_of_rules (a : PySem.W.findIn K (.ref C) "of_rules" = some (some (.ref f))) (i : PySem.W.isFn K (.ref f) = true) (l : K.lookup f = some ⟨oc, od, .func (PySem.W.fnOf "of_rules" "Desk.of_rules" (defArgs sRulesD) (defBody sRulesD) (defScope sRulesD) .none kV dc pm an cd ct), sl⟩) (c : PySem.W.codeIn K cd "Desk.of_rules" = true) (k : PySem.W.keepIn K (.ref f) = true) : MDef K C "of_rules" "Desk.of_rules" sRulesD ["self", "call"] := mdef_mk a i l c k (fun F => F.binds (ps := ["self", "call"]) fun _ _ _ _ _ _ us hl => match us, hl with | [_, _], _ => rfl)
theorem kd_CD_begin (a : PySem.W.findIn K (.ref C) "begin" = some (some (.ref f))) (i : PySem.W.isFn K (.ref f) = true) (l : K.lookup f = some ⟨oc, od, .func (PySem.W.fnOf "begin" "Desk.begin" (defArgs sBegin) (defBody sBegin) (defScope sBegin) .none kV dc pm an cd ct), sl⟩) (c : PySem.W.codeIn K cd "Desk.begin" = true) (k : PySem.W.keepIn K (.ref f) = true) : MDef K C "begin" "Desk.begin" sBegin nBegin := mdef_mk a i l c k (fun F => F.binds (ps := nBegin) fun _ _ _ _ _ _ us hl => match us, hl with | [_, _, _, _, _], _ => rfl)
theorem kd_CD_answered (a : PySem.W.findIn K (.ref C) "answered" = some (some (.ref f))) (i : PySem.W.isFn K (.ref f) = true) (l : K.lookup f = some ⟨oc, od, .func (PySem.W.fnOf "answered" "Desk.answered" (defArgs sAnswered) (defBody sAnswered) (defScope sAnswered) .none kV dc pm an cd ct), sl⟩) (c : PySem.W.codeIn K cd "Desk.answered" = true) (k : PySem.W.keepIn K (.ref f) = true) : MDef K C "answered" "Desk.answered" sAnswered nAnswered := mdef_mk a i l c k (fun F => F.binds (ps := nAnswered) fun _ _ _ _ _ _ us hl => match us, hl with | [_, _, _], _ => rfl)
theorem kd_CD_answer (a : PySem.W.findIn K (.ref C) "answer" = some (some (.ref f))) (i : PySem.W.isFn K (.ref f) = true) (l : K.lookup f = some ⟨oc, od, .func (PySem.W.fnOf "answer" "Desk.answer" (defArgs sAnswer) (defBody sAnswer) (defScope sAnswer) .none kV dc pm an cd ct), sl⟩) (c : PySem.W.codeIn K cd "Desk.answer" = true) (k : PySem.W.keepIn K (.ref f) = true) : MDef K C "answer" "Desk.answer" sAnswer ["self", "call", "row"] := mdef_mk a i l c k (fun F => F.binds (ps := ["self", "call", "row"]) fun _ _ _ _ _ _ us hl => match us, hl with | [_, _, _], _ => rfl)
end
theorem all_mk {P : Program} {w : World} {K : PySem.W.Frag} {mg : Str → Option Value} {fa CC CD R t : Addr}
    (B : Bts mg) (Cs : Csts mg) (TC : CaseTxt K mg CC) (TD : DeskTxt K mg CD) (TR : RefTxt K mg R) (M : ManyT K mg t) (DR : RDef K R sRefI) (iC : IDef K CC "Case.__init__" sCase pCase) (iD : IDef K CD "Desk.__init__" sDesk ["self"]) (FA : AnsF K fa)
    (g_turned : GDef K mg "turned" (top 1) ["ring", "k"])
    (g_name_of : GDef K mg "name_of" (top 2) ["ring"])
    (g_all_rings : GDef K mg "all_rings" (top 3) ["places", "robots"])
    (g_all_names : GDef K mg "all_names" (top 4) ["places", "robots"])
    (g_seen : GDef K mg "seen" (top 5) ["many", "eyes"])
    (g_row_from : GDef K mg "row_from" (top 6) ["ring", "place", "eyes", "way"])
    (g_side_of : GDef K mg "side_of" (top 7) ["ring", "place", "eyes"])
    (g_view_of : GDef K mg "view_of" (top 8) ["ring", "place", "eyes"])
    (g_is_even_handed : GDef K mg "is_even_handed" (top 9) ["row"])
    (g_had_places : GDef K mg "had_places" (top 10) ["ring"])
    (g_all_views : GDef K mg "all_views" (top 11) ["names", "eyes"])
    (g_goings : GDef K mg "goings" (top 17) ["many", "side", "done"])
    (g_all_goings : GDef K mg "all_goings" (top 18) ["ring", "sides", "deeds"])
    (g_gone : GDef K mg "gone" (top 19) ["ring", "row"])
    (g_how_many : GDef K mg "how_many" (top 20) ["row"])
    (g_may_be : GDef K mg "may_be" (top 21) nMay)
    (g_rings_behind : GDef K mg "rings_behind" (top 22) ["ring", "sides", "deeds", "moves"])
    (g_bits_of : GDef K mg "bits_of" (top 26) ["numbers"])
    (g_members : GDef K mg "members" (top 27) ["bits"])
    (g_sets_of : GDef K mg "sets_of" (top 28) ["numbers", "many"])
    (g_fewest_not_gathered : GDef K mg "fewest_not_gathered" (top 29) ["gathered", "marked"])
    (d_CC_views_in : MDef K CC "views_in" "Case.views_in" sVin ["self", "ring"])
    (d_CC_deeds_of : MDef K CC "deeds_of" "Case.deeds_of" sDeeds ["self", "view"])
    (d_CC_many_rules : MDef K CC "many_rules" "Case.many_rules" sMany ["self"])
    (d_CC_rules : MDef K CC "rules" "Case.rules" sRules ["self"])
    (d_CC_behind : MDef K CC "behind" "Case.behind" sBehind pBehind)
    (d_CC_step : MDef K CC "step" "Case.step" sStep pStep)
    (d_CC_gathers : MDef K CC "gathers" "Case.gathers" sGath pGath)
    (d_CC_all_gathered : MDef K CC "all_gathered" "Case.all_gathered" sAllGa ["self", "moves"])
    (g_refuse : GDef K mg "refuse" (top 40) ["bad", "number"])
    (g_counted : GDef K mg "counted" (top 41) ["row"])
    (d_CD_need_name : MDef K CD "need_name" "Desk.need_name" sNeedN ["self", "i"])
    (d_CD_need_view : MDef K CD "need_view" "Desk.need_view" sNeedV ["self", "v"])
    (d_CD_set_moves : MDef K CD "set_moves" "Desk.set_moves" sSetM ["self", "moves"])
    (d_CD_name : MDef K CD "name" "Desk.name" sNm ["self", "i"])
    (d_CD_view : MDef K CD "view" "Desk.view" sVw ["self", "v"])
    (d_CD_put_marks : MDef K CD "put_marks" "Desk.put_marks" sPut ["self", "bits"])
    (d_CD_mark : MDef K CD "mark" "Desk.mark" sMark ["self", "i"])
    (d_CD_unmark : MDef K CD "unmark" "Desk.unmark" sUnmark ["self", "i"])
    (d_CD_mark_apart : MDef K CD "mark_apart" "Desk.mark_apart" sApart ["self"])
    (d_CD_what_rules_do : MDef K CD "what_rules_do" "Desk.what_rules_do" sWhat ["self", "moves"])
    (d_CD_is_good : MDef K CD "is_good" "Desk.is_good" sIsG ["self", "bits"])
    (d_CD_good_places : MDef K CD "good_places" "Desk.good_places" sGoodP ["self", "moves"])
    (d_CD_nth_good : MDef K CD "nth_good" "Desk.nth_good" sNth ["self", "i"])
    (d_CD_take : MDef K CD "take" "Desk.take" sTake ["self"])
    (d_CD_good : MDef K CD "good" "Desk.good" sGood ["self"])
    (d_CD_told : MDef K CD "told" "Desk.told" sTold ["self"])
    (d_CD_who : MDef K CD "who" "Desk.who" sWho ["self", "i"])
    (d_CD_tell : MDef K CD "tell" "Desk.tell" sTell ["self", "v", "done"])
    (d_CD_best : MDef K CD "best" "Desk.best" sBest ["self"])
    (d_CD_needed : MDef K CD "needed" "Desk.needed" sNeeded ["self", "v"])
    (d_CD_why : MDef K CD "why" "Desk.why" sWhy ["self"])
    (d_CD_of_one : MDef K CD "of_one" "Desk.of_one" sOne nOne)
    (d_CD_of_names : MDef K CD "of_names" "Desk.of_names" sNames ["self", "call"])
    (d_CD_of_rules : MDef K CD "of_rules" "Desk.of_rules" sRulesD ["self", "call"])
    (d_CD_begin : MDef K CD "begin" "Desk.begin" sBegin nBegin)
    (d_CD_answered : MDef K CD "answered" "Desk.answered" sAnswered nAnswered)
    (d_CD_answer : MDef K CD "answer" "Desk.answer" sAnswer ["self", "call", "row"]) :
    ∃ fd : FuncData, (∀ (s : Shared) (us : List Value), us.length = (["calls"] : List Str).length → BindsTo s fd ⟨us, []⟩ ((["calls"] : List Str).zip us)) ∧ ∀ base : Heap, K.In base → base.Ns mainGlobals mg → FnOk P w K mg base CX0 15 fa fd ["calls"] (spAns K) := by
  obtain ⟨fd, F, bi⟩ := FA.ex
  refine ⟨fd, bi, fun base _ _ => ?_⟩
  have c_turned : Cal P w K mg base CX0 1 "turned" ["ring", "k"] (spTurned K) := ok_turned g_turned
  have c_name_of : Cal P w K mg base CX0 2 "name_of" ["ring"] (spName K) := ok_name B g_name_of c_turned
  have c_all_rings : Cal P w K mg base CX0 1 "all_rings" ["places", "robots"] (spRings K) := ok_rings B g_all_rings
  have c_all_names : Cal P w K mg base CX0 3 "all_names" ["places", "robots"] (spNames K) := ok_names B g_all_names c_name_of c_all_rings
  have c_seen : Cal P w K mg base CX0 1 "seen" ["many", "eyes"] (spSeen K) := ok_seen B g_seen
  have c_row_from : Cal P w K mg base CX0 2 "row_from" ["ring", "place", "eyes", "way"] (spRow K) := ok_row B g_row_from c_seen
  have c_side_of : Cal P w K mg base CX0 3 "side_of" ["ring", "place", "eyes"] (spSide K) := ok_side g_side_of c_row_from
  have c_view_of : Cal P w K mg base CX0 3 "view_of" ["ring", "place", "eyes"] (spView K) := ok_view B g_view_of c_row_from
  have c_is_even_handed : Cal P w K mg base CX0 1 "is_even_handed" ["row"] (spEven K) := ok_even g_is_even_handed
  have c_had_places : Cal P w K mg base CX0 1 "had_places" ["ring"] (spHad K) := ok_had B g_had_places
  have c_all_views : Cal P w K mg base CX0 4 "all_views" ["names", "eyes"] (spViews K) := ok_views B g_all_views c_had_places c_view_of
  have c_goings : Cal P w K mg base CX0 1 "goings" ["many", "side", "done"] (spGoings K) := ok_goings B Cs g_goings
  have c_all_goings : Cal P w K mg base CX0 2 "all_goings" ["ring", "sides", "deeds"] (spAllG K) := ok_allG B g_all_goings c_had_places c_goings
  have c_gone : Cal P w K mg base CX0 2 "gone" ["ring", "row"] (spGone K) := ok_gone B g_gone c_had_places
  have c_how_many : Cal P w K mg base CX0 1 "how_many" ["row"] (spHow K) := ok_how B g_how_many
  have c_may_be : Cal P w K mg base CX0 1 "may_be" nMay (spMay K) := ok_may Cs g_may_be
  have c_rings_behind : Cal P w K mg base CX0 3 "rings_behind" ["ring", "sides", "deeds", "moves"] (spBehindR K) := ok_behindR B Cs g_rings_behind c_had_places c_all_goings c_gone c_how_many c_may_be
  have c_bits_of : Cal P w K mg base CX0 1 "bits_of" ["numbers"] (spBits K) := ok_bits B g_bits_of
  have c_members : Cal P w K mg base CX0 1 "members" ["bits"] (spMembers K) := ok_members B g_members
  have c_sets_of : Cal P w K mg base CX0 1 "sets_of" ["numbers", "many"] (spSets K) := ok_sets B g_sets_of
  have c_fewest_not_gathered : Cal P w K mg base CX0 2 "fewest_not_gathered" ["gathered", "marked"] (spFew K) := ok_few B g_fewest_not_gathered c_sets_of c_bits_of
  have m_CC_views_in : Met P w K mg base CX0 4 CC "views_in" ["self", "ring"] (spViewsIn K CC) := ok_vin TC d_CC_views_in c_had_places c_view_of
  have m_CC_deeds_of : Met P w K mg base CX0 2 CC "deeds_of" ["self", "view"] (spDeeds K CC) := ok_deeds TC d_CC_deeds_of c_is_even_handed
  have m_CC_many_rules : Met P w K mg base CX0 3 CC "many_rules" ["self"] (spMany K CC) := ok_many B TC d_CC_many_rules m_CC_deeds_of
  have m_CC_rules : Met P w K mg base CX0 3 CC "rules" ["self"] (spRules K CC) := ok_rules B TC d_CC_rules m_CC_deeds_of
  have m_CC_behind : Met P w K mg base CX0 4 CC "behind" pBehind (spBehind P w K CC) := ok_behind B TC d_CC_behind c_rings_behind c_bits_of c_name_of
  have m_CC_step : Met P w K mg base CX0 5 CC "step" pStep (spStep P w K CC) := ok_step B Cs TC d_CC_step m_CC_behind
  have m_CC_gathers : Met P w K mg base CX0 6 CC "gathers" pGath (spGath P w K CC) := ok_gath B TC d_CC_gathers m_CC_step c_bits_of
  have m_CC_all_gathered : Met P w K mg base CX0 7 CC "all_gathered" ["self", "moves"] (spAllGa P w K CC) := ok_allGa TC d_CC_all_gathered m_CC_gathers m_CC_rules
  have IC : Ini P w K mg base 5 CC pCase (spCase P w K CC) := iC.ini fun f fd F => ok_case TC F c_all_names c_all_views m_CC_views_in c_had_places c_side_of
  have c_refuse : Cal P w K mg base (L2.CX P w) 3 "refuse" ["bad", "number"] (spRefuse R) := ok_refuse B TR DR g_refuse
  have c_counted : Cal P w K mg base CX0 1 "counted" ["row"] (spCounted K) := ok_counted B g_counted
  have m_CD_need_name : Met P w K mg base (L2.CX P w) 4 CD "need_name" ["self", "i"] (spNeedN P w K CD CC R) := ok_needN B Cs TD TC d_CD_need_name c_refuse
  have m_CD_need_view : Met P w K mg base (L2.CX P w) 4 CD "need_view" ["self", "v"] (spNeedV P w K CD CC R) := ok_needV B Cs TD TC d_CD_need_view c_refuse
  have m_CD_set_moves : Met P w K mg base (L2.CX P w) 4 CD "set_moves" ["self", "moves"] (spSetM P w K CD CC R) := ok_setM Cs TD d_CD_set_moves c_refuse
  have m_CD_name : Met P w K mg base (L2.CX P w) 5 CD "name" ["self", "i"] (spNm P w K CD CC R) := ok_nm TD TC d_CD_name m_CD_need_name c_counted
  have m_CD_view : Met P w K mg base (L2.CX P w) 5 CD "view" ["self", "v"] (spVw P w K CD CC R) := ok_vw B TD TC d_CD_view m_CD_need_view c_is_even_handed
  have m_CD_put_marks : Met P w K mg base CX0 2 CD "put_marks" ["self", "bits"] (spPut P w K CD CC) := ok_put B TD d_CD_put_marks c_members
  have m_CD_mark : Met P w K mg base (L2.CX P w) 5 CD "mark" ["self", "i"] (spMark P w K CD CC R dMark) := ok_mark Cs TD d_CD_mark m_CD_need_name c_refuse m_CD_put_marks
  have m_CD_unmark : Met P w K mg base (L2.CX P w) 5 CD "unmark" ["self", "i"] (spMark P w K CD CC R dUnmark) := ok_unmark Cs TD d_CD_unmark m_CD_need_name c_refuse m_CD_put_marks
  have m_CD_mark_apart : Met P w K mg base CX0 3 CD "mark_apart" ["self"] (spApart P w K CD CC) := ok_apart B TD TC d_CD_mark_apart c_bits_of m_CD_put_marks
  have m_CD_what_rules_do : Met P w K mg base (L2.CX P w) 8 CD "what_rules_do" ["self", "moves"] (spWhat P w K CD CC R) := ok_what Cs TD TC d_CD_what_rules_do c_refuse m_CC_many_rules m_CC_all_gathered
  have m_CD_is_good : Met P w K mg base CX0 1 CD "is_good" ["self", "bits"] (spIsG P w K CD CC) := ok_isG TD d_CD_is_good
  have m_CD_good_places : Met P w K mg base (L2.CX P w) 9 CD "good_places" ["self", "moves"] (spGoodP P w K CD CC R) := ok_goodP B TD d_CD_good_places m_CD_what_rules_do m_CD_is_good
  have m_CD_nth_good : Met P w K mg base (L2.CX P w) 10 CD "nth_good" ["self", "i"] (spNth P w K CD CC R) := ok_nth B Cs TD TC d_CD_nth_good m_CD_good_places c_refuse m_CC_rules
  have m_CD_take : Met P w K mg base (L2.CX P w) 11 CD "take" ["self"] (spTake P w K CD CC R) := ok_take TD d_CD_take m_CD_nth_good
  have m_CD_good : Met P w K mg base CX0 7 CD "good" ["self"] (spGood P w K CD CC) := ok_good B TD TC d_CD_good m_CC_gathers c_members
  have m_CD_told : Met P w K mg base CX0 2 CD "told" ["self"] (spTold P w K CD CC) := ok_told B TD TC d_CD_told c_members
  have m_CD_who : Met P w K mg base (L2.CX P w) 5 CD "who" ["self", "i"] (spWho P w K CD CC R) := ok_who B TD TC d_CD_who m_CD_need_name c_counted
  have m_CD_tell : Met P w K mg base (L2.CX P w) 5 CD "tell" ["self", "v", "done"] (spTell P w K CD CC R) := ok_tell Cs TD TC d_CD_tell m_CD_need_view c_refuse m_CC_deeds_of
  have m_CD_best : Met P w K mg base (L2.CX P w) 9 CD "best" ["self"] (spOut P w K CD CC R dBest) := ok_best B TD TC d_CD_best m_CD_what_rules_do c_members m_CC_rules
  have m_CD_needed : Met P w K mg base (L2.CX P w) 10 CD "needed" ["self", "v"] (spOutI P w K CD CC R dNeeded) := ok_needed B Cs TD TC d_CD_needed m_CD_need_view m_CD_good_places c_refuse m_CC_rules c_bits_of
  have m_CD_why : Met P w K mg base (L2.CX P w) 10 CD "why" ["self"] (spOut P w K CD CC R dWhy) := ok_why Cs TD d_CD_why m_CD_good_places c_refuse m_CD_what_rules_do c_members c_fewest_not_gathered c_counted
  have m_CD_of_one : Met P w K mg base (L2.CX P w) 11 CD "of_one" nOne (spOne P w K CD CC R) := ok_one TD d_CD_of_one m_CD_set_moves m_CD_name m_CD_view m_CD_who m_CD_mark m_CD_unmark m_CD_needed m_CD_nth_good c_counted
  have m_CD_of_names : Met P w K mg base CX0 8 CD "of_names" ["self", "call"] (spDNames P w K CD CC R) := ok_dnames B TD TC d_CD_of_names m_CD_mark_apart c_members c_counted m_CC_many_rules m_CD_good m_CC_gathers
  have m_CD_of_rules : Met P w K mg base (L2.CX P w) 12 CD "of_rules" ["self", "call"] (spDRules P w K CD CC R) := ok_drules B Cs TD TC d_CD_of_rules m_CD_nth_good c_counted m_CD_take m_CD_good_places m_CC_many_rules m_CD_best m_CD_why m_CD_told
  have ID : Ini P w K mg base 1 CD ["self"] (spDesk K CD) := iD.ini fun f fd F => ok_desk TD F
  have m_CD_begin : Met P w K mg base (L2.CX P w) 7 CD "begin" nBegin (spBegin P w K CD CC R) := ok_begin B Cs TD TC d_CD_begin c_refuse IC
  have m_CD_answered : Met P w K mg base (L2.CX P w) 13 CD "answered" nAnswered (spAnswered P w K CD CC R) := ok_answered Cs TD d_CD_answered m_CD_begin c_refuse m_CD_tell m_CD_of_one m_CD_of_names m_CD_of_rules
  have m_CD_answer : Met P w K mg base CX0 14 CD "answer" ["self", "call", "row"] (spAnswer P w K CD CC) := ok_answer TD TR d_CD_answer m_CD_answered
  exact ok_ans B TD M F ID m_CD_answer
end Rf
/-! ## RfLast -/
open PySem PySem.W PyProof.Rows
set_option maxRecDepth 100000 in
set_option maxHeartbeats 16000000 in
theorem PySem.Challenge.cw_rulesfound_s01_answers_holds : PySem.Challenge.rw_rulesfound_s01_answers.Holds := by
  w_on; k_headS; (case hw => exact ⟨[.list [.int 24]], by decide +kernel, by decide +kernel⟩)
  k_fillS
  refine L2.walk_specK (r := PySem.Challenge.rw_rulesfound_s01_answers) (k := 15) (CX := L2.CX0) (ps := ["calls"]) (sp := Rf.spAns) (by decide +kernel) rfl rfl ⟨rfl, by decide, by decide⟩ (fun w h Y => PySem.W.kIn_of Y) ?F ?S (fun _ _ _ _ z => z)
  case F =>
    intro w mg fa h Y KX G hmg
    refine' Rf.all_mk ?zB ?zCs ?zTC ?zTD ?zTR ?zM ?zDR ?ziC ?ziD ?zFA ?zg_turned ?zg_name_of ?zg_all_rings ?zg_all_names ?zg_seen ?zg_row_from ?zg_side_of ?zg_view_of ?zg_is_even_handed ?zg_had_places ?zg_all_views ?zg_goings ?zg_all_goings ?zg_gone ?zg_how_many ?zg_may_be ?zg_rings_behind ?zg_bits_of ?zg_members ?zg_sets_of ?zg_fewest_not_gathered ?zd_CC_views_in ?zd_CC_deeds_of ?zd_CC_many_rules ?zd_CC_rules ?zd_CC_behind ?zd_CC_step ?zd_CC_gathers ?zd_CC_all_gathered ?zg_refuse ?zg_counted ?zd_CD_need_name ?zd_CD_need_view ?zd_CD_set_moves ?zd_CD_name ?zd_CD_view ?zd_CD_put_marks ?zd_CD_mark ?zd_CD_unmark ?zd_CD_mark_apart ?zd_CD_what_rules_do ?zd_CD_is_good ?zd_CD_good_places ?zd_CD_nth_good ?zd_CD_take ?zd_CD_good ?zd_CD_told ?zd_CD_who ?zd_CD_tell ?zd_CD_best ?zd_CD_needed ?zd_CD_why ?zd_CD_of_one ?zd_CD_of_names ?zd_CD_of_rules ?zd_CD_begin ?zd_CD_answered ?zd_CD_answer
    (case zB => refine' Rf.k_bts KX G ?e1 ?e2 ?e3 ?e4 ?e5 ?e6 ?e7 ?e8 ?e9 ?e10 ?e11 ?e12 ?e13 ?e14 ?e15; (case e1 => k_is); (case e2 => k_is); (case e3 => k_is); (case e4 => k_is); (case e5 => k_is); (case e6 => k_is); (case e7 => k_is); (case e8 => k_is); (case e9 => k_is); (case e10 => k_is); (case e11 => k_is); (case e12 => k_is); (case e13 => k_is); (case e14 => k_is); (case e15 => k_is))
    (case zCs => refine' Rf.k_csts KX G ?e1 ?e2 ?e3 ?e4 ?e5 ?e6 ?e7 ?e8 ?e9 ?e10 ?e11 ?e12 ?e13; (case e1 => k_is); (case e2 => k_is); (case e3 => k_is); (case e4 => k_is); (case e5 => k_is); (case e6 => k_is); (case e7 => k_is); (case e8 => k_is); (case e9 => k_is); (case e10 => k_is); (case e11 => k_is); (case e12 => k_is); (case e13 => k_is))
    (case zTC => refine' Rf.k_case KX G ?a ?pg ?hd ?po ?sa ?n1 ?n2 ?n3 ?n4 ?n5 ?n6 ?n7 ?n8 ?n9; (case a => k_is); (case pg => k_is); (case hd => k_is); (case po => k_is); (case sa => k_is); (case n1 => k_is); (case n2 => k_is); (case n3 => k_is); (case n4 => k_is); (case n5 => k_is); (case n6 => k_is); (case n7 => k_is); (case n8 => k_is); (case n9 => k_is))
    (case zTD => refine' Rf.k_desk KX G ?a ?pg ?hd ?po ?sa ?n1 ?n2 ?n3 ?n4; (case a => k_is); (case pg => k_is); (case hd => k_is); (case po => k_is); (case sa => k_is); (case n1 => k_is); (case n2 => k_is); (case n3 => k_is); (case n4 => k_is))
    (case zTR => refine' Rf.k_ref KX G ?a ?xL ?sa ?ga ?gg ?nb ?vV ?kC ?eC ?tC ?hC ?iC ?sC; (case a => k_is); (case xL => k_is); (case sa => k_is); (case ga => k_is); (case gg => k_is); (case nb => k_is); (case vV => k_is); (case kC => k_is); (case eC => k_is); (case tC => k_is); (case hC => k_is); (case iC => k_is); (case sC => first | rfl | k_is))
    (case zM => refine' Rf.k_many KX G ?a ?l; (case a => k_is); (case l => k_is))
    (case zDR => refine' Rf.kr_ref ?a ?y ?l ?c ?k; (case a => k_is); (case y => k_is); (case l => k_is); (case c => k_is); (case k => k_is))
    (case ziC => refine' Rf.ki_case ?m ?a ?i ?kC ?l ?c ?k; (case m => k_is); (case a => k_is); (case i => k_is); (case kC => k_is); (case l => k_is); (case c => k_is); (case k => k_is))
    (case ziD => refine' Rf.ki_desk ?m ?a ?i ?kC ?l ?c ?k; (case m => k_is); (case a => k_is); (case i => k_is); (case kC => k_is); (case l => k_is); (case c => k_is); (case k => k_is))
    (case zFA => refine' Rf.kf_ans KX G hmg ?a ?l ?c ?k; (case a => k_is); (case l => k_is); (case c => k_is); (case k => k_is))
    (case zg_turned => refine' Rf.kg_turned KX G ?a ?l ?c ?k; (case a => k_is); (case l => k_is); (case c => k_is); (case k => k_is))
    (case zg_name_of => refine' Rf.kg_name_of KX G ?a ?l ?c ?k; (case a => k_is); (case l => k_is); (case c => k_is); (case k => k_is))
    (case zg_all_rings => refine' Rf.kg_all_rings KX G ?a ?l ?c ?k; (case a => k_is); (case l => k_is); (case c => k_is); (case k => k_is))
    (case zg_all_names => refine' Rf.kg_all_names KX G ?a ?l ?c ?k; (case a => k_is); (case l => k_is); (case c => k_is); (case k => k_is))
    (case zg_seen => refine' Rf.kg_seen KX G ?a ?l ?c ?k; (case a => k_is); (case l => k_is); (case c => k_is); (case k => k_is))
    (case zg_row_from => refine' Rf.kg_row_from KX G ?a ?l ?c ?k; (case a => k_is); (case l => k_is); (case c => k_is); (case k => k_is))
    (case zg_side_of => refine' Rf.kg_side_of KX G ?a ?l ?c ?k; (case a => k_is); (case l => k_is); (case c => k_is); (case k => k_is))
    (case zg_view_of => refine' Rf.kg_view_of KX G ?a ?l ?c ?k; (case a => k_is); (case l => k_is); (case c => k_is); (case k => k_is))
    (case zg_is_even_handed => refine' Rf.kg_is_even_handed KX G ?a ?l ?c ?k; (case a => k_is); (case l => k_is); (case c => k_is); (case k => k_is))
    (case zg_had_places => refine' Rf.kg_had_places KX G ?a ?l ?c ?k; (case a => k_is); (case l => k_is); (case c => k_is); (case k => k_is))
    (case zg_all_views => refine' Rf.kg_all_views KX G ?a ?l ?c ?k; (case a => k_is); (case l => k_is); (case c => k_is); (case k => k_is))
    (case zg_goings => refine' Rf.kg_goings KX G ?a ?l ?c ?k; (case a => k_is); (case l => k_is); (case c => k_is); (case k => k_is))
    (case zg_all_goings => refine' Rf.kg_all_goings KX G ?a ?l ?c ?k; (case a => k_is); (case l => k_is); (case c => k_is); (case k => k_is))
    (case zg_gone => refine' Rf.kg_gone KX G ?a ?l ?c ?k; (case a => k_is); (case l => k_is); (case c => k_is); (case k => k_is))
    (case zg_how_many => refine' Rf.kg_how_many KX G ?a ?l ?c ?k; (case a => k_is); (case l => k_is); (case c => k_is); (case k => k_is))
    (case zg_may_be => refine' Rf.kg_may_be KX G ?a ?l ?c ?k; (case a => k_is); (case l => k_is); (case c => k_is); (case k => k_is))
    (case zg_rings_behind => refine' Rf.kg_rings_behind KX G ?a ?l ?c ?k; (case a => k_is); (case l => k_is); (case c => k_is); (case k => k_is))
    (case zg_bits_of => refine' Rf.kg_bits_of KX G ?a ?l ?c ?k; (case a => k_is); (case l => k_is); (case c => k_is); (case k => k_is))
    (case zg_members => refine' Rf.kg_members KX G ?a ?l ?c ?k; (case a => k_is); (case l => k_is); (case c => k_is); (case k => k_is))
    (case zg_sets_of => refine' Rf.kg_sets_of KX G ?a ?l ?c ?k; (case a => k_is); (case l => k_is); (case c => k_is); (case k => k_is))
    (case zg_fewest_not_gathered => refine' Rf.kg_fewest_not_gathered KX G ?a ?l ?c ?k; (case a => k_is); (case l => k_is); (case c => k_is); (case k => k_is))
    (case zd_CC_views_in => refine' Rf.kd_CC_views_in ?a ?i ?l ?c ?k; (case a => k_is); (case i => k_is); (case l => k_is); (case c => k_is); (case k => k_is))
    (case zd_CC_deeds_of => refine' Rf.kd_CC_deeds_of ?a ?i ?l ?c ?k; (case a => k_is); (case i => k_is); (case l => k_is); (case c => k_is); (case k => k_is))
    (case zd_CC_many_rules => refine' Rf.kd_CC_many_rules ?a ?i ?l ?c ?k; (case a => k_is); (case i => k_is); (case l => k_is); (case c => k_is); (case k => k_is))
    (case zd_CC_rules => refine' Rf.kd_CC_rules ?a ?i ?l ?c ?k; (case a => k_is); (case i => k_is); (case l => k_is); (case c => k_is); (case k => k_is))
    (case zd_CC_behind => refine' Rf.kd_CC_behind ?a ?i ?l ?c ?k; (case a => k_is); (case i => k_is); (case l => k_is); (case c => k_is); (case k => k_is))
    (case zd_CC_step => refine' Rf.kd_CC_step ?a ?i ?l ?c ?k; (case a => k_is); (case i => k_is); (case l => k_is); (case c => k_is); (case k => k_is))
    (case zd_CC_gathers => refine' Rf.kd_CC_gathers ?a ?i ?l ?c ?k; (case a => k_is); (case i => k_is); (case l => k_is); (case c => k_is); (case k => k_is))
    (case zd_CC_all_gathered => refine' Rf.kd_CC_all_gathered ?a ?i ?l ?c ?k; (case a => k_is); (case i => k_is); (case l => k_is); (case c => k_is); (case k => k_is))
    (case zg_refuse => refine' Rf.kg_refuse KX G ?a ?l ?c ?k; (case a => k_is); (case l => k_is); (case c => k_is); (case k => k_is))
    (case zg_counted => refine' Rf.kg_counted KX G ?a ?l ?c ?k; (case a => k_is); (case l => k_is); (case c => k_is); (case k => k_is))
    (case zd_CD_need_name => refine' Rf.kd_CD_need_name ?a ?i ?l ?c ?k; (case a => k_is); (case i => k_is); (case l => k_is); (case c => k_is); (case k => k_is))
    (case zd_CD_need_view => refine' Rf.kd_CD_need_view ?a ?i ?l ?c ?k; (case a => k_is); (case i => k_is); (case l => k_is); (case c => k_is); (case k => k_is))
    (case zd_CD_set_moves => refine' Rf.kd_CD_set_moves ?a ?i ?l ?c ?k; (case a => k_is); (case i => k_is); (case l => k_is); (case c => k_is); (case k => k_is))
    (case zd_CD_name => refine' Rf.kd_CD_name ?a ?i ?l ?c ?k; (case a => k_is); (case i => k_is); (case l => k_is); (case c => k_is); (case k => k_is))
    (case zd_CD_view => refine' Rf.kd_CD_view ?a ?i ?l ?c ?k; (case a => k_is); (case i => k_is); (case l => k_is); (case c => k_is); (case k => k_is))
    (case zd_CD_put_marks => refine' Rf.kd_CD_put_marks ?a ?i ?l ?c ?k; (case a => k_is); (case i => k_is); (case l => k_is); (case c => k_is); (case k => k_is))
    (case zd_CD_mark => refine' Rf.kd_CD_mark ?a ?i ?l ?c ?k; (case a => k_is); (case i => k_is); (case l => k_is); (case c => k_is); (case k => k_is))
    (case zd_CD_unmark => refine' Rf.kd_CD_unmark ?a ?i ?l ?c ?k; (case a => k_is); (case i => k_is); (case l => k_is); (case c => k_is); (case k => k_is))
    (case zd_CD_mark_apart => refine' Rf.kd_CD_mark_apart ?a ?i ?l ?c ?k; (case a => k_is); (case i => k_is); (case l => k_is); (case c => k_is); (case k => k_is))
    (case zd_CD_what_rules_do => refine' Rf.kd_CD_what_rules_do ?a ?i ?l ?c ?k; (case a => k_is); (case i => k_is); (case l => k_is); (case c => k_is); (case k => k_is))
    (case zd_CD_is_good => refine' Rf.kd_CD_is_good ?a ?i ?l ?c ?k; (case a => k_is); (case i => k_is); (case l => k_is); (case c => k_is); (case k => k_is))
    (case zd_CD_good_places => refine' Rf.kd_CD_good_places ?a ?i ?l ?c ?k; (case a => k_is); (case i => k_is); (case l => k_is); (case c => k_is); (case k => k_is))
    (case zd_CD_nth_good => refine' Rf.kd_CD_nth_good ?a ?i ?l ?c ?k; (case a => k_is); (case i => k_is); (case l => k_is); (case c => k_is); (case k => k_is))
    (case zd_CD_take => refine' Rf.kd_CD_take ?a ?i ?l ?c ?k; (case a => k_is); (case i => k_is); (case l => k_is); (case c => k_is); (case k => k_is))
    (case zd_CD_good => refine' Rf.kd_CD_good ?a ?i ?l ?c ?k; (case a => k_is); (case i => k_is); (case l => k_is); (case c => k_is); (case k => k_is))
    (case zd_CD_told => refine' Rf.kd_CD_told ?a ?i ?l ?c ?k; (case a => k_is); (case i => k_is); (case l => k_is); (case c => k_is); (case k => k_is))
    (case zd_CD_who => refine' Rf.kd_CD_who ?a ?i ?l ?c ?k; (case a => k_is); (case i => k_is); (case l => k_is); (case c => k_is); (case k => k_is))
    (case zd_CD_tell => refine' Rf.kd_CD_tell ?a ?i ?l ?c ?k; (case a => k_is); (case i => k_is); (case l => k_is); (case c => k_is); (case k => k_is))
    (case zd_CD_best => refine' Rf.kd_CD_best ?a ?i ?l ?c ?k; (case a => k_is); (case i => k_is); (case l => k_is); (case c => k_is); (case k => k_is))
    (case zd_CD_needed => refine' Rf.kd_CD_needed ?a ?i ?l ?c ?k; (case a => k_is); (case i => k_is); (case l => k_is); (case c => k_is); (case k => k_is))
    (case zd_CD_why => refine' Rf.kd_CD_why ?a ?i ?l ?c ?k; (case a => k_is); (case i => k_is); (case l => k_is); (case c => k_is); (case k => k_is))
    (case zd_CD_of_one => refine' Rf.kd_CD_of_one ?a ?i ?l ?c ?k; (case a => k_is); (case i => k_is); (case l => k_is); (case c => k_is); (case k => k_is))
    (case zd_CD_of_names => refine' Rf.kd_CD_of_names ?a ?i ?l ?c ?k; (case a => k_is); (case i => k_is); (case l => k_is); (case c => k_is); (case k => k_is))
    (case zd_CD_of_rules => refine' Rf.kd_CD_of_rules ?a ?i ?l ?c ?k; (case a => k_is); (case i => k_is); (case l => k_is); (case c => k_is); (case k => k_is))
    (case zd_CD_begin => refine' Rf.kd_CD_begin ?a ?i ?l ?c ?k; (case a => k_is); (case i => k_is); (case l => k_is); (case c => k_is); (case k => k_is))
    (case zd_CD_answered => refine' Rf.kd_CD_answered ?a ?i ?l ?c ?k; (case a => k_is); (case i => k_is); (case l => k_is); (case c => k_is); (case k => k_is))
    (case zd_CD_answer => refine' Rf.kd_CD_answer ?a ?i ?l ?c ?k; (case a => k_is); (case i => k_is); (case l => k_is); (case c => k_is); (case k => k_is))
  case S =>
    intro K H xs a hO hwi hask hx
    cases hx with
    | cons h1 h2 =>
      cases h2
      cases h1 with
      | lst hs ha =>
        have e := L2.ints_dw a.1 _ ha
        subst e
        have hask : PyKm537.answers_asked a.1 = true := hask
        obtain ⟨xs, L⟩ := Rf.lined hask
        refine ⟨_, a.1, xs, rfl, hs, L, fun H' p hp => ?_⟩
        rw [← L.out] at hp
        exact .lst (L2.SqL.of hp) (L2.dw_ints _)
#print axioms PySem.Challenge.cw_rulesfound_s01_answers_holds
