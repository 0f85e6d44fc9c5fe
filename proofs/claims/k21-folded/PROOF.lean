import PyProof.Rows.All
import Wide.All
import OpenK.AllK
import Wide.FinOn
import KE.KStateDown
import KE.GoesEnum
import HandS.ForMost
import HandS.ForExc
import HandS.More
import HandS.Deep
import HandS.Wide
import HandS.Walk
import HandS.IsInst
import HandS.Defaults
import HandS.SortInts
import HandS.RevRange
import HandS.Zip
import HandS.Flow
import HandS.Steps
import HandS.Head0
import HandS.Head1
import HandS.Head2
import HandS.HeadEnd
import HandS.HeadHook1
import HandS.HeadHook2
import HandS.Conv
import HandS.Dict
import HandS.Exc
import HandS.ExcOwn
import HandS.ExcIs
import HandS.CallSlots
import HandS.Rev
import HandS.ExcCtx
import HandS.HotCalls
import KE.KTupSum
import KE.KIsAll
import HandS.DeepEq
import HandS.Text
import HandS.StrMore
import HandS.ExcInit
import HandS.DictTup
import PyProof.DictMoreH
import KE.KExcIs
import PyProof.StrBlock2
import HandS.TupSets
import PySem.Challenge.RW_dotscreen_k21_folded
set_option Elab.async false
set_option linter.all false
set_option maxRecDepth 100000
set_option maxHeartbeats 4000000
set_option maxRecDepth 100000
set_option maxHeartbeats 2000000
/-! DK: unions of the layer's rules, so that a derivation needs no types; a few rules more. -/
namespace DK
open PySem PySem.Spec PyProof.Rows L2

/-! ### unions -/
theorem OpR.or {X : Cx} {f : Value → Value → Sem Value} {r r' : R2} (h : OpR X f r) (h' : OpR X f r') : OpR X f (fun x y H Q => r x y H Q ∨ r' x y H Q) := by
  intro pins s σ H x y v u Q I rx ry q
  rcases q with q | q
  · exact h pins s σ H x y v u Q I rx ry q
  · exact h' pins s σ H x y v u Q I rx ry q
theorem CallR.or {X : Cx} {f : Value} {r r' : List V → Hp → VK → Prop} (h : CallR X f r) (h' : CallR X f r') : CallR X f (fun xs H Q => r xs H Q ∨ r' xs H Q) := by
  intro pins s σ H xs us Q I r q
  rcases q with q | q
  · exact h pins s σ H xs us Q I r q
  · exact h' pins s σ H xs us Q I r q
theorem pe_or {X : Cx} {e : Expr} {t t' : TE} (h : PE X e t) (h' : PE X e t') : PE X e (fun σ H Q => t σ H Q ∨ t' σ H Q) := by
  refine ⟨fun pins s σ H Q I q => ?_⟩
  rcases q with q | q
  · exact h.run pins s σ H Q I q
  · exact h'.run pins s σ H Q I q
theorem pt_or {X : Cx} {e : Expr} {t t' : TT} (h : PT X e t) (h' : PT X e t') : PT X e (fun σ H Q => t σ H Q ∨ t' σ H Q) := by
  refine ⟨fun pins s σ H Q I q => ?_⟩
  rcases q with q | q
  · exact h.run pins s σ H Q I q
  · exact h'.run pins s σ H Q I q
theorem pi_or {X : Cx} {tg e : Expr} {t t' : TI} (h : PI X tg e t) (h' : PI X tg e t') : PI X tg e (fun σ H R => t σ H R ∨ t' σ H R) := by
  refine ⟨fun pins s σ H Q I q => ?_⟩
  rcases q with q | q
  · exact h.run pins s σ H Q I q
  · exact h'.run pins s σ H Q I q
theorem pg_or {X : Cx} {tg : Expr} {g g' : TG} (h : PG X tg g) (h' : PG X tg g') : PG X tg (fun v σ H Q => g v σ H Q ∨ g' v σ H Q) := by
  refine ⟨fun pins s σ H v u Q I r q => ?_⟩
  rcases q with q | q
  · exact h.run pins s σ H v u Q I r q
  · exact h'.run pins s σ H v u Q I r q

def rAddStr : R2 := fun x y H Q => ∃ i j, x = .str i ∧ y = .str j ∧ i.length + j.length ≤ sizeLine ∧ Q (.str (i ++ j)) H
def rAddI : R2 := rI0 fun i j => .int (i + j)
def rAddU (K : PySem.W.Frag) : R2 := fun x y H Q => rAddI x y H Q ∨ (rCat x y H Q ∨ (rCatT K x y H Q ∨ rAddStr x y H Q))
theorem op_addU {X : Cx} : OpR X (binaryOp .Add) (rAddU X.K) := OpR.or op_add (OpR.or op_cat (OpR.or op_catT op_add_str))
abbrev rSubI : R2 := rI0 fun i j => .int (i - j)
abbrev rModI : R2 := rI (fun _ j => 0 < j) fun i j => .int (i % j)
def CMulU (i j : Int) : Prop := CMul i j ∨ CMulW i j
def rMulI : R2 := rI CMulU fun i j => .int (i * j)
theorem op_mulI {X : Cx} : OpR X (binaryOp .Mult) rMulI := by
  intro pins s σ H x y v u Q I rx ry h
  obtain ⟨i, j, rfl, rfl, hc, q⟩ := h
  rcases hc with hc | hc
  · exact op_mul pins s σ H _ _ v u Q I rx ry ⟨i, j, rfl, rfl, hc, q⟩
  · exact op_mulW pins s σ H _ _ v u Q I rx ry ⟨i, j, rfl, rfl, hc, q⟩
def rMulU : R2 := fun x y H Q => rMulI x y H Q ∨ rRep x y H Q
theorem op_mulU {X : Cx} : OpR X (binaryOp .Mult) rMulU := OpR.or op_mulI op_rep
def CDivU (i j : Int) : Prop := CDiv i j ∨ CDivW i j
def rDivU : R2 := rI CDivU fun i j => .int (i / j)
theorem op_divU {X : Cx} : OpR X (binaryOp .FloorDiv) rDivU := by
  intro pins s σ H x y v u Q I rx ry h
  obtain ⟨i, j, rfl, rfl, hc, q⟩ := h
  rcases hc with hc | hc
  · exact op_fdiv pins s σ H _ _ v u Q I rx ry ⟨i, j, rfl, rfl, hc, q⟩
  · exact op_fdivW pins s σ H _ _ v u Q I rx ry ⟨i, j, rfl, rfl, hc, q⟩
abbrev rLtI : R2 := rI0 fun i j => .bl (decide (i < j))
abbrev rLeI : R2 := rI0 fun i j => .bl (decide (i ≤ j))
abbrev rGtI : R2 := rI0 fun i j => .bl (decide (j < i))
abbrev rGeI : R2 := rI0 fun i j => .bl (decide (j ≤ i))
def rEqU (K : PySem.W.Frag) : R2 := fun x y H Q => rEq x y H Q ∨ rEqD K x y H Q
def rNeU (K : PySem.W.Frag) : R2 := fun x y H Q => rNe x y H Q ∨ rNeD K x y H Q
theorem op_eqU {X : Cx} (hu : X.A.units + 64 < cLine) : OpR X (compareOp .Eq) (rEqU X.K) := OpR.or op_eq (op_eqD hu)
theorem op_neU {X : Cx} (hu : X.A.units + 64 < cLine) : OpR X (compareOp .NotEq) (rNeU X.K) := OpR.or op_ne (op_neD hu)
/-- a power of written numbers -/
theorem pe_powC {X : Cx} {a b n : Int} {i j : Nat} {p p2 p3 : Pos} (h : 0 ≤ b ∧ b ≤ 1000000 ∧ a.natAbs < 2 ^ 64) (e : a ^ b.toNat = n) : PE X (.BinOp (.Constant (.int a) i p) .Pow (.Constant (.int b) j p2) p3) (tC (.int n)) := by
  refine ⟨fun pins s σ H Q I q => ?_⟩
  exact (pe_op (X := X) op_pow pe_int pe_int).run pins s σ H Q I ⟨a, b, rfl, rfl, h, by show Q (.int (a ^ b.toNat)) H; rw [e]; exact q⟩

/-! ### len, list, tuple -/
def rLenU (K : PySem.W.Frag) : List V → Hp → VK → Prop := fun xs H Q => (∃ x n, xs = [x] ∧ LenV K x H n ∧ Q (.int n) H)
theorem call_lenU {X : Cx} : CallR X (.builtin "len") (rLenU X.K) := call_len
def rListU (K : PySem.W.Frag) : List V → Hp → VK → Prop := fun xs H Q => ∃ p ys, xs = [.ref p] ∧ (SqL K H p ys ∨ SqT K H p ys) ∧ ∀ l, H l = none → Q (.ref l) (upd H l (.lst ys))
theorem call_listU {X : Cx} : CallR X (.type "list") (rListU X.K) := call_list_of
def rTupU (K : PySem.W.Frag) : List V → Hp → VK → Prop := fun xs H Q => ∃ p ys, xs = [.ref p] ∧ ((SqL K H p ys ∧ ∀ l, H l = none → Q (.ref l) (upd H l (.tup ys))) ∨ (SqT K H p ys ∧ Q (.ref p) H))
theorem call_tupU {X : Cx} : CallR X (.type "tuple") (rTupU X.K) := call_tuple_of
abbrev rAbsI : List V → Hp → VK → Prop := fun xs H Q => ∃ i, xs = [.int i] ∧ Q (.int (if i < 0 then -i else i)) H
abbrev rMax2I : List V → Hp → VK → Prop := fun xs H Q => ∃ i j, xs = [.int i, .int j] ∧ Q (.int (if j > i then j else i)) H
abbrev rMin2I : List V → Hp → VK → Prop := fun xs H Q => ∃ i j, xs = [.int i, .int j] ∧ Q (.int (if j < i then j else i)) H
abbrev rInt1 : List V → Hp → VK → Prop := fun xs H Q => (∃ i, xs = [.int i] ∧ Q (.int i) H) ∨ ∃ k, xs = [.bl k] ∧ Q (.int (if k then 1 else 0)) H
abbrev rBool1 : List V → Hp → VK → Prop := fun xs H Q => (∃ i, xs = [.int i] ∧ Q (.bl (i != 0)) H) ∨ ∃ k, xs = [.bl k] ∧ Q (.bl k) H
abbrev rStrInt : List V → Hp → VK → Prop := fun xs H Q => ∃ i, xs = [.int i] ∧ i.natAbs.log2 < 1920 ∧ Q (.str (toString i)) H
/-- divmod by a positive divisor, small or wide -/
def rDivmodU : List V → Hp → VK → Prop := fun xs H Q => ∃ i j, xs = [.int i, .int j] ∧ CDivU i j ∧ ∀ p, H p = none → Q (.ref p) (upd H p (.tup [.int (i / j), .int (i % j)]))
theorem call_divmodU {X : Cx} : CallR X (.builtin "divmod") rDivmodU := by
  intro pins s σ H xs us Q I r h
  obtain ⟨i, j, rfl, hc, q⟩ := h
  obtain ⟨u, w', rfl, ⟨t, rfl⟩, ⟨t', rfl⟩⟩ := vals2 r
  have hn : H s.heap.objs.size = none := I.hok.fresh (Nat.le_refl _)
  have fin : 0 < j → (EP X pins σ Q (.ref s.heap.objs.size) { s with heap := s.heap.push { cls := .type "tuple", data := .seq #[.int (i / j) s.toks, .int (i % j) (s.toks + 1)] }, toks := s.toks + 2 }) := fun hj => by
    refine ⟨.ref s.heap.objs.size, _, ?_, rfl, q _ hn⟩
    refine I.laid (fun b o e => Heap.get?_push_of_some _ e) (Nat.le_refl _) ⟨by simp only [List.length_cons, List.length_nil]; rw [sizeLine_eq]; decide, [.int (i / j) s.toks, .int (i % j) (s.toks + 1)], .cons ⟨_, rfl⟩ (.cons ⟨_, rfl⟩ .nil), ?_⟩
    exact ⟨_, Heap.get?_push_size s.heap rfl, rfl, 0, rfl⟩
  rcases hc with hc | hc
  · have h1 : 0 < j := hc.1
    have h2 : j < 1073741824 := hc.2
    refine divmod_int (by omega) ?_ (.inl (PyProof.noPylong_small (by omega)))
    rw [Int.fdiv_eq_ediv_of_nonneg i (by omega), Int.fmod_eq_emod_of_nonneg i (by omega)]
    exact fin h1
  · have h1 : 0 < j := hc.1
    refine divmod_int (by omega) ?_ (.inl (PyProof.noPylong_of_log2 hc.2))
    rw [Int.fdiv_eq_ediv_of_nonneg i (by omega), Int.fmod_eq_emod_of_nonneg i (by omega)]
    exact fin h1

/-! ### subscripts, slices -/
def rIxU (K : PySem.W.Frag) : R2 := rIx K
theorem ix_U {X : Cx} : IxR X (rIxU X.K) := ix_seq

/-- a slice that is the whole tuple: the tuple itself -/
theorem getItem_tuple_all {prog : Program} {w : World} {A : Around} {E : Value → Shared → Prop} {s : Shared} {t sl : Addr} {items : Array Value} {vl vu : Value} {lo hi : Option Int} {Q : Value → Shared → Prop} (ht : IsTup s.heap t items) (hs : s.heap.IsSliceOf sl vl vu .none) (pl : IsPart vl lo) (pu : IsPart vu hi)
    (hw : HT.sIx items.size 0 lo = 0 ∧ HT.sIx items.size items.size hi = items.size) (h : Q (.ref t) s) : wpAny (model prog w) A (getItem (.ref t) (.ref sl)) Q E s := by
  obtain ⟨os, hos, hcs, hds⟩ := id hs
  have hTs : s.TypeIs (.ref sl) "slice" := ⟨os, hos, hcs⟩
  unfold getItem
  try with_reducible refine wpAny_holding ?_
  first | refine wpAny_bind (wpAny_pure ?_) | skip
  refine wpAny_bind (wpAny_sequenceKey ht.typeIs (by decide) ?_)
  refine wpAny_bind (wpAny_callSpecial?_slot (name := Str.ofString "__getitem__") ht.typeIs PyProof.Rows.slot_tuple_getitem
    (wpAny_call_entry PyProof.Rows.slot_tuple_getitem ht.typeIs entry_tuple_getitem ?_ (args_tuple_getitem _ _)))
  show wpAny _ _ (Builtin.Tuple.tupleItemsOf (.ref t) >>= _) _ _ s
  refine wpAny_bind (PyProof.Rows.tupleItemsOf_ ht ?_)
  refine wpAny_bind (wpAny_typeOf hTs ?_)
  rw [if_pos (by decide)]
  refine wpAny_bind (HT.sliceApplied_gen hs pl pu ?_)
  have hy : ((((HT.sIx items.size 0 lo : Nat) : Int) == 0 && (1 : Int) == 1 && (HT.sIx items.size items.size hi - HT.sIx items.size 0 lo) == items.size) = true) := by
    rw [hw.1, hw.2]
    simp
  show wpAny _ _ (if (((HT.sIx items.size 0 lo : Nat) : Int) == 0 && (1 : Int) == 1 && (HT.sIx items.size items.size hi - HT.sIx items.size 0 lo) == items.size) = true then _ else _) _ _ s
  rw [if_pos hy]
  unfold Builtin.Tuple.tupleIsExact
  refine wpAny_bind (wpAny_bind (wpAny_typeOf ht.typeIs (wpAny_pure ?_)))
  rw [if_pos (by decide)]
  refine wpAny_bind (wpAny_rule ?_)
  first
    | exact wpAny_bind (wpAny_pure (wpAny_pure ⟨_, rfl, wpAny_pure h⟩))
    | exact wpAny_pure ⟨_, rfl, wpAny_pure h⟩
    | exact wpAny_bind (wpAny_pure ⟨_, rfl, wpAny_pure h⟩)
def rSlTW (K : PySem.W.Frag) : V → Option Int → Option Int → Hp → VK → Prop := fun x lo hi H Q => ∃ a xs, x = .ref a ∧ SqT K H a xs ∧
  (HT.sIx xs.length 0 lo = 0 ∧ HT.sIx xs.length xs.length hi = xs.length) ∧ Q (.ref a) H
theorem sl_tupW {X : Cx} : SlR X (rSlTW X.K) := by
  intro pins s σ H x v vl vu lo hi sl Q I rx hs pl pu h
  obtain ⟨a, xs, rfl, hx, hw, q⟩ := h
  cases rx
  obtain ⟨its, r, ht, hz⟩ := I.tuple hx
  have hlen : its.toArray.size = xs.length := by rw [List.size_toArray]; exact r.length.symm
  refine ⟨"tuple", _, PyProof.Rows.slot_tuple_getitem.lookup, ht.typeIs, ?_⟩
  exact getItem_tuple_all ht hs pl pu (by rw [hlen]; exact hw) ⟨.ref a, H, I, rfl, q⟩
def rSlStr : V → Option Int → Option Int → Hp → VK → Prop := fun _ _ _ _ _ => False
def rSlU (K : PySem.W.Frag) : V → Option Int → Option Int → Hp → VK → Prop := fun x lo hi H Q => rSlL K x lo hi H Q ∨ (rSlT K x lo hi H Q ∨ rSlTW K x lo hi H Q)
theorem sl_U {X : Cx} : SlR X (rSlU X.K) := sl_list.or (sl_tup.or sl_tupW)

/-! ### what is walked -/
def iSeq (K : PySem.W.Frag) (te : TE) : TI := fun σ H R => iList K te σ H R ∨ iTup K te σ H R
theorem pi_seq {X : Cx} {tg e : Expr} {te : TE} (h : PE X e te) : PI X tg e (iSeq X.K te) := pi_or (pi_list h) (pi_tup h)
def gTupU (K : PySem.W.Frag) (n : Nat) (t : TGs) : TG := fun v σ H Q => gTup K n t v σ H Q ∨ gLst K n t v σ H Q
theorem pg_tupU {X : Cx} {es : List Expr} {k : Nat} {pos : Pos} {t : TGs} {n : Nat} (hc : X.calm = true) (h : PGs X es t)
    (hn : (assignEach es X.env).length = n := by rfl) (hst : (assignEach es X.env).findIdx? (·.1) = none := by rfl) : PG X (.Tuple es k pos) (gTupU X.K n t) := pg_or (pg_tup hc h hn hst) (pg_lst hc h hn hst)

/-! ### enumerate of a tuple -/
theorem meets_enumerate_newT (l : Addr) (items : Array Value) :
    Meets (Builtin.«enumerate.__new__» ⟨[.type "enumerate", .ref l], []⟩) (fun _ R s => s.heap.IsTuple l items ∧
      R (.ok (.ret (.ref (s.heap.push { cls := .type "tuple_iterator", data := .fields #[.ref l, .int 0 0] }).objs.size)))
        { s with heap := (s.heap.push { cls := .type "tuple_iterator", data := .fields #[.ref l, .int 0 0] }).push { cls := .type "enumerate", data := .fields #[.none, .bool false, .ref s.heap.objs.size, rawInt 0, .none, .none] } }) :=
  .of_wp fun prog w A R s h => by
    obtain ⟨hp, g, d, tk, os⟩ := s; obtain ⟨hl, h⟩ := h
    have hsub := sub_enumerate
    have q1 : ∀ {A' : Around} {E : Value → Shared → Prop} {Q : Value → Shared → Prop}, Q (.ref hp.objs.size) ⟨hp.push { cls := .type "tuple_iterator", data := .fields #[.ref l, .int 0 0] }, g, d, tk, os⟩ → wpAny (model prog w) A' (pyIter (.ref l)) Q E ⟨hp, g, d, tk, os⟩ :=
      fun q => wpAny_pyIter_tuple hl q
    wp_walk using q1
    refine wpAny_stack_any fun st => wpAny_pure ?_
    split
    · rename_i c _ _ _ _ _
      cases (c == Value.type "enumerate")
      · wp_walk using q1
        exact ⟨_, rfl, h⟩
      · wp_walk using q1
        exact ⟨_, rfl, h⟩
    · wp_walk using q1
      exact ⟨_, rfl, h⟩
theorem call_enumerate_tuple {prog : Program} {w : World} {A : Around} {E : Value → Shared → Prop} {s : Shared} {l : Addr} {items : Array Value} {Q : Value → Shared → Prop} (hL : s.heap.IsTuple l items)
    (h : ∀ h', IsEnum h' (s.heap.objs.size + 1) s.heap.objs.size 0 .none → h'.IsTupleIter s.heap.objs.size l 0 → h'.objs.size = s.heap.objs.size + 2 →
      (∀ b o, s.heap.get? b = some o → h'.get? b = some o) → Q (.ref (s.heap.objs.size + 1)) { s with heap := h' }) :
    wpAny (model prog w) A (call (.type "enumerate") [.ref l]) Q E s := by
  refine callType_new F.called_enumerate (by decide) (F.typeCall_enumerate_1 _) (F.newCall_enumerate_1 _) (fun obj => F.args_object_init_2 obj _) F.entry_enumerate_new
    (meets_enumerate_newT l items) ⟨hL, ?_⟩
  have hz : (s.heap.push { cls := .type "tuple_iterator", data := .fields #[.ref l, .int 0 0] }).objs.size = s.heap.objs.size + 1 := Heap.size_push ..
  show _ ∧ _
  rw [hz]
  have he : IsEnum ((s.heap.push { cls := .type "tuple_iterator", data := .fields #[.ref l, .int 0 0] }).push
      { cls := .type "enumerate", data := .fields #[.none, .bool false, .ref s.heap.objs.size, rawInt 0, .none, .none] }) (s.heap.objs.size + 1) s.heap.objs.size 0 .none := by
    have := Heap.get?_push_size (s.heap.push { cls := .type "tuple_iterator", data := .fields #[.ref l, .int 0 0] })
      (o := { cls := .type "enumerate", data := .fields #[.none, .bool false, .ref s.heap.objs.size, rawInt 0, .none, .none] }) rfl
    rw [hz] at this; exact this
  refine ⟨⟨_, he, rfl⟩, h _ he ⟨_, Heap.get?_push_of_some _ (Heap.get?_push_size _ rfl), rfl, rfl⟩ (by rw [Heap.size_push, hz]) fun b o x => Heap.get?_push_of_some _ (Heap.get?_push_of_some _ x)⟩
def IteT (K : PySem.W.Frag) (a : Addr) : It :=
  ⟨fun i H => ∃ (xs : List V) (x : V), SqT K H a xs ∧ xs[i]? = some x, fun i H v H' => ∃ T x, v = .ref T ∧ H T = none ∧ H' = upd H T (.tup [.int (i : Nat), x]) ∧ ∀ xs, SqT K H a xs → xs[i]? = some x, fun i H => ∃ xs : List V, SqT K H a xs ∧ xs.length ≤ i⟩
theorem turn_enumT {P : Program} {w : World} {K : PySem.W.Frag} {elts : List Expr} {kk : Nat} {tpos : Pos} (a e it : Addr) :
    Turn P w K (.Tuple elts kk tpos) (IteT K a) [e, it] e (fun i h => (∃ old, IsEnum h e it ((i : Nat) : Int) old) ∧ h.IsTupleIter it a i ∧ e ≠ it ∧ a ≠ it ∧ a ≠ e) where
  mem := by simp
  obj := fun i h st b hb => by
    obtain ⟨⟨old, he⟩, ⟨o, ho, hc, hd⟩, _⟩ := st
    have e' : b = e ∨ b = it := by simpa using hb
    rcases e' with z | z
    · rw [z]; exact ⟨_, he, fun v q => nomatch q⟩
    · rw [z]; exact ⟨o, ho, fun v q => by rw [hd] at q; cases q⟩
  keep := fun i h h' st k => let ⟨⟨old, he⟩, hi, hne⟩ := st; ⟨⟨old, k e (by simp) _ he⟩, hi.at fun o q => k it (by simp) o q, hne⟩
  item := by
    intro X hP hw hK hc i pins s σ H E I hf st hg
    subst hP hw hK
    obtain ⟨⟨old, he⟩, hit, hne, hai, hae⟩ := st
    obtain ⟨xs, x, hq, hx⟩ := hg
    obtain ⟨its, rv, p, hz⟩ := I.tuple hq
    obtain ⟨u, hu, ru⟩ := rv.get hx
    have hel : e < s.heap.objs.size := Heap.lt_size he
    have hil : it < s.heap.objs.size := by obtain ⟨_, q, _⟩ := hit; exact Heap.lt_size q
    have hlt : i < its.toArray.size := by
      have := (List.getElem?_eq_some_iff.mp hu).1
      simpa using this
    have hef : e ∉ [it, a] := by
      simp only [List.mem_cons, List.not_mem_nil, or_false, not_or]
      exact ⟨hne, fun z => hae z.symm⟩
    have hh1 : X.A.in1.handled = none := I.ok.hd hc
    refine wpAny_pyNext_enum_itemC (P := fun i v => its.toArray[i]? = some v) (St := fun i h => h.IsTupleIter it a i ∧ h.IsTuple a its.toArray) (Draws.tuple hh1 it a hai its.toArray) he ⟨hit, p⟩ hlt hne hef fun y h' tk hy ho hst' hT hsz hk => ?_
    have ey : y = u := by
      have h1 : its.toArray[i]? = some u := by simpa using hu
      exact Option.some.inj (hy.symm.trans h1)
    subst ey
    obtain ⟨hit', hp'⟩ := hst'
    refine ⟨_, rfl, wpAny_letOwnedTupleGo_enum (s := { s with heap := h', toks := tk + 1 }) ho fun h'' he' sb => ?_⟩
    have hT2 : h''.get? s.heap.objs.size = some { cls := .type "tuple", data := .seq #[.int i tk, y] } := (sb.2 _ (Nat.ne_of_gt hel)).trans hT
    have new : ObjOk X.prog X.w (upd H s.heap.objs.size (.tup [.int (i : Nat), x])) h'' s.heap.objs.size (.tup [.int (i : Nat), x]) :=
      ⟨by show 2 ≤ sizeLine; decide, [.int i tk, y], .cons ⟨_, rfl⟩ (.cons ru .nil), ⟨_, hT2, rfl, _, rfl⟩⟩
    have I1 : L2.Inv X pins σ (upd H s.heap.objs.size (.tup [.int (i : Nat), x])) { s with heap := h'', toks := tk + 1 } :=
      I.turnedNew (ch := [e, it]) (fun b ob hb q => (sb.2 b (fun z => hb (by simp [z]))).trans (hk b ob (fun z => hb (by simp [z])) (fun z => hb (by simp [z])) q)) hf (Nat.le_refl _) new
    refine ⟨.ref s.heap.objs.size, _, I1, rfl, ⟨_, x, rfl, I.hok.fresh (Nat.le_refl _), rfl, fun ys hy => by rw [I.tuple_inj hy hq]; exact hx⟩, ⟨⟨y, ?_⟩, hit'.at fun o q => (sb.2 it (Ne.symm hne)).trans q, hne, hai, hae⟩, fun b hb => ?_⟩
    · have e1 : ((i + 1 : Nat) : Int) = (i : Int) + 1 := by omega
      rw [e1]; exact he'
    · have hb' : b < s.heap.objs.size := by
        have e' : b = e ∨ b = it := by simpa using hb
        rcases e' with z | z
        · rw [z]; exact hel
        · rw [z]; exact hil
      rw [upd_ne (Nat.ne_of_lt hb')]
      exact (hf b hb).1
  done := by
    intro X hP hw hK hc i pins s σ H E I hf st hg
    subst hP hw hK
    obtain ⟨⟨old, he⟩, hit, hne, hai, hae⟩ := st
    obtain ⟨xs, hq, hx⟩ := hg
    obtain ⟨its, rv, p, hz⟩ := I.tuple hq
    obtain ⟨f0, f1, f2, f3, f4, f5⟩ := hf it (by simp)
    have hl := rv.length
    have hh1 : X.A.in1.handled = none := I.ok.hd hc
    have D : Draws X.prog X.w X.A.in1 it [it, a] i (fun _ _ => False) (fun j h => j = i ∧ h.IsTupleIter it a i ∧ h.IsTuple a its.toArray) :=
      { live := fun j h st => let ⟨o, ho, _⟩ := st.2.1; ⟨o, ho⟩
        frame := fun j h h' st hk => ⟨st.1, st.2.1.at fun o e => hk it (by simp) o e, st.2.2.at fun o e => hk a (by simp) o e⟩
        item := fun j s Q E hj st _ => absurd st.1 (Nat.ne_of_lt hj)
        done := fun s Q E st hE => wpAny_nextOf_tuple_end hh1 st.2.1 st.2.2 (by simp; omega) hE }
    exact wpAny_pyNext_enum_endD D he ⟨rfl, hit, p⟩ fun h' eb => ⟨rfl, I.turned (t' := s.toks) (fun b o hb q => eb b o hb q) f0 f1 f3 f4 f5⟩
  self := fun A i s Q E st h => let ⟨⟨_, he⟩, _⟩ := st; wpAny_pyIter_enum he h
def iEnumT (K : PySem.W.Frag) (ta : TA) : TI := fun σ H R => ta σ H fun vs H1 => ∃ a xs, vs = [.ref a] ∧ SqT K H1 a xs ∧ R (IteT K a) H1
theorem pi_enumT {X : Cx} {e : Expr} {ta : TA} {p pos tpos : Pos} {elts : List Expr} {kk : Nat} (hg : Gl X "enumerate") (hm : X.mg "enumerate" = none) (ha : PA X [e] ta) (hs : starEach [e] X.env = [(false, eval e X.env)] := by rfl) :
    PI X (.Tuple elts kk tpos) (.Call (.Name "enumerate" p) [e] [] pos) (iEnumT X.K ta) := by
  refine ⟨fun pins s σ H R I h => ?_⟩
  refine Call_ (ld_blt I hg hm boot_enumerate (PyProof.Rows.callWith_type1 (thn (ha.run pos pins s σ H _ I h) fun us s1 ⟨vs, H1, I1, r1, q1⟩ => ?_) hs rfl))
  obtain ⟨a, xs, ex, hq, q⟩ := q1
  subst ex
  cases r1 with
  | cons r rr =>
    cases rr
    cases r
    obtain ⟨its, rv, p', hz⟩ := I1.tuple hq
    have la : a < s1.heap.objs.size := p'.lt
    refine call_enumerate_tuple p' fun h' he hit hsz hk => wpAny_pyIter_enum he ?_
    have I2 : L2.Inv X pins σ H1 { s1 with heap := h' } := I1.kept (t' := s1.toks) hk
    refine ⟨s1.heap.objs.size + 1, [s1.heap.objs.size + 1, s1.heap.objs.size], _, _, H1, rfl, I2, turn_enumT a (s1.heap.objs.size + 1) s1.heap.objs.size, ⟨⟨.none, he⟩, hit, Nat.succ_ne_self _, Nat.ne_of_lt la, Nat.ne_of_lt (Nat.lt_succ_of_lt la)⟩, fun b hb => ?_, q⟩
    have e' : b = s1.heap.objs.size + 1 ∨ b = s1.heap.objs.size := by simpa using hb
    have hle : s1.heap.objs.size ≤ b := by
      rcases e' with z | z
      · rw [z]; exact Nat.le_add_right _ _
      · rw [z]; exact Nat.le_refl _
    exact I1.fpOk hle (I1.hok.fresh hle)
theorem walk_enumT {K : PySem.W.Frag} {a : Addr} {xs : List V} : Walk (IteT K a) xs.length (fun H => SqT K H a xs) (YPair (fun i => some (.int (i : Nat))) (fun i => xs[i]?)) := by
  refine ⟨fun i _ hi q => ⟨xs, xs[i], q, by simp [hi]⟩, fun _ q => ⟨xs, q, Nat.le_refl _⟩, fun i H v H' _ q y => ?_⟩
  obtain ⟨T, x, h1, h2, h3, h4⟩ := y
  exact ⟨T, .int (i : Nat), x, h1, h2, h3, rfl, h4 xs q⟩
def iEnumU (K : PySem.W.Frag) (ta : TA) : TI := fun σ H R => iEnum K ta σ H R ∨ iEnumT K ta σ H R
theorem pi_enumU {X : Cx} {e : Expr} {ta : TA} {p pos tpos : Pos} {elts : List Expr} {kk : Nat} (hg : Gl X "enumerate") (hm : X.mg "enumerate" = none) (ha : PA X [e] ta) (hs : starEach [e] X.env = [(false, eval e X.env)] := by rfl) :
    PI X (.Tuple elts kk tpos) (.Call (.Name "enumerate" p) [e] [] pos) (iEnumU X.K ta) := pi_or (pi_enum hg hm ha hs) (pi_enumT hg hm ha hs)
def iZipU (K : PySem.W.Frag) (ta : TA) : TI := RZ.iZipA K ta
theorem pi_zipU {X : Cx} {e e2 : Expr} {ta : TA} {p pos tpos : Pos} {elts : List Expr} {kk : Nat} (hg : Gl X "zip") (hm : X.mg "zip" = none) (ha : PA X [e, e2] ta)
    (hs : starEach [e, e2] X.env = (false, eval e X.env) :: starEach [e2] X.env := by rfl) (hpl : (backTo pos (starEach [e2] X.env)).any (·.1) = false := by rfl) :
    PI X (.Tuple elts kk tpos) (.Call (.Name "zip" p) [e, e2] [] pos) (iZipU X.K ta) := RZ.pi_zipA hg hm ha hs hpl

/-! ### own defs, classes, constants, errors -/
theorem pe_gint {X : Cx} {x : Str} {i : Int} {pos : Pos} (hg : Gl X x) (hm : ∃ t, X.mg x = some (.int i t)) (hd : (x == ("__debug__" : Str)) = false := by decide) : PE X (.Name x pos) (tC (.int i)) := by
  obtain ⟨t, hm⟩ := hm
  exact pe_glob hg hm ⟨t, rfl⟩ hd
theorem pe_gstr {X : Cx} {x z : Str} {pos : Pos} (hg : Gl X x) (hm : ∃ t, X.mg x = some (.str z t)) (hd : (x == ("__debug__" : Str)) = false := by decide) : PE X (.Name x pos) (tC (.str z)) := by
  obtain ⟨t, hm⟩ := hm
  exact pe_glob hg hm ⟨t, rfl⟩ hd

/-- a def of the module, as callers see it -/
def CalOk (P : Program) (w : World) (K : PySem.W.Frag) (mg : Str → Option Value) (base : Heap) (x : Str) (k : Nat) (ps : List Str) (sp : Sp) : Prop :=
  ∃ fd : FuncData, FnOk P w K mg base (L2N.CX P w) k (He.ga K x) fd ps sp ∧ mg x = some (.ref (He.ga K x)) ∧ PySem.W.keepIn K (.ref (He.ga K x)) = true ∧ Binds K fd ps []
/-- .. called with the last arguments left to their defaults -/
def CalDf (P : Program) (w : World) (K : PySem.W.Frag) (mg : Str → Option Value) (base : Heap) (x : Str) (k : Nat) (ps : List Str) (sp : Sp) (dvs : List V) : Prop :=
  ∃ (fd : FuncData) (ds : List Value), FnOk P w K mg base (L2N.CX P w) k (He.ga K x) fd ps sp ∧ mg x = some (.ref (He.ga K x)) ∧ PySem.W.keepIn K (.ref (He.ga K x)) = true ∧ Vals dvs ds ∧ Binds K fd ps ds
section
variable {X : Cx} {k : Nat} {ps : List Str} {sp : Sp} {E : XK} {x : Str} {p pos : Pos} {e : Expr} {es : List Expr} {t : TA} {dvs : List V}
theorem pe_callC (c : CalOk X.prog X.w X.K X.mg X.base x k ps sp) (hr : Room k X.A) (hg : Gl X x) (hx : Passes (L2N.CX X.prog X.w) X E)
    (ha : PA X (e :: es) t) (hdb : (x == ("__debug__" : Str)) = false := by decide) (he : starEach (e :: es) X.env = (false, eval e X.env) :: starEach es X.env := by rfl) (hpl : (backTo pos (starEach es X.env)).any (·.1) = false := by rfl) :
    PE X (.Call (.Name x p) (e :: es) [] pos) (tCall sp [] E t) := by
  obtain ⟨fd, F, hm, hk, hb⟩ := c
  exact pe_call F hr hg hm hk hb .nil hx ha hdb he hpl
theorem pe_call0C (c : CalOk X.prog X.w X.K X.mg X.base x k ps sp) (hr : Room k X.A) (hg : Gl X x) (hx : Passes (L2N.CX X.prog X.w) X E)
    (hdb : (x == ("__debug__" : Str)) = false := by decide) : PE X (.Call (.Name x p) [] [] pos) (tCall sp [] E tNil) := by
  obtain ⟨fd, F, hm, hk, hb⟩ := c
  exact pe_call0 F hr hg hm hk hb .nil hx hdb
theorem pe_callD (c : CalDf X.prog X.w X.K X.mg X.base x k ps sp dvs) (hr : Room k X.A) (hg : Gl X x) (hx : Passes (L2N.CX X.prog X.w) X E)
    (ha : PA X (e :: es) t) (hdb : (x == ("__debug__" : Str)) = false := by decide) (he : starEach (e :: es) X.env = (false, eval e X.env) :: starEach es X.env := by rfl) (hpl : (backTo pos (starEach es X.env)).any (·.1) = false := by rfl) :
    PE X (.Call (.Name x p) (e :: es) [] pos) (tCall sp dvs E t) := by
  obtain ⟨fd, ds, F, hm, hk, hd, hb⟩ := c
  exact pe_call F hr hg hm hk hb hd hx ha hdb he hpl
end
theorem passLN {X : Cx} : Passes (L2N.CX X.prog X.w) X E0 := fun _ _ _ _ _ _ _ h => by
  obtain ⟨_, _, _, _, _, _, _, _, _, _, _, _, z⟩ := h
  exact z.elim
/-- a class with an __init__ of its own -/
def MakOk (P : Program) (w : World) (K : PySem.W.Frag) (mg : Str → Option Value) (base : Heap) (x : Str) (k : Nat) (ps : List Str) (sp : Sp) : Prop :=
  ∃ (f : Addr) (fd : FuncData), Mk K (He.ga K x) f ∧ FnOk P w K mg base (L2N.CX P w) k f fd ps sp ∧ mg x = some (.ref (He.ga K x)) ∧ Binds K fd ps []
section
variable {X : Cx} {k : Nat} {ps : List Str} {sp : Sp} {E : XK} {x : Str} {p pos : Pos} {e : Expr} {es : List Expr} {t : TA}
theorem pe_makeC (c : MakOk X.prog X.w X.K X.mg X.base x k ps sp) (hr : Room (k + 1) X.A) (hg : Gl X x) (hx : Passes (L2N.CX X.prog X.w) X E)
    (ha : PA X (e :: es) t) (hdb : (x == ("__debug__" : Str)) = false := by decide) (he : starEach (e :: es) X.env = (false, eval e X.env) :: starEach es X.env := by rfl) (hpl : (backTo pos (starEach es X.env)).any (·.1) = false := by rfl) :
    PE X (.Call (.Name x p) (e :: es) [] pos) (tMake (He.ga X.K x) sp [] E t) := by
  obtain ⟨f, fd, M, F, hm, hb⟩ := c
  exact pe_make M F hr hg hm hb .nil hx ha hdb he hpl
end
/-- raise X('..') -/
def tRaiseC (C : Addr) (W : WX) : TS := fun _ σ H => W (.ref C) none σ H
theorem ps_raiseC {X : Cx} {W : WX} {x m : Str} {j : Nat} {p p2 pos pos2 : Pos} (hc : X.calm = true) (tk : L2N.Takes X W) (hx : PySem.W.excIn X.K (He.ga X.K x) He.veBase "ValueError.__new__" = true ∧ PySem.W.keepIn X.K (.ref (He.ga X.K x)) = true ∧
      PySem.W.subIn X.K (.ref (He.ga X.K x)) (.type "BaseException") = some true ∧ PySem.W.typeIn X.K (.ref (He.ga X.K x)) = some (.type "type")) (hm : X.mg x = some (.ref (He.ga X.K x))) (hg : Gl X x := by rfl)
    (hdb : (x == ("__debug__" : Str)) = false := by decide) : PS X (.Raise (some (.Call (.Name x p) [.Constant (.str m) j p2] [] pos)) none pos2) (tRaiseC (He.ga X.K x) W) :=
  L2N.ps_raise hc tk (L2N.pmk_own PySem.F.excBase_ValueError hx.1 hm hx.2.1 (raises_own hx.2.2.1 hx.2.2.2) hg hdb)

/-! ### the facts of the top -/
structure Facts (fa : List He.Fa) (fn : List He.DefD) (K : PySem.W.Frag) (mg : Str → Option Value) : Prop where
  says : He.SaysD fa fn K
  here : ∃ h : Heap, K.In h ∧ h.Ns mainGlobals mg
section
variable {fa : List He.Fa} {fn : List He.DefD} {K : PySem.W.Frag} {mg : Str → Option Value}
theorem Facts.glo (T : Facts fa fn K mg) (i : Nat) {x : Str} (h : fa[i]? = some (.glo x) := by rfl) : mg x = some (.ref (He.ga K x)) := by
  obtain ⟨hp, X, G⟩ := T.here
  exact He.glo_ok X G (T.says.fact i h)
theorem Facts.free (T : Facts fa fn K mg) (i : Nat) {x : Str} (h : fa[i]? = some (.free x) := by rfl) : mg x = none := by
  obtain ⟨hp, X, G⟩ := T.here
  exact He.free_ok X G (T.says.fact i h)
theorem Facts.gint (T : Facts fa fn K mg) (i : Nat) {x : Str} {n : Int} (h : fa[i]? = some (.int x n) := by rfl) : ∃ t, mg x = some (.int n t) := by
  obtain ⟨hp, X, G⟩ := T.here
  exact He.int_ok X G (T.says.fact i h)
theorem Facts.gstr (T : Facts fa fn K mg) (i : Nat) {x z : Str} (h : fa[i]? = some (.str x z) := by rfl) : ∃ t, mg x = some (.str z t) := by
  obtain ⟨hp, X, G⟩ := T.here
  exact He.str_ok X G (T.says.fact i h)
theorem Facts.exc (T : Facts fa fn K mg) (i : Nat) {x : Str} (h : fa[i]? = some (.exc x) := by rfl) : PySem.W.excIn K (He.ga K x) He.veBase "ValueError.__new__" = true ∧ PySem.W.keepIn K (.ref (He.ga K x)) = true ∧
      PySem.W.subIn K (.ref (He.ga K x)) (.type "BaseException") = some true ∧ PySem.W.typeIn K (.ref (He.ga K x)) = some (.type "type") := He.exc_ok (T.says.fact i h)
theorem Facts.cls (T : Facts fa fn K mg) (i : Nat) {x : Str} (h : fa[i]? = some (.cls x) := by rfl) : Cls K (He.ga K x) := He.cls_ok (T.says.fact i h)
theorem Facts.noat (T : Facts fa fn K mg) (i : Nat) {x f : Str} (h : fa[i]? = some (.noat x f) := by rfl) : NoAttr K (He.ga K x) f := He.noat_ok (T.says.fact i h)
theorem Facts.mkr (T : Facts fa fn K mg) (i : Nat) {x : Str} (h : fa[i]? = some (.mkr x) := by rfl) : Mk K (He.ga K x) (He.ma K (He.ga K x) "__init__") := He.mkr_ok (T.says.fact i h)
theorem Facts.meth (T : Facts fa fn K mg) (i : Nat) {x m : Str} (h : fa[i]? = some (.meth x m) := by rfl) : Meth K (He.ga K x) m (He.ma K (He.ga K x) m) := He.meth_ok (T.says.fact i h)
/-- a def without defaults keeps its promise: so its callers see it -/
theorem Facts.cal (T : Facts fa fn K mg) {P : Program} {w : World} {base : Heap} {k : Nat} {N ps : List Str} {sp : Sp} (i j : Nat) {d : He.DefD} {x : Str} (hi : fn[i]? = some d) (hd : d.at_ = (x, none)) (hdf : d.dfl = []) (hkw : d.kwd = []) (hj : fa[j]? = some (.glo x))
    (S : FnScope N ps d.scope) (len : ∀ vs H Q E, sp vs H Q E → vs.length = ps.length)
    (hb : ∀ (dV kV doc pm : Value) (an : Option Addr) (cdv ct : Value) (us : List Value), us.length = ps.length → bindArgs (PySem.W.fnOf d.name d.qual d.params d.body d.scope .none kV doc pm an cdv ct) ⟨us, []⟩ = pure (ps.zip us))
    (hbody : ∀ (cdv : Value) (A : Around) (outer : List Env) (s : Shared) (H : Hp) (vs : List V) (Q : VK) (E : XK), Room k (A.deeper (envOfC d.qual d.scope s.heap.objs.size (He.ga K x) cdv)) → sp vs H Q E →
      ∃ t, PSs (cxOf (L2N.CX P w) P w K mg base N d.qual d.scope (He.ga K x) cdv A outer s H E) d.body t ∧ t { nx := fun _ H' => Q .non H', rt := Q } (start N vs) H) :
    CalOk P w K mg base x (k + 1) ps sp := by
  obtain ⟨fd, F⟩ := T.says.def_ i hi
  have e1 : He.fAd K d.at_ = He.ga K x := by rw [hd]; rfl
  rw [e1] at F
  refine ⟨fd, FunD.ok F S len hbody, T.glo j hj, F.kp, ?_⟩
  have F2 : FunD K d.name d.qual d.params d.body d.scope [] [] (He.ga K x) fd := by
    have z1 : d.dvs K = [] := by unfold He.DefD.dvs; rw [hdf]; rfl
    have z2 : d.kws K = [] := by unfold He.DefD.kws; rw [hkw]; rfl
    rw [z1, z2] at F
    exact F
  exact F2.bindsN fun kV doc pm an cdv ct us hl => hb .none kV doc pm an cdv ct us hl
/-- an __init__ -/
theorem Facts.mak (T : Facts fa fn K mg) {P : Program} {w : World} {base : Heap} {k : Nat} {N ps : List Str} {sp : Sp} (i j l : Nat) {d : He.DefD} {x : Str} (hi : fn[i]? = some d) (hd : d.at_ = (x, some ("__init__" : Str))) (hdf : d.dfl = []) (hkw : d.kwd = []) (hj : fa[j]? = some (.glo x)) (hl : fa[l]? = some (.mkr x))
    (S : FnScope N ps d.scope) (len : ∀ vs H Q E, sp vs H Q E → vs.length = ps.length)
    (hb : ∀ (dV kV doc pm : Value) (an : Option Addr) (cdv ct : Value) (us : List Value), us.length = ps.length → bindArgs (PySem.W.fnOf d.name d.qual d.params d.body d.scope .none kV doc pm an cdv ct) ⟨us, []⟩ = pure (ps.zip us))
    (hbody : ∀ (cdv : Value) (A : Around) (outer : List Env) (s : Shared) (H : Hp) (vs : List V) (Q : VK) (E : XK), Room k (A.deeper (envOfC d.qual d.scope s.heap.objs.size (He.fAd K d.at_) cdv)) → sp vs H Q E →
      ∃ t, PSs (cxOf (L2N.CX P w) P w K mg base N d.qual d.scope (He.fAd K d.at_) cdv A outer s H E) d.body t ∧ t { nx := fun _ H' => Q .non H', rt := Q } (start N vs) H) :
    MakOk P w K mg base x (k + 1) ps sp := by
  obtain ⟨fd, F⟩ := T.says.def_ i hi
  have F2 : FunD K d.name d.qual d.params d.body d.scope [] [] (He.fAd K d.at_) fd := by
    have z1 : d.dvs K = [] := by unfold He.DefD.dvs; rw [hdf]; rfl
    have z2 : d.kws K = [] := by unfold He.DefD.kws; rw [hkw]; rfl
    rw [z1, z2] at F
    exact F
  have M := T.mkr l hl
  have e1 : He.fAd K d.at_ = He.ma K (He.ga K x) "__init__" := by rw [hd]; rfl
  refine ⟨He.fAd K d.at_, fd, by rw [e1]; exact M, FunD.ok F S len hbody, T.glo j hj, F2.bindsN fun kV doc pm an cdv ct us hl => hb .none kV doc pm an cdv ct us hl⟩
end
end DK
set_option maxRecDepth 100000
set_option maxHeartbeats 2000000
/-! DK, second part: data, steps between heaps, readings step by step. -/
namespace DK
open PySem PySem.Spec PyProof.Rows L2
abbrev Sg := L2.St

/-! ### data -/
inductive Dat where
  | non | bl (b : Bool) | int (i : Int) | str (s : Str) | lst (ds : List Dat) | tup (ds : List Dat) | obj (C : Addr) (ns : List Str) (ds : List Dat) | exc (C : Addr) (l : Option Int) | dct (kvs : List (List Key × V))
/-- an exception object, caught -/
def ExK (cls : Value) (d : Option Addr) (a : Addr) : HO := .ext fun h => ∃ (oe : Obj) (vs : Array Value), h.get? a = some oe ∧ Zc cls d oe ∧ oe.data = .fields vs
/-- its own dict -/
def ExD (F : Hp) : Option Int → Option Addr → Prop
  | none, d => d = none
  | some n, d => ∃ dx, d = some dx ∧ F dx = some (.xd [("line", .int n)])
theorem ExD.up {F F' : Hp} (e : Same F F') {l : Option Int} {d : Option Addr} (h : ExD F l d) : ExD F' l d := by
  cases l with
  | none => exact h
  | some n =>
    obtain ⟨dx, rfl, q⟩ := h
    exact ⟨dx, rfl, e _ _ q⟩
mutual
/-- v bears the datum in the heap F -/
def RD (F : Hp) : Dat → V → Prop
  | .non, v => v = .non
  | .bl b, v => v = .bl b
  | .int i, v => v = .int i
  | .str s, v => v = .str s
  | .lst ds, v => ∃ a vs, v = .ref a ∧ F a = some (.lst vs) ∧ RDs F ds vs
  | .tup ds, v => ∃ a vs, v = .ref a ∧ F a = some (.tup vs) ∧ RDs F ds vs
  | .obj C ns ds, v => ∃ a dx vs, v = .ref a ∧ F a = some (.ins C dx (ns.zip vs)) ∧ RDs F ds vs
  | .exc C l, v => ∃ a d, v = .ref a ∧ F a = some (ExK (.ref C) d a) ∧ ExD F l d
  | .dct kvs, v => ∃ a, v = .ref a ∧ F a = some (.dT kvs)
def RDs (F : Hp) : List Dat → List V → Prop
  | [], vs => vs = []
  | d :: ds, vs => ∃ v r, vs = v :: r ∧ RD F d v ∧ RDs F ds r
end
abbrev dI (ns : List Int) : List Dat := ns.map Dat.int
/-- a list of ints, a tuple of ints, a list (tuple) of such -/
abbrev dL (ns : List Int) : Dat := .lst (dI ns)
abbrev dT (ns : List Int) : Dat := .tup (dI ns)
abbrev dLL (r : List (List Int)) : Dat := .lst (r.map dL)
abbrev dTT (r : List (List Int)) : Dat := .tup (r.map dT)
abbrev dC (c : Int × Int) : Dat := .tup [.int c.1, .int c.2]
abbrev dLC (cs : List (Int × Int)) : Dat := .lst (cs.map dC)

section
variable {F F' H H' : Hp} {d : Dat} {ds es : List Dat} {v u : V} {vs us : List V}
mutual
theorem RD.up (e : Same F F') : ∀ {d : Dat} {v : V}, RD F d v → RD F' d v
  | .non, _, h => h
  | .bl _, _, h => h
  | .int _, _, h => h
  | .str _, _, h => h
  | .lst ds, v, h => by
    obtain ⟨a, vs, rfl, h1, h2⟩ := h
    exact ⟨a, vs, rfl, e a _ h1, RDs.up e h2⟩
  | .tup ds, v, h => by
    obtain ⟨a, vs, rfl, h1, h2⟩ := h
    exact ⟨a, vs, rfl, e a _ h1, RDs.up e h2⟩
  | .obj C ns ds, v, h => by
    obtain ⟨a, dx, vs, rfl, h1, h2⟩ := h
    exact ⟨a, dx, vs, rfl, e a _ h1, RDs.up e h2⟩
  | .exc C l, v, h => by
    obtain ⟨a, d, rfl, h1, h2⟩ := h
    exact ⟨a, d, rfl, e a _ h1, h2.up e⟩
  | .dct kvs, v, h => by
    obtain ⟨a, rfl, h1⟩ := h
    exact ⟨a, rfl, e a _ h1⟩
theorem RDs.up (e : Same F F') : ∀ {ds : List Dat} {vs : List V}, RDs F ds vs → RDs F' ds vs
  | [], _, h => h
  | d :: ds, vs, h => by
    obtain ⟨v, r, rfl, h1, h2⟩ := h
    exact ⟨v, r, rfl, RD.up e h1, RDs.up e h2⟩
end
theorem RD.int_ {i : Int} : RD F (.int i) (.int i) := rfl
theorem RD.bl_ {b : Bool} : RD F (.bl b) (.bl b) := rfl
theorem RD.str_ {s : Str} : RD F (.str s) (.str s) := rfl
theorem RD.non_ : RD F .non .non := rfl
theorem RDs.nil : RDs F [] [] := rfl
theorem RDs.cons (h : RD F d v) (t : RDs F ds vs) : RDs F (d :: ds) (v :: vs) := ⟨v, vs, rfl, h, t⟩
theorem RDs.len : ∀ {ds : List Dat} {vs : List V}, RDs F ds vs → vs.length = ds.length
  | [], _, h => by rw [show _ = [] from h]; rfl
  | d :: ds, vs, h => by
    obtain ⟨v, r, rfl, _, h2⟩ := h
    exact congrArg Nat.succ (RDs.len h2)
theorem RDs.app : ∀ {ds : List Dat} {vs : List V}, RDs F ds vs → RDs F es us → RDs F (ds ++ es) (vs ++ us)
  | [], _, h, k => by rw [show _ = [] from h]; exact k
  | d :: ds, vs, h, k => by
    obtain ⟨v, r, rfl, h1, h2⟩ := h
    exact ⟨v, r ++ us, rfl, h1, RDs.app h2 k⟩
theorem RDs.snoc (t : RDs F ds vs) (h : RD F d v) : RDs F (ds ++ [d]) (vs ++ [v]) := t.app (RDs.nil.cons h)
theorem RDs.at : ∀ {ds : List Dat} {vs : List V} {i : Nat} {d : Dat}, RDs F ds vs → ds[i]? = some d → ∃ v, vs[i]? = some v ∧ RD F d v
  | [], _, _, _, _, e => by simp at e
  | d :: ds, vs, 0, d', h, e => by
    obtain ⟨v, r, rfl, h1, _⟩ := h
    have e1 : d = d' := Option.some.inj (by simpa using e)
    subst e1
    exact ⟨v, rfl, h1⟩
  | d :: ds, vs, i + 1, d', h, e => by
    obtain ⟨v, r, rfl, _, h2⟩ := h
    exact RDs.at (i := i) h2 (by simpa using e)
theorem RDs.of_at {i : Nat} (t : RDs F ds vs) (e : vs[i]? = some v) : ∃ d, ds[i]? = some d ∧ RD F d v := by
  have hl := t.len
  have hi := (List.getElem?_eq_some_iff.mp e).1
  obtain ⟨d, hd⟩ : ∃ d, ds[i]? = some d := ⟨ds[i]'(by omega), List.getElem?_eq_getElem (by omega)⟩
  obtain ⟨u, hu, r⟩ := t.at hd
  rw [e] at hu
  cases hu
  exact ⟨d, hd, r⟩
theorem RDs.take : ∀ {ds : List Dat} {vs : List V} (n : Nat), RDs F ds vs → RDs F (ds.take n) (vs.take n)
  | ds, vs, 0, _ => by simp; exact RDs.nil
  | [], _, n + 1, h => by rw [show _ = [] from h]; exact RDs.nil
  | d :: ds, vs, n + 1, h => by
    obtain ⟨v, r, rfl, h1, h2⟩ := h
    exact ⟨v, r.take n, rfl, h1, RDs.take n h2⟩
theorem RDs.drop : ∀ {ds : List Dat} {vs : List V} (n : Nat), RDs F ds vs → RDs F (ds.drop n) (vs.drop n)
  | ds, vs, 0, h => h
  | [], _, n + 1, h => by rw [show _ = [] from h]; exact RDs.nil
  | d :: ds, vs, n + 1, h => by
    obtain ⟨v, r, rfl, h1, h2⟩ := h
    exact RDs.drop n h2
theorem RDs.set : ∀ {ds : List Dat} {vs : List V} (n : Nat), RDs F ds vs → RD F d v → RDs F (ds.set n d) (vs.set n v)
  | [], _, n, h, _ => by rw [show _ = [] from h]; exact RDs.nil
  | d' :: ds, vs, 0, h, k => by
    obtain ⟨v', r, rfl, h1, h2⟩ := h
    exact ⟨v, r, rfl, k, h2⟩
  | d' :: ds, vs, n + 1, h, k => by
    obtain ⟨v', r, rfl, h1, h2⟩ := h
    exact ⟨v', r.set n v, rfl, h1, RDs.set n h2 k⟩
/-- ints are their values -/
theorem RDs.ints : ∀ {ns : List Int} {vs : List V}, RDs F (ns.map Dat.int) vs → vs = ns.map V.int
  | [], _, h => h
  | n :: ns, vs, h => by
    obtain ⟨v, r, rfl, h1, h2⟩ := h
    rw [show v = V.int n from h1, RDs.ints (ns := ns) h2]; rfl
theorem RDs.of_ints : ∀ (ns : List Int), RDs F (ns.map Dat.int) (ns.map V.int)
  | [] => rfl
  | n :: ns => ⟨_, _, rfl, rfl, RDs.of_ints ns⟩
theorem RDs.eq_len {n : Nat} (t : RDs F ds vs) (h : ds.length = n) : vs.length = n := t.len.trans h
end

/-! ### steps between heaps: F is frozen, H stands -/
def NT : HO → Prop
  | .tup _ => False
  | _ => True
structure Stp (S : List Addr) (F H F' H' : Hp) : Prop where
  pre : Same F H
  ex : Same F F'
  inn : Same F' H'
  own : ∀ p o, p ∉ S → F p = none → H p = some o → NT o → H' p = some o ∧ F' p = none
  dom : ∀ p, H' p = none → H p = none
  tup : ∀ p xs, H p = some (.tup xs) → H' p = some (.tup xs)
/-- the object at L is ours alone: not frozen -/
structure Own (F H : Hp) (L : Addr) (o : HO) : Prop where
  f : F L = none
  h : H L = some o
  nt : NT o
def Fre (H : Hp) (L : Addr) : Prop := H L = none
section
variable {S S' : List Addr} {F H F1 H1 F2 H2 : Hp} {p L : Addr} {o o' : HO} {d : Dat} {ds : List Dat} {v : V} {vs : List V}
theorem Stp.refl (h : Same F H) : Stp S F H F H := ⟨h, Same.refl F, h, fun _ _ _ a b _ => ⟨b, a⟩, fun _ a => a, fun _ _ e => e⟩
theorem Stp.trans (a : Stp S F H F1 H1) (b : Stp S' F1 H1 F2 H2) (h : ∀ p ∈ S', p ∈ S ∨ H p = none) : Stp S F H F2 H2 :=
  ⟨a.pre, a.ex.trans b.ex, b.inn, fun p o n f e nt => by
    obtain ⟨h1, h2⟩ := a.own p o n f e nt
    exact b.own p o (fun z => (h p z).elim n fun q => by rw [q] at e; cases e) h2 h1 nt, fun p e => a.dom p (b.dom p e), fun p xs e => b.tup p xs (a.tup p xs e)⟩
theorem Stp.up (a : Stp S F H F1 H1) (h : RD F d v) : RD F1 d v := h.up a.ex
theorem Stp.ups (a : Stp S F H F1 H1) (h : RDs F ds vs) : RDs F1 ds vs := h.up a.ex
theorem Stp.keep (a : Stp S F H F1 H1) (n : L ∉ S) (h : Own F H L o) : Own F1 H1 L o := let ⟨h1, h2⟩ := a.own L o n h.f h.h h.nt; ⟨h2, h1, h.nt⟩
theorem Stp.back (a : Stp S F H F1 H1) (h : Fre H1 L) : Fre H L := a.dom L h
theorem Own.ne (h : Own F H p o) (n : Fre H L) : p ≠ L := ne_of_none h.h n
theorem RD.ne {a : Addr} (e : Same F H) (h : F a = some o) (n : Own F H L o') : a ≠ L := ne_of_none h n.f
/-- a new frozen thing -/
theorem Stp.new (h : Same F H) (n : H p = none) : Stp S F H (upd F p o) (upd H p o) := by
  have nF : F p = none := h.free n
  refine ⟨h, fun b x e => by rw [upd_ne (ne_of_none e nF)]; exact e, fun b x e => ?_, fun b x _ f e _ => ?_, fun b e => ?_, fun b xs e => by rw [upd_ne (ne_of_none e n)]; exact e⟩
  · by_cases z : b = p
    · subst z; rw [upd_same] at e ⊢; exact e
    · rw [upd_ne z] at e ⊢; exact h b x e
  · have z := ne_of_none e n
    rw [upd_ne z, upd_ne z]; exact ⟨e, f⟩
  · by_cases z : b = p
    · subst z; exact n
    · rw [upd_ne z] at e; exact e
/-- a new thing of ours -/
theorem Stp.newO (h : Same F H) (n : H p = none) : Stp S F H F (upd H p o) := by
  refine ⟨h, Same.refl F, fun b x e => by rw [upd_ne (ne_of_none (h b x e) n)]; exact h b x e, fun b x _ f e _ => ?_, fun b e => ?_, fun b xs e => by rw [upd_ne (ne_of_none e n)]; exact e⟩
  · rw [upd_ne (ne_of_none e n)]; exact ⟨e, f⟩
  · by_cases z : b = p
    · subst z; exact n
    · rw [upd_ne z] at e; exact e
/-- a thing of ours changes -/
theorem Stp.put (h : Same F H) (n : Own F H L o) : Stp [L] F H F (upd H L o') := by
  refine ⟨h, Same.refl F, fun b x e => by rw [upd_ne (ne_of_none e n.f)]; exact h b x e, fun b x z f e _ => ?_, fun b e => ?_, fun b xs e => ?_⟩
  · rw [upd_ne (fun q => z (by rw [q]; exact List.mem_cons_self))]; exact ⟨e, f⟩
  · by_cases z : b = L
    · subst z; rw [upd_same] at e; cases e
    · rw [upd_ne z] at e; exact e
  · by_cases z : b = L
    · subst z
      have q := n.nt
      rw [n.h] at e
      cases e
      exact q.elim
    · rw [upd_ne z]; exact e
/-- a thing of ours is frozen -/
theorem Stp.frz (h : Same F H) (n : Own F H L o) : Stp [L] F H (upd F L o) H := by
  refine ⟨h, fun b x e => by rw [upd_ne (ne_of_none e n.f)]; exact e, fun b x e => ?_, fun b x z f e _ => ?_, fun b e => e, fun b xs e => e⟩
  · by_cases z : b = L
    · subst z; rw [upd_same] at e; rw [← e]; exact n.h
    · rw [upd_ne z] at e; exact h b x e
  · rw [upd_ne (fun q => z (by rw [q]; exact List.mem_cons_self))]; exact ⟨e, f⟩
/-- a tuple is frozen -/
theorem Stp.frzT {p : Addr} {xs : List V} (h : Same F H) (e : H p = some (.tup xs)) : ∃ F', Stp [] F H F' H ∧ F' p = some (.tup xs) := by
  cases q : F p with
  | some o =>
    have := h p o q
    rw [e] at this
    cases this
    exact ⟨F, Stp.refl h, q⟩
  | none =>
    refine ⟨upd F p (.tup xs), ⟨h, fun b x z => by rw [upd_ne (ne_of_none z q)]; exact z, fun b x z => ?_, fun b x _ f z nt => ?_, fun b z => z, fun b xs z => z⟩, upd_same⟩
    · by_cases w : b = p
      · subst w; rw [upd_same] at z; rw [← z]; exact e
      · rw [upd_ne w] at z; exact h b x z
    · have w : b ≠ p := by
        rintro rfl
        rw [e] at z
        cases z
        exact nt
      rw [upd_ne w]; exact ⟨z, f⟩
theorem nm_nil : p ∉ ([] : List Addr) := by simp
theorem nm_cons (h : p ≠ L) (t : p ∉ S) : p ∉ L :: S := by
  simp only [List.mem_cons, not_or]; exact ⟨h, t⟩
theorem sub_nil : ∀ q ∈ ([] : List Addr), q ∈ S ∨ H q = none := by simp
theorem sub_in (h : L ∈ S) (t : ∀ q ∈ S', q ∈ S ∨ H q = none) : ∀ q ∈ L :: S', q ∈ S ∨ H q = none := fun q hq => by
  rcases List.mem_cons.mp hq with e | e
  · subst e; exact .inl h
  · exact t q e
theorem sub_new (h : Fre H L) (t : ∀ q ∈ S', q ∈ S ∨ H q = none) : ∀ q ∈ L :: S', q ∈ S ∨ H q = none := fun q hq => by
  rcases List.mem_cons.mp hq with e | e
  · subst e; exact .inr h
  · exact t q e
end

/-! ### readings step by step -/
section
variable {K : PySem.W.Frag} {S : List Addr} {F H : Hp} {σ : Sg} {Q : VK} {D : Ends} {ta tb te : TE} {t u : TS} {c c2 : TT} {x y v : V} {i j : Int}
theorem st_seq (k : t { D with nx := u D } σ H) : tSeq t u D σ H := k
theorem st_next (k : D.nx σ H) : tNext D σ H := k
theorem st_ret (k : te σ H D.rt) : tRet te D σ H := k
theorem st_retN (k : D.rt .non H) : tRetN D σ H := k
theorem st_drop (k : te σ H fun _ H1 => D.nx σ H1) : tDrop te D σ H := k
theorem st_if (k : c σ H fun b H1 => if b = true then t D σ H1 else u D σ H1) : tIfS c t u D σ H := k
theorem st_asg {g : TG} (k : te σ H fun x H1 => g x σ H1 D.nx) : tAsg te g D σ H := k
theorem st_gname {n : Nat} {σ' : Sg} {Q : Sg → Hp → Prop} (e : σ.set n (some v) = σ') (k : Q σ' H) : gName n v σ H Q := by
  show Q (σ.set n (some v)) H
  rw [e]; exact k
theorem st_var {n : Nat} (h : σ[n]? = some (some v)) (k : Q v H) : tVar n σ H Q := ⟨v, h, k⟩
theorem st_c (k : Q v H) : tC v σ H Q := k
theorem st_op {r : R2} (k : ta σ H fun x H1 => tb σ H1 fun y H2 => r x y H2 Q) : tOp r ta tb σ H Q := k
theorem st_un {r : V → Hp → VK → Prop} (k : ta σ H fun x H1 => r x H1 Q) : tUn r ta σ H Q := k
theorem st_rU {g : Int → V} (k : Q (g i) H) : rU g (.int i) H Q := ⟨i, rfl, k⟩
theorem st_test {Q : Bool → Hp → Prop} (k : te σ H fun x H' => ∃ b, x = .bl b ∧ Q b H') : tTest te σ H Q := k
theorem st_B {Q : Bool → Hp → Prop} (k : te σ H fun x H' => ∃ b, x = .bl b ∧ Q b H') : tB te σ H Q := k
theorem st_exb {b : Bool} {Q : Bool → Prop} (k : Q b) : ∃ b', V.bl b = .bl b' ∧ Q b' := ⟨b, rfl, k⟩
theorem st_not {Q : Bool → Hp → Prop} (k : c σ H fun b H1 => Q (!b) H1) : tNot c σ H Q := k
theorem st_and {Q : Bool → Hp → Prop} (k : c σ H fun b H1 => if b = true then c2 σ H1 Q else Q false H1) : tAnd c c2 σ H Q := k
theorem st_or {Q : Bool → Hp → Prop} (k : c σ H fun b H1 => if b = true then Q true H1 else c2 σ H1 Q) : tOr c c2 σ H Q := k
theorem st_notV (k : te σ H fun x H1 => ∃ b, x = .bl b ∧ Q (.bl (!b)) H1) : tNotV te σ H Q := k
theorem st_andV (k : ta σ H fun x H1 => ∃ b, x = .bl b ∧ if b = true then tb σ H1 Q else Q (.bl false) H1) : tAndV ta tb σ H Q := k
theorem st_orV (k : ta σ H fun x H1 => ∃ b, x = .bl b ∧ if b = true then Q (.bl true) H1 else tb σ H1 Q) : tOrV ta tb σ H Q := k
theorem st_ifE (k : c σ H fun b H1 => if b = true then ta σ H1 Q else tb σ H1 Q) : tIf c ta tb σ H Q := k
theorem st_chain {r r' : R2} {tc : TE} (k : ta σ H fun x H1 => tb σ H1 fun y H2 => r x y H2 fun z H3 => ∃ b, z = .bl b ∧ (if b = true then tc σ H3 fun w' H4 => r' y w' H4 Q else Q (.bl false) H3)) : tChain r r' ta tb tc σ H Q := k
theorem st_nil {Q : List V → Hp → Prop} (k : Q [] H) : tNil σ H Q := k
theorem st_cons {tr : TA} {Q : List V → Hp → Prop} (k : ta σ H fun x H1 => tr σ H1 fun xs H2 => Q (x :: xs) H2) : tCons ta tr σ H Q := k
theorem st_cb {r : List V → Hp → VK → Prop} {t : TA} (k : t σ H fun vs H1 => r vs H1 Q) : tCB r t σ H Q := k
theorem st_call {sp : Sp} {dvs : List V} {E : XK} {t : TA} (k : t σ H fun vs H1 => sp (vs ++ dvs) H1 Q E) : tCall sp dvs E t σ H Q := k
theorem st_fld {f : Str} (k : ta σ H fun x H1 => ∃ a C dx fs v, x = .ref a ∧ H1 a = some (.ins C dx fs) ∧ Cls K C ∧ NoAttr K C f ∧ fs.lookup f = some v ∧ Q v H1) : tFld K ta f σ H Q := k
theorem st_gsub {to ti : TE} {r : TSet} {Q : Sg → Hp → Prop} (k : to σ H fun o H1 => ti σ H1 fun i H2 => r o i v H2 fun H3 => Q σ H3) : gSub to ti r v σ H Q := k
/-! operators on ints -/
theorem st_add (k : Q (.int (i + j)) H) : rAddU K (.int i) (.int j) H Q := .inl ⟨i, j, rfl, rfl, k⟩
theorem st_I0 {g : Int → Int → V} (k : Q (g i j) H) : rI0 g (.int i) (.int j) H Q := ⟨i, j, rfl, rfl, k⟩
theorem st_mod (h : 0 < j) (k : Q (.int (i % j)) H) : rI (fun _ j => 0 < j) (fun i j => .int (i % j)) (.int i) (.int j) H Q := ⟨i, j, rfl, rfl, h, k⟩
theorem st_mul (h : CMulU i j) (k : Q (.int (i * j)) H) : rMulU (.int i) (.int j) H Q := .inl ⟨i, j, rfl, rfl, h, k⟩
theorem st_div (h : CDivU i j) (k : Q (.int (i / j)) H) : rDivU (.int i) (.int j) H Q := ⟨i, j, rfl, rfl, h, k⟩
theorem mulL (h : -(2 ^ 64) < i ∧ i < 2 ^ 64) : CMulU i j := .inl (.inl h)
theorem mulR (h : -(2 ^ 64) < j ∧ j < 2 ^ 64) : CMulU i j := .inl (.inr h)
theorem divS (h : 0 < j ∧ j < 1073741824) : CDivU i j := .inl h
theorem st_eqI (k : Q (.bl (decide (i = j))) H) : rEqU K (.int i) (.int j) H Q := .inl ⟨rfl, by rw [show decide (V.int i = V.int j) = decide (i = j) by simp]; exact k⟩
theorem st_neI (k : Q (.bl (!decide (i = j))) H) : rNeU K (.int i) (.int j) H Q := .inl ⟨rfl, by rw [show decide (V.int i = V.int j) = decide (i = j) by simp]; exact k⟩
theorem st_isN1 (k : Q (.bl true) H) : rIsN .non .non H Q := ⟨rfl, k⟩
theorem st_isN0 (h : x ≠ .non) (k : Q (.bl false) H) : rIsN x .non H Q := ⟨rfl, by rw [decide_eq_false h]; exact k⟩
theorem st_notN1 (k : Q (.bl false) H) : rNotN .non .non H Q := ⟨rfl, k⟩
theorem st_notN0 (h : x ≠ .non) (k : Q (.bl true) H) : rNotN x .non H Q := ⟨rfl, by rw [decide_eq_false h]; exact k⟩
/-! branches -/
theorem br {p A B : Prop} {_ : Decidable p} (h1 : p → A) (h2 : ¬ p → B) : if decide p = true then A else B := by
  by_cases h : p
  · rw [if_pos (decide_eq_true h)]; exact h1 h
  · rw [if_neg (by simp [h])]; exact h2 h
theorem brT {p A B : Prop} {_ : Decidable p} (h : p) (k : A) : if decide p = true then A else B := br (fun _ => k) fun z => absurd h z
theorem brF {p A B : Prop} {_ : Decidable p} (h : ¬ p) (k : B) : if decide p = true then A else B := br (fun z => absurd z h) fun _ => k
theorem brn {p A B : Prop} {_ : Decidable p} (h1 : ¬ p → A) (h2 : p → B) : if (!decide p) = true then A else B := by
  by_cases h : p
  · rw [if_neg (by simp [h])]; exact h2 h
  · rw [if_pos (by simp [h])]; exact h1 h
theorem brnT {p A B : Prop} {_ : Decidable p} (h : ¬ p) (k : A) : if (!decide p) = true then A else B := brn (fun _ => k) fun z => absurd z h
theorem brnF {p A B : Prop} {_ : Decidable p} (h : p) (k : B) : if (!decide p) = true then A else B := brn (fun z => absurd h z) fun _ => k
theorem br_t {A B : Prop} (k : A) : if true = true then A else B := by rw [if_pos rfl]; exact k
theorem br_f {A B : Prop} (k : B) : if false = true then A else B := by rw [if_neg (by decide)]; exact k
theorem br_nt {A B : Prop} (k : B) : if (!true) = true then A else B := by rw [if_neg (by decide)]; exact k
theorem br_nf {A B : Prop} (k : A) : if (!false) = true then A else B := by rw [if_pos (by decide)]; exact k

/-! ### what is read: frozen data, things of ours -/
variable {ds : List Dat} {vs : List V} {d : Dat} {ns : List Int} {L : Addr} {xs : List V}
theorem same_l {a : Addr} (e : Same F H) (h : F a = some (.lst vs)) : SqL K H a vs := SqL.of (e a _ h)
theorem same_t {a : Addr} (e : Same F H) (h : F a = some (.tup vs)) : SqT K H a vs := SqT.of (e a _ h)
theorem st_lenL (e : Same F H) (h : RD F (.lst ds) v) (k : Q (.int (ds.length : Nat)) H) : rLenU K [v] H Q := by
  obtain ⟨a, vs, rfl, h1, h2⟩ := h
  exact ⟨_, _, rfl, .inl ⟨_, same_l e h1, rfl⟩, by rw [h2.len]; exact k⟩
theorem st_lenT (e : Same F H) (h : RD F (.tup ds) v) (k : Q (.int (ds.length : Nat)) H) : rLenU K [v] H Q := by
  obtain ⟨a, vs, rfl, h1, h2⟩ := h
  exact ⟨_, _, rfl, .inr ⟨_, same_t e h1, rfl⟩, by rw [h2.len]; exact k⟩
theorem st_lenO (h : Own F H L (.lst xs)) (k : Q (.int (xs.length : Nat)) H) : rLenU K [.ref L] H Q := ⟨_, _, rfl, .inl ⟨_, SqL.of h.h, rfl⟩, k⟩
theorem st_lenM {α : Type} {f : α → Dat} {zs : List α} (e : Same F H) (h : RD F (.lst (zs.map f)) v) (k : Q (.int (zs.length : Nat)) H) : rLenU K [v] H Q := st_lenL e h (by rw [List.length_map]; exact k)
theorem st_lenMT {α : Type} {f : α → Dat} {zs : List α} (e : Same F H) (h : RD F (.tup (zs.map f)) v) (k : Q (.int (zs.length : Nat)) H) : rLenU K [v] H Q := st_lenT e h (by rw [List.length_map]; exact k)
/-- x[i] -/
theorem st_ixL (e : Same F H) (h : RD F (.lst ds) v) (hd : atI ds i = some d) (k : ∀ u, RD F d u → Q u H) : rIxU K v (.int i) H Q := by
  obtain ⟨a, vs, rfl, h1, h2⟩ := h
  unfold atI at hd
  cases q : ixN ds.length i with
  | none => rw [q] at hd; cases hd
  | some n =>
    rw [q] at hd
    obtain ⟨u, hu, r⟩ := h2.at hd
    exact .inl ⟨a, vs, i, u, rfl, rfl, same_l e h1, by unfold atI; rw [h2.len, q]; exact hu, k u r⟩
theorem st_ixT (e : Same F H) (h : RD F (.tup ds) v) (hd : atI ds i = some d) (k : ∀ u, RD F d u → Q u H) : rIxU K v (.int i) H Q := by
  obtain ⟨a, vs, rfl, h1, h2⟩ := h
  unfold atI at hd
  cases q : ixN ds.length i with
  | none => rw [q] at hd; cases hd
  | some n =>
    rw [q] at hd
    obtain ⟨u, hu, r⟩ := h2.at hd
    exact .inr (.inl ⟨a, vs, i, u, rfl, rfl, same_t e h1, by unfold atI; rw [h2.len, q]; exact hu, k u r⟩)
theorem atI_in {α : Type} {zs : List α} (h0 : 0 ≤ i) (h1 : i < zs.length) : ∃ z, zs[i.toNat]? = some z ∧ atI zs i = some z := by
  have hl : i.toNat < zs.length := by omega
  obtain ⟨z, hz⟩ : ∃ z, zs[i.toNat]? = some z := ⟨_, List.getElem?_eq_getElem hl⟩
  refine ⟨z, hz, ?_⟩
  have e : i = (i.toNat : Int) := by omega
  rw [e]
  exact atI_nat hz
theorem atI_map {α β : Type} {f : α → β} {zs : List α} {z : α} (h : atI zs i = some z) : atI (zs.map f) i = some (f z) := by
  unfold atI at h ⊢
  rw [List.length_map]
  cases q : ixN zs.length i with
  | none => rw [q] at h; cases h
  | some n =>
    rw [q] at h
    show (zs.map f)[n]? = some (f z)
    rw [List.getElem?_map, show zs[n]? = some z from h]; rfl
/-- .. of a list told by a map, at a place within -/
theorem st_ixM {α : Type} {f : α → Dat} {zs : List α} (e : Same F H) (h : RD F (.lst (zs.map f)) v) (h0 : 0 ≤ i) (h1 : i < zs.length) (k : ∀ z u, zs[i.toNat]? = some z → RD F (f z) u → Q u H) : rIxU K v (.int i) H Q := by
  obtain ⟨z, hz, hz2⟩ := atI_in h0 h1
  exact st_ixL e h (atI_map hz2) fun u r => k z u hz r
theorem st_ixMT {α : Type} {f : α → Dat} {zs : List α} (e : Same F H) (h : RD F (.tup (zs.map f)) v) (h0 : 0 ≤ i) (h1 : i < zs.length) (k : ∀ z u, zs[i.toNat]? = some z → RD F (f z) u → Q u H) : rIxU K v (.int i) H Q := by
  obtain ⟨z, hz, hz2⟩ := atI_in h0 h1
  exact st_ixT e h (atI_map hz2) fun u r => k z u hz r
theorem st_ixI (e : Same F H) (h : RD F (.lst (ns.map Dat.int)) v) (h0 : 0 ≤ i) (h1 : i < ns.length) (k : ∀ z, ns[i.toNat]? = some z → Q (.int z) H) : rIxU K v (.int i) H Q :=
  st_ixM e h h0 h1 fun z u hz r => by rw [show u = V.int z from r]; exact k z hz
theorem st_ixIT (e : Same F H) (h : RD F (.tup (ns.map Dat.int)) v) (h0 : 0 ≤ i) (h1 : i < ns.length) (k : ∀ z, ns[i.toNat]? = some z → Q (.int z) H) : rIxU K v (.int i) H Q :=
  st_ixMT e h h0 h1 fun z u hz r => by rw [show u = V.int z from r]; exact k z hz
theorem st_ixO (h : Own F H L (.lst xs)) (hd : atI xs i = some v) (k : Q v H) : rIxU K (.ref L) (.int i) H Q := .inl ⟨L, xs, i, v, rfl, rfl, SqL.of h.h, hd, k⟩
/-- a field of a frozen instance -/
theorem st_fldD {C : Addr} {nms : List Str} {f : Str} {n : Nat} (e : Same F H) (h : RD F (.obj C nms ds) v) (cl : Cls K C) (na : NoAttr K C f) (hf : nms.idxOf f = n) (hl : n < nms.length) {P : V → Prop} (hd : ds[n]? = some d) (k : ∀ u, RD F d u → P u) :
    ∃ a C dx fs u, v = .ref a ∧ H a = some (.ins C dx fs) ∧ Cls K C ∧ NoAttr K C f ∧ fs.lookup f = some u ∧ P u := by
  obtain ⟨a, dx, vs, rfl, h1, h2⟩ := h
  obtain ⟨u, hu, r⟩ := h2.at hd
  refine ⟨a, C, dx, _, u, rfl, e a _ h1, cl, na, ?_, k u r⟩
  clear h1 h2 hd k
  induction nms generalizing n vs with
  | nil => simp at hl
  | cons m ms ih =>
    cases vs with
    | nil => simp at hu
    | cons w ws =>
      rw [List.zip_cons_cons, List.lookup_cons]
      by_cases z : f = m
      · have zb : (f == m) = true := by simpa using z
        rw [zb]
        have hn : n = 0 := by rw [← hf, List.idxOf_cons]; simp [z]
        subst hn
        simpa using hu
      · have zb : (f == m) = false := by simpa using z
        have zc : (m == f) = false := by simpa using fun q => z q.symm
        rw [zb]
        have hn : n = ms.idxOf f + 1 := by rw [← hf, List.idxOf_cons]; simp [zc]
        subst hn
        exact ih (n := ms.idxOf f) rfl (by simpa using hl) ws (by simpa using hu)
/-! ### what is made -/
/-- a new list, a new tuple is owed -/
def NewL (vs : List V) (H : Hp) (Q : VK) : Prop := vs.length ≤ sizeLine ∧ ∀ p, H p = none → Q (.ref p) (upd H p (.lst vs))
def NewT (vs : List V) (H : Hp) (Q : VK) : Prop := vs.length ≤ sizeLine ∧ ∀ p, H p = none → Q (.ref p) (upd H p (.tup vs))
theorem st_tup {t : TA} (k : t σ H fun xs H1 => NewT xs H1 Q) : tTup t σ H Q := k
theorem st_lst {t : TA} (k : t σ H fun xs H1 => NewL xs H1 Q) : tLst t σ H Q := k
theorem sz_le {n : Nat} (h : n ≤ 1000000) : n ≤ sizeLine := Nat.le_trans h (by decide)
theorem sz_lt {n : Nat} (h : n < 1000000) : n < sizeLine := Nat.lt_of_lt_of_le h (by decide)
theorem nw_lst (e : Same F H) (h : RDs F ds vs) (k : ∀ u F' H', Stp [] F H F' H' → RD F' (.lst ds) u → Q u H') : ∀ p, H p = none → Q (.ref p) (upd H p (.lst vs)) := fun p n => by
  have s : Stp [] F H (upd F p (.lst vs)) (upd H p (.lst vs)) := Stp.new e n
  exact k _ _ _ s ⟨p, vs, rfl, upd_same, h.up s.ex⟩
theorem nw_tup (e : Same F H) (h : RDs F ds vs) (k : ∀ u F' H', Stp [] F H F' H' → RD F' (.tup ds) u → Q u H') : ∀ p, H p = none → Q (.ref p) (upd H p (.tup vs)) := fun p n => by
  have s : Stp [] F H (upd F p (.tup vs)) (upd H p (.tup vs)) := Stp.new e n
  exact k _ _ _ s ⟨p, vs, rfl, upd_same, h.up s.ex⟩
/-- a new list of ours -/
theorem nw_own {o : HO} (e : Same F H) (nt : NT o := by trivial) (k : ∀ L F' H', Stp [] F H F' H' → Fre H L → Own F' H' L o → Q (.ref L) H') : ∀ p, H p = none → Q (.ref p) (upd H p o) := fun p n =>
  k p _ _ (Stp.newO e n) n ⟨e.free n, upd_same, nt⟩
theorem newL (z : vs.length ≤ 1000000) (e : Same F H) (h : RDs F ds vs) (k : ∀ u F' H', Stp [] F H F' H' → RD F' (.lst ds) u → Q u H') : NewL vs H Q := ⟨sz_le z, nw_lst e h k⟩
theorem newT (z : vs.length ≤ 1000000) (e : Same F H) (h : RDs F ds vs) (k : ∀ u F' H', Stp [] F H F' H' → RD F' (.tup ds) u → Q u H') : NewT vs H Q := ⟨sz_le z, nw_tup e h k⟩
theorem newO (z : vs.length ≤ 1000000) (e : Same F H) (k : ∀ L F' H', Stp [] F H F' H' → Fre H L → Own F' H' L (.lst vs) → Q (.ref L) H') : NewL vs H Q := ⟨sz_le z, nw_own e (k := k)⟩
/-- made.append(e) -/
theorem st_bm {T : String} {r : V → List V → Hp → VK → Prop} {to : TE} {t : TA} (k : to σ H fun x H1 => tyV K T x H1 ∧ t σ H1 fun xs H2 => r x xs H2 Q) : tBM K T r to t σ H Q := k
theorem st_bm0 {T : String} {r : V → List V → Hp → VK → Prop} {to : TE} (k : to σ H fun x H1 => tyV K T x H1 ∧ r x [] H1 Q) : tBM0 K T r to σ H Q := k
theorem ty_own (h : Own F H L (.lst xs)) : tyV K "list" (.ref L) H := .inl ⟨rfl, _, SqL.of h.h⟩
theorem st_app (e : Same F H) (h : Own F H L (.lst xs)) (z : xs.length < 1000000) (k : ∀ F' H', Stp [L] F H F' H' → Own F' H' L (.lst (xs ++ [v])) → Q .non H') : rAppend (.ref L) [v] H Q :=
  ⟨L, xs, v, rfl, rfl, h.h, sz_lt z, k _ _ (Stp.put e h) ⟨h.f, upd_same, trivial⟩⟩
theorem st_setO {n : Nat} {Q : Hp → Prop} (e : Same F H) (h : Own F H L (.lst xs)) (hn : ixN xs.length i = some n) (k : ∀ F' H', Stp [L] F H F' H' → Own F' H' L (.lst (xs.set n v)) → Q H') : rSetL (.ref L) (.int i) v H Q :=
  ⟨L, xs, i, n, rfl, rfl, h.h, hn, k _ _ (Stp.put e h) ⟨h.f, upd_same, trivial⟩⟩
/-- tuple(x) of a list of ours, of frozen data -/
theorem st_tupO (e : Same F H) (h : Own F H L (.lst xs)) (hd : RDs F ds xs) (k : ∀ u F' H', Stp [] F H F' H' → RD F' (.tup ds) u → Q u H') : rTupU K [.ref L] H Q :=
  ⟨L, xs, rfl, .inl ⟨SqL.of h.h, nw_tup e hd k⟩⟩
theorem st_tupL (e : Same F H) (h : RD F (.lst ds) v) (k : ∀ u F' H', Stp [] F H F' H' → RD F' (.tup ds) u → Q u H') : rTupU K [v] H Q := by
  obtain ⟨a, vs, rfl, h1, h2⟩ := h
  exact ⟨a, vs, rfl, .inl ⟨same_l e h1, nw_tup e h2 k⟩⟩
theorem st_tupT (e : Same F H) (h : RD F (.tup ds) v) (k : Q v H) : rTupU K [v] H Q := by
  obtain ⟨a, vs, rfl, h1, h2⟩ := h
  exact ⟨a, vs, rfl, .inr ⟨same_t e h1, k⟩⟩
theorem st_lstL (e : Same F H) (h : RD F (.lst ds) v) (k : ∀ u F' H', Stp [] F H F' H' → RD F' (.lst ds) u → Q u H') : rListU K [v] H Q := by
  obtain ⟨a, vs, rfl, h1, h2⟩ := h
  exact ⟨a, vs, rfl, .inl (same_l e h1), nw_lst e h2 k⟩
theorem st_lstT (e : Same F H) (h : RD F (.tup ds) v) (k : ∀ u F' H', Stp [] F H F' H' → RD F' (.lst ds) u → Q u H') : rListU K [v] H Q := by
  obtain ⟨a, vs, rfl, h1, h2⟩ := h
  exact ⟨a, vs, rfl, .inr (same_t e h1), nw_lst e h2 k⟩
/-- a, b = .. of a frozen tuple -/
theorem st_gtup {n : Nat} {t : TGs} {Q : Sg → Hp → Prop} (e : Same F H) (h : RD F (.tup ds) v) (hn : ds.length = n) (k : ∀ vs, RDs F ds vs → t vs σ H Q) : gTupU K n t v σ H Q := by
  obtain ⟨a, vs, rfl, h1, h2⟩ := h
  exact .inl ⟨a, vs, rfl, same_t e h1, by rw [h2.len, hn], k vs h2⟩
theorem st_gcons {t : TG} {u : TGs} {r : List V} {Q : Sg → Hp → Prop} (k : t v σ H fun σ' H' => u r σ' H' Q) : gCons t u (v :: r) σ H Q := ⟨v, r, rfl, k⟩
theorem st_gnil {Q : Sg → Hp → Prop} (k : Q σ H) : gNil [] σ H Q := ⟨rfl, k⟩

/-! ### loops -/
theorem st_for {wi : TI} {g : TG} {tb : TS} (k : wi σ H fun J H1 => ∃ W : Nat → Nat → Sg → Hp → Prop, (∃ m, W 0 m σ H1) ∧ ∀ i m σ H, W i m σ H →
  (J.stop i H ∧ D.nx σ H) ∨ (J.go i H ∧ ∃ N : Sg → Hp → Prop, (∀ σ' H', N σ' H' → ∃ m', m' < m ∧ W (i + 1) m' σ' H') ∧ ∀ x H', J.yld i H x H' → g x σ H' fun σ2 H2 => tb { D with nx := N, ct := N, bk := D.nx } σ2 H2)) : tFor wi g tb D σ H := k
/-- what a for owes once its iterable is known -/
abbrev LoopOwes (g : TG) (tb : TS) (D : Ends) (σ : Sg) (J : It) (H1 : Hp) : Prop := ∃ W : Nat → Nat → Sg → Hp → Prop, (∃ m, W 0 m σ H1) ∧ ∀ i m σ H, W i m σ H →
  (J.stop i H ∧ D.nx σ H) ∨ (J.go i H ∧ ∃ N : Sg → Hp → Prop, (∀ σ' H', N σ' H' → ∃ m', m' < m ∧ W (i + 1) m' σ' H') ∧ ∀ x H', J.yld i H x H' → g x σ H' fun σ2 H2 => tb { D with nx := N, ct := N, bk := D.nx } σ2 H2)
theorem st_iseqL {R : It → Hp → Prop} (k : te σ H fun x H1 => ∃ a, x = .ref a ∧ (∃ xs, SqL K H1 a xs) ∧ R (Itl K a) H1) : iSeq K te σ H R := .inl k
theorem st_iseqT {R : It → Hp → Prop} (k : te σ H fun x H1 => ∃ a, x = .ref a ∧ (∃ xs, SqT K H1 a xs) ∧ R (Itt K a) H1) : iSeq K te σ H R := .inr k
variable {g : TG} {tl : TS}
/-- a for over frozen data: the invariant by the turn, the slots and the heap; the frozen heap F stays within -/
theorem lp_lst (e : Same F H) (h : RD F (.lst ds) v) (Pv : Nat → Sg → Hp → Prop) (h0 : Pv 0 σ H) (hG : ∀ i σ H, Pv i σ H → Same F H)
    (hs : ∀ i d x σ H, ds[i]? = some d → RD F d x → Pv i σ H → g x σ H fun σ2 H2 => tl { D with nx := Pv (i + 1), ct := Pv (i + 1), bk := D.nx } σ2 H2) (hd : ∀ σ H, Pv ds.length σ H → D.nx σ H) :
    ∃ a, v = .ref a ∧ (∃ xs, SqL K H a xs) ∧ LoopOwes g tl D σ (Itl K a) H := by
  obtain ⟨a, vs, rfl, h1, h2⟩ := h
  refine ⟨a, rfl, ⟨vs, same_l e h1⟩, for_it (walk_list (xs := vs)) Pv h0 (fun i σ H _ p => same_l (hG i σ H p) h1) (fun i x σ H H' hi p y => ?_) fun σ H p => hd σ H (by rw [← h2.len]; exact p)⟩
  obtain ⟨rfl, hx⟩ := y
  obtain ⟨d, hd, r⟩ := h2.of_at hx
  exact hs i d x σ _ hd r p
theorem lp_tup (e : Same F H) (h : RD F (.tup ds) v) (Pv : Nat → Sg → Hp → Prop) (h0 : Pv 0 σ H) (hG : ∀ i σ H, Pv i σ H → Same F H)
    (hs : ∀ i d x σ H, ds[i]? = some d → RD F d x → Pv i σ H → g x σ H fun σ2 H2 => tl { D with nx := Pv (i + 1), ct := Pv (i + 1), bk := D.nx } σ2 H2) (hd : ∀ σ H, Pv ds.length σ H → D.nx σ H) :
    ∃ a, v = .ref a ∧ (∃ xs, SqT K H a xs) ∧ LoopOwes g tl D σ (Itt K a) H := by
  obtain ⟨a, vs, rfl, h1, h2⟩ := h
  refine ⟨a, rfl, ⟨vs, same_t e h1⟩, for_it (walk_tup (xs := vs)) Pv h0 (fun i σ H _ p => same_t (hG i σ H p) h1) (fun i x σ H H' hi p y => ?_) fun σ H p => hd σ H (by rw [← h2.len]; exact p)⟩
  obtain ⟨rfl, hx⟩ := y
  obtain ⟨d, hd, r⟩ := h2.of_at hx
  exact hs i d x σ _ hd r p
/-- for over range(n), range(a, b) -/
theorem st_rng1 {t : TA} {R : It → Hp → Prop} (k : t σ H fun vs H1 => ∃ j : Int, vs = [.int j] ∧ -(2 ^ 62) ≤ j ∧ j < 2 ^ 62 ∧ R (Itr 0 j.toNat) H1) : iRng1 t σ H R := k
theorem st_rng2 {t : TA} {R : It → Hp → Prop} (k : t σ H fun vs H1 => ∃ i j : Int, vs = [.int i, .int j] ∧ (-(2 ^ 62) ≤ i ∧ i < 2 ^ 62 ∧ -(2 ^ 62) ≤ j ∧ j < 2 ^ 62) ∧ R (Itr i (j - i).toNat) H1) : iRng2 t σ H R := k
theorem st_rng3 {t : TA} {R : It → Hp → Prop} (k : t σ H fun vs H1 => ∃ (i j c : Int) (n : Nat), vs = [.int i, .int j, .int c] ∧ RgC i j c n ∧ R (Itc i c n) H1) : iRng3 t σ H R := k
theorem lp_rng {lo : Int} {n : Nat} (Pv : Nat → Sg → Hp → Prop) (h0 : Pv 0 σ H) (hs : ∀ i σ H, i < n → Pv i σ H → g (.int (lo + i)) σ H fun σ2 H2 => tl { D with nx := Pv (i + 1), ct := Pv (i + 1), bk := D.nx } σ2 H2)
    (hd : ∀ σ H, Pv n σ H → D.nx σ H) : LoopOwes g tl D σ (Itr lo n) H :=
  for_it walk_range Pv h0 (fun _ _ _ _ _ => trivial) (fun i x σ H H' hi p y => by
    obtain ⟨rfl, rfl⟩ := y
    exact hs i σ _ hi p) hd
theorem lp_rng0 {n : Nat} (Pv : Nat → Sg → Hp → Prop) (h0 : Pv 0 σ H) (hs : ∀ (i : Nat) σ H, i < n → Pv i σ H → g (.int (i : Int)) σ H fun σ2 H2 => tl { D with nx := Pv (i + 1), ct := Pv (i + 1), bk := D.nx } σ2 H2)
    (hd : ∀ σ H, Pv n σ H → D.nx σ H) : LoopOwes g tl D σ (Itr 0 n) H :=
  lp_rng Pv h0 (fun i σ H hi p => by rw [Int.zero_add]; exact hs i σ H hi p) hd
end

theorem atI_zero {α : Type} {a : α} {l : List α} : atI (a :: l) 0 = some a := atI_nat (j := 0) rfl
/-! ### a list or a tuple -/
def IsSeq (d : Dat) (ds : List Dat) : Prop := d = .lst ds ∨ d = .tup ds
theorem IsSeq.l {ds : List Dat} : IsSeq (.lst ds) ds := .inl rfl
theorem IsSeq.t {ds : List Dat} : IsSeq (.tup ds) ds := .inr rfl
section
variable {K : PySem.W.Frag} {F H : Hp} {σ : Sg} {Q : VK} {D : Ends} {v : V} {i : Int} {d d2 : Dat} {ds : List Dat} {g : TG} {tl : TS}
theorem st_lenQ (e : Same F H) (h : RD F d v) (q : IsSeq d ds) (k : Q (.int (ds.length : Nat)) H) : rLenU K [v] H Q := by
  rcases q with rfl | rfl
  · exact st_lenL e h k
  · exact st_lenT e h k
theorem st_ixQ (e : Same F H) (h : RD F d v) (q : IsSeq d ds) (hd : atI ds i = some d2) (k : ∀ u, RD F d2 u → Q u H) : rIxU K v (.int i) H Q := by
  rcases q with rfl | rfl
  · exact st_ixL e h hd k
  · exact st_ixT e h hd k
theorem st_tupQ (e : Same F H) (h : RD F d v) (q : IsSeq d ds) (k : ∀ u F' H', Stp [] F H F' H' → RD F' (.tup ds) u → Q u H') : rTupU K [v] H Q := by
  rcases q with rfl | rfl
  · exact st_tupL e h k
  · exact st_tupT e h (k v F H (Stp.refl e) h)
theorem st_lstQ (e : Same F H) (h : RD F d v) (q : IsSeq d ds) (k : ∀ u F' H', Stp [] F H F' H' → RD F' (.lst ds) u → Q u H') : rListU K [v] H Q := by
  rcases q with rfl | rfl
  · exact st_lstL e h k
  · exact st_lstT e h k
theorem lp_seqV {n : Nat} (hv : σ[n]? = some (some v)) (e : Same F H) (h : RD F d v) (q : IsSeq d ds) (Pv : Nat → Sg → Hp → Prop) (h0 : Pv 0 σ H) (hG : ∀ i σ H, Pv i σ H → Same F H)
    (hs : ∀ i d x σ H, ds[i]? = some d → RD F d x → Pv i σ H → g x σ H fun σ2 H2 => tl { D with nx := Pv (i + 1), ct := Pv (i + 1), bk := D.nx } σ2 H2) (hd : ∀ σ H, Pv ds.length σ H → D.nx σ H) :
    iSeq K (tVar n) σ H fun J H1 => LoopOwes g tl D σ J H1 := by
  rcases q with rfl | rfl
  · exact .inl ⟨v, hv, lp_lst e h Pv h0 hG hs hd⟩
  · exact .inr ⟨v, hv, lp_tup e h Pv h0 hG hs hd⟩
end

/-! ### the script -/
structure Scr (K : PySem.W.Frag) (F : Hp) (v : V) (ns : List Int) : Prop where
  at_ : ∃ a, v = .ref a ∧ SqL K F a (ns.map V.int)
  len : ns.length ≤ 63
section
variable {K : PySem.W.Frag} {S : List Addr} {F H F1 H1 : Hp} {Q : VK} {v : V} {ns : List Int} {i : Int}
theorem Scr.up (a : Stp S F H F1 H1) (h : Scr K F v ns) : Scr K F1 v ns := by
  obtain ⟨x, e, q⟩ := h.at_
  exact ⟨⟨x, e, Same.seq a.ex q⟩, h.len⟩
theorem st_lenS (e : Same F H) (h : Scr K F v ns) (k : Q (.int (ns.length : Nat)) H) : rLenU K [v] H Q := by
  obtain ⟨a, rfl, q⟩ := h.at_
  exact ⟨_, _, rfl, .inl ⟨_, Same.seq e q, rfl⟩, by rw [List.length_map]; exact k⟩
theorem st_ixS (e : Same F H) (h : Scr K F v ns) (h0 : 0 ≤ i) (h1 : i < ns.length) (k : ∀ z, ns[i.toNat]? = some z → Q (.int z) H) : rIxU K v (.int i) H Q := by
  obtain ⟨a, rfl, q⟩ := h.at_
  obtain ⟨z, hz, hz2⟩ := atI_in h0 h1
  exact .inl ⟨a, _, i, .int z, rfl, rfl, Same.seq e q, atI_map hz2, k z hz⟩
end

/-! ### the end of a law -/
theorem walk_ofX {l : PySem.W.OpenLaw} {n k : Nat} {q : Program} {loose : List Str} {XP : (Str → Option Value) → Heap → Prop} {YP : World → Heap → Prop} {d : DefRec} {x : Str}
    (hn : l.most = some n) (hn2 : n ≤ sizeLine) (hdf : d.params.defaults = []) (hr : Room k callerA)
    (F : ∀ (w : World) (mg : Str → Option Value) (fa : Addr) (h : Heap), YP w h → h.Ns mainGlobals mg → mg d.name = some (.ref fa) →
      ∃ (K : PySem.W.Frag) (fd : FuncData) (sp : Sp), K.In h ∧ (∀ (s : Shared) (u : Value), BindsTo s fd ⟨[u], []⟩ [(x, u)]) ∧
        (∀ (H : Hp) (a : Addr) (ns : List Int), ns.length ≤ n → Only H → SqL K H a (ns.map V.int) → sp [.ref a] H (fun v _ => v = .bl true) fun _ _ _ => False) ∧
        ∀ base : Heap, K.In base → base.Ns mainGlobals mg → FnOk l.prog w K mg base (L2N.CX l.prog w) k fa fd [x] sp) :
    PySem.W.WalkO q loose XP YP l.row.toRowW d [] (fun f vs => PySem.call f vs) := by
  refine Att.attach_call hn hdf fun w s₀ s₁ mg mb fa o pm cd doc a vs ns G Y ho hd hcd hmg hobj hints hlen hg => ?_
  obtain ⟨K, fd, sp, KX, hb, hsp, hF⟩ := F w mg fa _ Y G.T.g hmg
  exact law_call KX G.T.g G.T.b G.T.builtins G.T.nolimit hg hobj hints (Nat.le_trans hlen hn2) hr hF hb (fun H hO hS => hsp H a ns hlen hO hS) fun H e s' z => by
    obtain ⟨_, _, _, _, _, _, _, _, _, _, _, _, z⟩ := z
    exact z.elim
end DK
set_option maxRecDepth 100000
set_option maxHeartbeats 2000000
/-! DK, third part: mirrors. A def's mirror computes on plain data; Post tells what is owed of its outcome. -/
namespace DK
open PySem PySem.Spec PyProof.Rows L2
/-- the program's errors -/
inductive Xc where
  | picture | out | meet | tile | inks | shares | shade | stretches | way | text
  deriving DecidableEq
def Xc.nm : Xc → Str
  | .picture => "NoPicture"
  | .out => "OutOfPicture"
  | .meet => "NoMeet"
  | .tile => "NoTile"
  | .inks => "NoInks"
  | .shares => "NoShares"
  | .shade => "NoShade"
  | .stretches => "NoStretches"
  | .way => "NoWay"
  | .text => "NoText"
inductive Rs (α : Type) where
  | ok (a : α) | exc (c : Xc) (m : Option Int) | bad
  deriving DecidableEq
namespace Rs
def bnd {α β : Type} : Rs α → (α → Rs β) → Rs β
  | .ok a, k => k a
  | .exc c m, _ => .exc c m
  | .bad, _ => .bad
@[simp] theorem bnd_ok {α β : Type} {a : α} {k : α → Rs β} : (Rs.ok a).bnd k = k a := rfl
@[simp] theorem bnd_bad {α β : Type} {k : α → Rs β} : (Rs.bad : Rs α).bnd k = .bad := rfl
@[simp] theorem bnd_exc {α β : Type} {c : Xc} {m : Option Int} {k : α → Rs β} : (Rs.exc c m : Rs α).bnd k = .exc c m := rfl
end Rs
inductive Ctl (S R : Type) where
  | nx (s : S) | bk (s : S) | rt (r : R)
def Ctl.on {S R : Type} (A B : S → Prop) (C : R → Prop) : Ctl S R → Prop
  | .nx s => A s
  | .bk s => B s
  | .rt r => C r
def Ctl.go {S R β : Type} (k : S → Rs β) (r : R → Rs β) : Ctl S R → Rs β
  | .nx s => k s
  | .bk s => k s
  | .rt x => r x
@[simp] theorem Ctl.go_nx {S R β : Type} {k : S → Rs β} {r : R → Rs β} {s : S} : Ctl.go k r (.nx s) = k s := rfl
@[simp] theorem Ctl.go_bk {S R β : Type} {k : S → Rs β} {r : R → Rs β} {s : S} : Ctl.go k r (.bk s) = k s := rfl
@[simp] theorem Ctl.go_rt {S R β : Type} {k : S → Rs β} {r : R → Rs β} {s : R} : Ctl.go k r (.rt s : Ctl S R) = r s := rfl
def Rs.thn {S R β : Type} (m : Rs (Ctl S R)) (k : S → Rs β) (r : R → Rs β) : Rs β := m.bnd (Ctl.go k r)
@[simp] theorem Rs.thn_nx {S R β : Type} {k : S → Rs β} {r : R → Rs β} {s : S} : (Rs.ok (Ctl.nx s : Ctl S R)).thn k r = k s := rfl
@[simp] theorem Rs.thn_bk {S R β : Type} {k : S → Rs β} {r : R → Rs β} {s : S} : (Rs.ok (Ctl.bk s : Ctl S R)).thn k r = k s := rfl
@[simp] theorem Rs.thn_rt {S R β : Type} {k : S → Rs β} {r : R → Rs β} {s : R} : (Rs.ok (Ctl.rt s : Ctl S R)).thn k r = r s := rfl
theorem Ctl.nx_of {S R : Type} {A B : S → Prop} {C : R → Prop} {s : S} (p : Ctl.on A B C (.nx s)) : A s := p
/-- what is owed of an outcome -/
def Post {α : Type} (m : Rs α) (P : α → Prop) (X : Xc → Option Int → Prop) : Prop := match m with
  | .ok a => P a
  | .exc c t => X c t
  | .bad => False
theorem Post.onx {S R : Type} {A B : S → Prop} {C : R → Prop} {s : S} {X : Xc → Option Int → Prop} (h : Post (.ok (.nx s)) (Ctl.on A B C) X) : A s := h
theorem Post.obk {S R : Type} {A B : S → Prop} {C : R → Prop} {s : S} {X : Xc → Option Int → Prop} (h : Post (.ok (.bk s)) (Ctl.on A B C) X) : B s := h
theorem Post.ort {S R : Type} {A B : S → Prop} {C : R → Prop} {s : R} {X : Xc → Option Int → Prop} (h : Post (.ok (.rt s)) (Ctl.on A B C) X) : C s := h
def forR {α S R : Type} (f : S → α → Rs (Ctl S R)) : List α → S → Rs (Ctl S R)
  | [], s => .ok (.nx s)
  | x :: xs, s => (f s x).bnd fun
    | .nx s' => forR f xs s'
    | .bk s' => .ok (.nx s')
    | .rt r => .ok (.rt r)
def whileR {S R : Type} (c : S → Rs Bool) (f : S → Rs (Ctl S R)) : Nat → S → Rs (Ctl S R)
  | 0, _ => .bad
  | n + 1, s => (c s).bnd fun b => if b = true then (f s).bnd fun
    | .nx s' => whileR c f n s'
    | .bk s' => .ok (.nx s')
    | .rt r => .ok (.rt r) else .ok (.nx s)
def mapR {α β : Type} (f : α → Rs (Option β)) : List α → Rs (List β)
  | [] => .ok []
  | x :: xs => (f x).bnd fun o => (mapR f xs).bnd fun r => .ok (match o with | some y => y :: r | none => r)
def ixR {α : Type} (xs : List α) (i : Int) : Rs α := match atI xs i with
  | some x => .ok x
  | none => .bad
abbrev grd {α : Type} (p : Prop) [Decidable p] (k : Rs α) : Rs α := if p then k else .bad
def divOk (j : Int) : Bool := decide (0 < j) && decide (j.natAbs.log2 < 9000)
def mulOk (i j : Int) : Bool := decide (i.natAbs.log2 + j.natAbs.log2 < 1000000)
def rngI (lo hi : Int) : List Int := (List.range (hi - lo).toNat).map fun k => lo + (k : Nat)
def rngS (lo hi c : Int) : List Int := (List.range (Builtin.Range.rangeSize lo hi c).toNat).map fun k => lo + (k : Nat) * c
def rngOk (lo hi : Int) : Bool := decide (lo.natAbs.log2 < 61) && decide (hi.natAbs.log2 < 61)
theorem rngOk.b {lo hi : Int} (h : rngOk lo hi = true) : -(2 ^ 62) ≤ lo ∧ lo < 2 ^ 62 ∧ -(2 ^ 62) ≤ hi ∧ hi < 2 ^ 62 := by
  simp only [rngOk, Bool.and_eq_true, decide_eq_true_eq] at h
  have k : ∀ n : Nat, n.log2 < 61 → n < 2 ^ 61 := fun n hn => by
    by_cases z : n = 0
    · subst z; decide
    · exact (Nat.log2_lt z).mp hn
  have h1 := k _ h.1
  have h2 := k _ h.2
  omega
def rngSOk (lo hi c : Int) : Bool := decide (c ≠ 0) && decide (c.natAbs < 1073741824) && Builtin.Range.small lo hi c
def cutL {α : Type} (xs : List α) (lo hi : Option Int) : List α := (xs.drop (HT.sIx xs.length 0 lo)).take (HT.sIx xs.length xs.length hi - HT.sIx xs.length 0 lo)

section
variable {α β S R : Type} {m : Rs α} {k : α → Rs β} {P : β → Prop} {X : Xc → Option Int → Prop} {i j : Int}
theorem Post.b (h : Post (m.bnd k) P X) : Post m (fun a => Post (k a) P X) X := by
  cases m <;> exact h
theorem Post.mono {P Q : α → Prop} (h : Post m P X) (z : ∀ a, P a → Q a) : Post m Q X := by
  cases m with
  | ok a => exact z a h
  | exc c t => exact h
  | bad => exact h
theorem Post.t {m : Rs (Ctl S R)} {k : S → Rs β} {r : R → Rs β} (h : Post (m.thn k r) P X) : Post m (Ctl.on (fun s => Post (k s) P X) (fun s => Post (k s) P X) fun x => Post (r x) P X) X :=
  h.b.mono fun a p => by cases a <;> exact p
theorem Post.g {p : Prop} {_ : Decidable p} {m : Rs β} (h : Post (grd p m) P X) : p ∧ Post m P X := by
  by_cases z : p
  · rw [grd, if_pos z] at h; exact ⟨z, h⟩
  · rw [grd, if_neg z] at h; exact h.elim
theorem Post.ix {xs : List α} (h : Post ((ixR xs i).bnd k) P X) : ∃ x, atI xs i = some x ∧ Post (k x) P X := by
  unfold ixR at h
  cases q : atI xs i with
  | none => rw [q] at h; exact h.elim
  | some x => rw [q] at h; exact ⟨x, rfl, h⟩
theorem divOk.c (h : divOk j = true) : CDivU i j := by
  simp only [divOk, Bool.and_eq_true, decide_eq_true_eq] at h
  exact .inr h
theorem mulOk.c (h : mulOk i j = true) : CMulU i j := by
  simp only [mulOk, decide_eq_true_eq] at h
  exact .inr h
theorem brP {A B p : Prop} {_ : Decidable p} {m n : Rs β} (h : Post (if p then m else n) P X) (h1 : p → Post m P X → A) (h2 : ¬ p → Post n P X → B) : if decide p = true then A else B := by
  by_cases z : p
  · rw [if_pos z] at h; rw [if_pos (by simp [z])]; exact h1 z h
  · rw [if_neg z] at h; rw [if_neg (by simp [z])]; exact h2 z h
theorem brN {A B p : Prop} {_ : Decidable p} {m n : Rs β} (h : Post (if p then m else n) P X) (h1 : ¬ p → Post n P X → A) (h2 : p → Post m P X → B) : if (!decide p) = true then A else B := by
  by_cases z : p
  · rw [if_pos z] at h; rw [if_neg (by simp [z])]; exact h2 z h
  · rw [if_neg z] at h; rw [if_pos (by simp [z])]; exact h1 z h
theorem brB {A B : Prop} {b : Bool} {m n : Rs β} (h : Post (if b = true then m else n) P X) (h1 : b = true → Post m P X → A) (h2 : ¬ b = true → Post n P X → B) : if b = true then A else B := by
  by_cases z : b = true
  · rw [if_pos z] at h; rw [if_pos z]; exact h1 z h
  · rw [if_neg z] at h; rw [if_neg z]; exact h2 z h
theorem brNB {A B : Prop} {b : Bool} {m n : Rs β} (h : Post (if b = true then m else n) P X) (h1 : ¬ b = true → Post n P X → A) (h2 : b = true → Post m P X → B) : if (!b) = true then A else B := by
  cases b with
  | true => rw [if_pos rfl] at h; rw [if_neg (by decide)]; exact h2 rfl h
  | false => rw [if_neg (by decide)] at h; rw [if_pos (by decide)]; exact h1 (by decide) h
end

/-! ### encodings -/
abbrev eL {α : Type} (e : α → Dat) (xs : List α) : Dat := .lst (xs.map e)
abbrev eT {α : Type} (e : α → Dat) (xs : List α) : Dat := .tup (xs.map e)
abbrev eP {α β : Type} (e : α → Dat) (g : β → Dat) (p : α × β) : Dat := .tup [e p.1, g p.2]
abbrev eP3 {α β γ : Type} (e : α → Dat) (g : β → Dat) (f : γ → Dat) (p : α × β × γ) : Dat := .tup [e p.1, g p.2.1, f p.2.2]
def eQ {α : Type} (b : Bool) (e : α → Dat) (xs : List α) : Dat := match b with
  | true => .tup (xs.map e)
  | false => .lst (xs.map e)

/-! ### cuts -/
section
variable {S R β : Type} {K : PySem.W.Frag} {F H : Hp} {σ : Sg} {Q : VK} {D : Ends} {P : β → Prop} {X : Xc → Option Int → Prop}
theorem cutS {t : TS} {m : Rs (Ctl S R)} {k : S → Rs β} {r : R → Rs β} (hm : Post (m.thn k r) P X) (I : S → Sg → Hp → Prop)
    (h1 : ∀ nx : Sg → Hp → Prop, (∀ s σ' H', I s σ' H' → Post (k s) P X → nx σ' H') → Post m (Ctl.on (fun s => Post (k s) P X) (fun s => Post (k s) P X) fun x => Post (r x) P X) X → t { D with nx := nx } σ H)
    (h2 : ∀ s σ' H', I s σ' H' → Post (k s) P X → D.nx σ' H') : t D σ H := h1 D.nx h2 hm.t
/-- a test, cut -/
theorem cutT {c : TT} {m : Rs Bool} {k : Bool → Rs β} {Q : Bool → Hp → Prop} (F H : Hp) (hm : Post (m.bnd k) P X)
    (h1 : ∀ Q' : Bool → Hp → Prop, (∀ b F' H', Stp [] F H F' H' → Post (k b) P X → Q' b H') → Post m (fun b => Post (k b) P X) X → c σ H Q')
    (h2 : ∀ b F' H', Stp [] F H F' H' → Post (k b) P X → Q b H') : c σ H Q := h1 Q h2 hm.b
/-- a value, cut: a bool -/
theorem cutB {c : TE} {m : Rs Bool} {k : Bool → Rs β} (F H : Hp) (hm : Post (m.bnd k) P X)
    (h1 : ∀ Q' : VK, (∀ b F' H', Stp [] F H F' H' → Post (k b) P X → Q' (.bl b) H') → Post m (fun b => Post (k b) P X) X → c σ H Q')
    (h2 : ∀ b F' H', Stp [] F H F' H' → Post (k b) P X → Q (.bl b) H') : c σ H Q := h1 Q h2 hm.b
/-- a value, cut: a datum -/
theorem cutE {α : Type} {c : TE} {m : Rs α} {k : α → Rs β} (enc : α → Dat) (F H : Hp) (hm : Post (m.bnd k) P X)
    (h1 : ∀ Q' : VK, (∀ b u F' H', Stp [] F H F' H' → RD F' (enc b) u → Post (k b) P X → Q' u H') → Post m (fun b => Post (k b) P X) X → c σ H Q')
    (h2 : ∀ b u F' H', Stp [] F H F' H' → RD F' (enc b) u → Post (k b) P X → Q u H') : c σ H Q := h1 Q h2 hm.b
end

/-! ### steps told by data -/
section
variable {α β S R : Type} {K : PySem.W.Frag} {F H : Hp} {σ : Sg} {Q : VK} {D : Ends} {X : Xc → Option Int → Prop} {i : Int} {v : V} {L : Addr} {vs : List V} {e : α → Dat} {zs : List α} {z : α} {lo hi : Option Int} {b : Bool}
theorem sm_ixL (s : Same F H) (h : RD F (.lst (zs.map e)) v) (hz : atI zs i = some z) (k : ∀ u, RD F (e z) u → Q u H) : rIxU K v (.int i) H Q := st_ixL s h (atI_map hz) k
theorem sm_ixT (s : Same F H) (h : RD F (.tup (zs.map e)) v) (hz : atI zs i = some z) (k : ∀ u, RD F (e z) u → Q u H) : rIxU K v (.int i) H Q := st_ixT s h (atI_map hz) k
theorem sm_ixQ (s : Same F H) (h : RD F (eQ b e zs) v) (hz : atI zs i = some z) (k : ∀ u, RD F (e z) u → Q u H) : rIxU K v (.int i) H Q := by
  cases b with
  | true => exact sm_ixT s h hz k
  | false => exact sm_ixL s h hz k
theorem sm_ixO (h : Own F H L (.lst vs)) (hd : RDs F (zs.map e) vs) (hz : atI zs i = some z) (k : ∀ u, RD F (e z) u → Q u H) : rIxU K (.ref L) (.int i) H Q := by
  have hz2 := atI_map (f := e) hz
  unfold atI at hz2
  cases q : ixN (zs.map e).length i with
  | none => rw [q] at hz2; cases hz2
  | some n =>
    rw [q] at hz2
    obtain ⟨u, hu, r⟩ := hd.at (show (zs.map e)[n]? = some (e z) from hz2)
    exact st_ixO h (by unfold atI; rw [hd.len, q]; exact hu) (k u r)
theorem sm_ixS {ns : List Int} {z : Int} (s : Same F H) (h : Scr K F v ns) (hz : atI ns i = some z) (k : Q (.int z) H) : rIxU K v (.int i) H Q := by
  obtain ⟨a, rfl, q⟩ := h.at_
  exact .inl ⟨a, _, i, .int z, rfl, rfl, Same.seq s q, atI_map hz, k⟩
theorem sm_lenQ (s : Same F H) (h : RD F (eQ b e zs) v) (k : Q (.int (zs.length : Nat)) H) : rLenU K [v] H Q := by
  cases b with
  | true => exact st_lenMT s h k
  | false => exact st_lenM s h k
theorem sm_lenO (h : Own F H L (.lst vs)) (hd : RDs F (zs.map e) vs) (k : Q (.int (zs.length : Nat)) H) : rLenU K [.ref L] H Q :=
  st_lenO h (by rw [show vs.length = zs.length by rw [hd.len, List.length_map]]; exact k)
theorem cutV_RDs (h : RDs F (zs.map e) vs) : RDs F ((cutL zs lo hi).map e) (cutV vs lo hi) := by
  have hl : vs.length = zs.length := by rw [h.len, List.length_map]
  unfold cutV cutL
  rw [hl, List.map_take, List.map_drop]
  exact (h.drop _).take _
theorem sm_slL (s : Same F H) (h : RD F (.lst (zs.map e)) v) (k : ∀ u F' H', Stp [] F H F' H' → RD F' (.lst ((cutL zs lo hi).map e)) u → Q u H') : rSlU K v lo hi H Q := by
  obtain ⟨a, vs, rfl, h1, h2⟩ := h
  exact .inl ⟨a, vs, rfl, same_l s h1, nw_lst s (cutV_RDs h2) k⟩
theorem sm_slT (s : Same F H) (h : RD F (.tup (zs.map e)) v) (k : ∀ u F' H', Stp [] F H F' H' → RD F' (.tup ((cutL zs lo hi).map e)) u → Q u H') : rSlU K v lo hi H Q := by
  have h' := h
  obtain ⟨a, vs, rfl, h1, h2⟩ := h
  by_cases w : HT.sIx vs.length 0 lo = 0 ∧ HT.sIx vs.length vs.length hi = vs.length
  · refine .inr (.inr ⟨a, vs, rfl, same_t s h1, w, k _ F H (Stp.refl s) ?_⟩)
    have hl : vs.length = zs.length := by rw [h2.len, List.length_map]
    have : cutL zs lo hi = zs := by
      unfold cutL
      rw [← hl, w.1, w.2, hl]
      simp
    rw [this]; exact h'
  · exact .inr (.inl ⟨a, vs, rfl, same_t s h1, w, nw_tup s (cutV_RDs h2) k⟩)
theorem sm_slO (s : Same F H) (h : Own F H L (.lst vs)) (hd : RDs F (zs.map e) vs) (k : ∀ u F' H', Stp [] F H F' H' → RD F' (.lst ((cutL zs lo hi).map e)) u → Q u H') : rSlU K (.ref L) lo hi H Q :=
  .inl ⟨L, vs, rfl, SqL.of h.h, nw_lst s (cutV_RDs hd) k⟩
theorem sm_add {i j : Int} (k : Q (.int (i + j)) H) : rAddU K (.int i) (.int j) H Q := st_add k
/-- two lists in one -/
theorem rd_lst {F H : Hp} (s : Same F H) (h : RD F (.lst (zs.map e)) v) : ∃ a vs, v = .ref a ∧ F a = some (.lst vs) ∧ H a = some (.lst vs) ∧ RDs F (zs.map e) vs := by
  obtain ⟨a, vs, rfl, h1, h2⟩ := h
  exact ⟨a, vs, rfl, h1, s a _ h1, h2⟩
theorem own_rd {S : List Addr} {F H F1 H1 : Hp} {L : Addr} (s : Stp S F H F1 H1) (n : Fre H L) (o : Own F1 H1 L (.lst vs)) (hd : RDs F1 (zs.map e) vs) : ∃ F2, Stp S F H F2 H1 ∧ RD F2 (.lst (zs.map e)) (.ref L) := by
  have t := Stp.frz s.inn o
  refine ⟨_, Stp.trans s t (sub_new n sub_nil), L, vs, rfl, upd_same, ?_⟩
  exact hd.up t.ex
/-- a step that freezes a list of ours -/
theorem own_fz {F H : Hp} {L : Addr} (s : Same F H) (o : Own F H L (.lst vs)) (hd : RDs F (zs.map e) vs) : ∃ F2, Stp [L] F H F2 H ∧ RD F2 (.lst (zs.map e)) (.ref L) := by
  have t := Stp.frz s o
  exact ⟨_, t, L, vs, rfl, upd_same, hd.up t.ex⟩
end
end DK
set_option maxRecDepth 100000
set_option maxHeartbeats 2000000
/-! DK, fourth part: loops and comprehensions told by mirrors. -/
namespace DK
open PySem PySem.Spec PyProof.Rows L2
section
variable {α S R : Type} {K : PySem.W.Frag} {F H : Hp} {σ : Sg} {D : Ends} {X : Xc → Option Int → Prop} {P : Ctl S R → Prop} {f : S → α → Rs (Ctl S R)} {zs : List α} {s0 : S} {g : TG} {tl : TS} {v : V} {e : α → Dat} {L : Addr} {vs : List V}
/-- what a turn owes -/
abbrev Turn (f : S → α → Rs (Ctl S R)) (P : Ctl S R → Prop) (rest : List α) (X : Xc → Option Int → Prop) : Ctl S R → Prop := Ctl.on (fun s' => Post (forR f rest s') P X) (fun s' => P (.nx s')) fun r => P (.rt r)
abbrev NxF (I : S → Sg → Hp → Prop) (f : S → α → Rs (Ctl S R)) (P : Ctl S R → Prop) (rest : List α) (X : Xc → Option Int → Prop) : Sg → Hp → Prop := fun σ' H' => ∃ s', I s' σ' H' ∧ Post (forR f rest s') P X
theorem Post.turn {x : α} {rest : List α} {s : S} (h : Post (forR f (x :: rest) s) P X) : Post (f s x) (Turn f P rest X) X := by
  unfold forR at h
  exact h.b.mono fun a p => by cases a <;> exact p
theorem fr_core {J : It} {n : Nat} {G : Hp → Prop} {Y : Nat → Hp → V → Hp → Prop} (w : Walk J n G Y) (hn : n = zs.length) (I : S → Sg → Hp → Prop) (hp : Post (forR f zs s0) P X) (h0 : I s0 σ H) (hG : ∀ s σ H', I s σ H' → G H')
    (hs : ∀ (i : Nat) (x : α) (rest : List α) (s : S) (u : V) σ' H1 H2, zs[i]? = some x → I s σ' H1 → Y i H1 u H2 → Post (f s x) (Turn f P rest X) X → g u σ' H2 fun σ2 H3 => tl { D with nx := NxF I f P rest X, ct := NxF I f P rest X, bk := D.nx } σ2 H3)
    (hd : ∀ s σ H, I s σ H → P (.nx s) → D.nx σ H) : LoopOwes g tl D σ J H := by
  refine for_it w (fun i σ H => ∃ s, I s σ H ∧ Post (forR f (zs.drop i) s) P X) ⟨s0, h0, hp⟩ (fun i σ H _ ⟨s, q, _⟩ => hG s σ H q) ?_ ?_
  · rintro i u σ1 H1 H2 hi ⟨s, q, p⟩ y
    have hl : i < zs.length := hn ▸ hi
    rw [List.drop_eq_getElem_cons hl] at p
    exact hs i zs[i] _ s u σ1 H1 H2 (List.getElem?_eq_getElem hl) q y p.turn
  · rintro σ1 H1 ⟨s, q, p⟩
    rw [hn, List.drop_length] at p
    exact hd s σ1 H1 q p
theorem fr_L (h : RD F (.lst (zs.map e)) v) (s : Same F H) (hp : Post (forR f zs s0) P X) (I : S → Sg → Hp → Prop) (h0 : I s0 σ H) (hG : ∀ s σ H', I s σ H' → Same F H')
    (hs : ∀ (x : α) (rest : List α) (s : S) (u : V) σ' H1, RD F (e x) u → I s σ' H1 → Post (f s x) (Turn f P rest X) X → g u σ' H1 fun σ2 H3 => tl { D with nx := NxF I f P rest X, ct := NxF I f P rest X, bk := D.nx } σ2 H3)
    (hd : ∀ s σ H, I s σ H → P (.nx s) → D.nx σ H) : ∃ a, v = .ref a ∧ (∃ xs, SqL K H a xs) ∧ LoopOwes g tl D σ (Itl K a) H := by
  obtain ⟨a, vs, rfl, h1, h2⟩ := h
  refine ⟨a, rfl, ⟨vs, same_l s h1⟩, fr_core (walk_list (xs := vs)) (by rw [h2.len, List.length_map]) I hp h0 (fun s σ H' q => same_l (hG s σ H' q) h1) ?_ hd⟩
  rintro i x rest s u σ' H1 H2 hx q ⟨rfl, hu⟩ p
  obtain ⟨d, hd, r⟩ := h2.of_at hu
  rw [List.getElem?_map, hx] at hd
  cases hd
  exact hs x rest s u σ' _ r q p
theorem fr_T (h : RD F (.tup (zs.map e)) v) (s : Same F H) (hp : Post (forR f zs s0) P X) (I : S → Sg → Hp → Prop) (h0 : I s0 σ H) (hG : ∀ s σ H', I s σ H' → Same F H')
    (hs : ∀ (x : α) (rest : List α) (s : S) (u : V) σ' H1, RD F (e x) u → I s σ' H1 → Post (f s x) (Turn f P rest X) X → g u σ' H1 fun σ2 H3 => tl { D with nx := NxF I f P rest X, ct := NxF I f P rest X, bk := D.nx } σ2 H3)
    (hd : ∀ s σ H, I s σ H → P (.nx s) → D.nx σ H) : ∃ a, v = .ref a ∧ (∃ xs, SqT K H a xs) ∧ LoopOwes g tl D σ (Itt K a) H := by
  obtain ⟨a, vs, rfl, h1, h2⟩ := h
  refine ⟨a, rfl, ⟨vs, same_t s h1⟩, fr_core (walk_tup (xs := vs)) (by rw [h2.len, List.length_map]) I hp h0 (fun s σ H' q => same_t (hG s σ H' q) h1) ?_ hd⟩
  rintro i x rest s u σ' H1 H2 hx q ⟨rfl, hu⟩ p
  obtain ⟨d, hd, r⟩ := h2.of_at hu
  rw [List.getElem?_map, hx] at hd
  cases hd
  exact hs x rest s u σ' _ r q p
/-- over a list of ours that the loop leaves alone -/
theorem fr_O (o : Own F H L (.lst vs)) (h : RDs F (zs.map e) vs) (hp : Post (forR f zs s0) P X) (I : S → Sg → Hp → Prop) (h0 : I s0 σ H) (hG : ∀ s σ H', I s σ H' → ∃ F', Own F' H' L (.lst vs))
    (hs : ∀ (x : α) (rest : List α) (s : S) (u : V) σ' H1, RD F (e x) u → I s σ' H1 → Post (f s x) (Turn f P rest X) X → g u σ' H1 fun σ2 H3 => tl { D with nx := NxF I f P rest X, ct := NxF I f P rest X, bk := D.nx } σ2 H3)
    (hd : ∀ s σ H, I s σ H → P (.nx s) → D.nx σ H) : ∃ a, V.ref L = .ref a ∧ (∃ xs, SqL K H a xs) ∧ LoopOwes g tl D σ (Itl K a) H := by
  refine ⟨L, rfl, ⟨vs, SqL.of o.h⟩, fr_core (walk_list (xs := vs)) (by rw [h.len, List.length_map]) I hp h0 (fun s σ H' q => SqL.of (hG s σ H' q).choose_spec.h) ?_ hd⟩
  rintro i x rest s u σ' H1 H2 hx q ⟨rfl, hu⟩ p
  obtain ⟨d, hd, r⟩ := h.of_at hu
  rw [List.getElem?_map, hx] at hd
  cases hd
  exact hs x rest s u σ' _ r q p
theorem fr_Q {b : Bool} {te : TE} (h : RD F (eQ b e zs) v) (s : Same F H) (hp : Post (forR f zs s0) P X) (hv : ∀ Q : VK, Q v H → te σ H Q) (I : S → Sg → Hp → Prop) (h0 : I s0 σ H) (hG : ∀ s σ H', I s σ H' → Same F H')
    (hs : ∀ (x : α) (rest : List α) (s : S) (u : V) σ' H1, RD F (e x) u → I s σ' H1 → Post (f s x) (Turn f P rest X) X → g u σ' H1 fun σ2 H3 => tl { D with nx := NxF I f P rest X, ct := NxF I f P rest X, bk := D.nx } σ2 H3)
    (hd : ∀ s σ H, I s σ H → P (.nx s) → D.nx σ H) : iSeq K te σ H fun J H1 => LoopOwes g tl D σ J H1 := by
  cases b with
  | true => exact .inr (hv _ (fr_T h s hp I h0 hG hs hd))
  | false => exact .inl (hv _ (fr_L h s hp I h0 hG hs hd))
theorem rngI_at {lo hi : Int} {i : Nat} {x : Int} (h : (rngI lo hi)[i]? = some x) : x = lo + (i : Nat) := by
  unfold rngI at h
  rw [List.getElem?_map] at h
  cases q : (List.range (hi - lo).toNat)[i]? with
  | none => rw [q] at h; cases h
  | some j =>
    rw [q] at h
    cases h
    have := List.getElem?_eq_some_iff.mp q
    obtain ⟨h1, h2⟩ := this
    rw [← h2, List.getElem_range]
theorem fr_R {lo hi : Int} {f : S → Int → Rs (Ctl S R)} (hp : Post (forR f (rngI lo hi) s0) P X) (I : S → Sg → Hp → Prop) (h0 : I s0 σ H)
    (hs : ∀ (x : Int) (rest : List Int) (s : S) σ' H1, I s σ' H1 → Post (f s x) (Turn f P rest X) X → g (.int x) σ' H1 fun σ2 H3 => tl { D with nx := NxF I f P rest X, ct := NxF I f P rest X, bk := D.nx } σ2 H3)
    (hd : ∀ s σ H, I s σ H → P (.nx s) → D.nx σ H) : LoopOwes g tl D σ (Itr lo (hi - lo).toNat) H := by
  refine fr_core (walk_range (lo := lo) (n := (hi - lo).toNat)) (by simp [rngI]) I hp h0 (fun _ _ _ _ => trivial) ?_ hd
  rintro i x rest s u σ' H1 H2 hx q ⟨rfl, rfl⟩ p
  have := rngI_at hx
  subst this
  exact hs _ rest s σ' _ q p
theorem fr_R1 {hi : Int} {f : S → Int → Rs (Ctl S R)} (hb : rngOk 0 hi = true) (hp : Post (forR f (rngI 0 hi) s0) P X) (I : S → Sg → Hp → Prop) (h0 : I s0 σ H)
    (hs : ∀ (x : Int) (rest : List Int) (s : S) σ' H1, I s σ' H1 → Post (f s x) (Turn f P rest X) X → g (.int x) σ' H1 fun σ2 H3 => tl { D with nx := NxF I f P rest X, ct := NxF I f P rest X, bk := D.nx } σ2 H3)
    (hd : ∀ s σ H, I s σ H → P (.nx s) → D.nx σ H) : ∃ j : Int, [V.int hi] = [.int j] ∧ -(2 ^ 62) ≤ j ∧ j < 2 ^ 62 ∧ LoopOwes g tl D σ (Itr 0 j.toNat) H := by
  have hb := rngOk.b hb
  have := fr_R (lo := 0) hp I h0 hs hd
  rw [Int.sub_zero] at this
  exact ⟨hi, rfl, by omega, by omega, this⟩
theorem fr_R2 {lo hi : Int} {f : S → Int → Rs (Ctl S R)} (hb : rngOk lo hi = true) (hp : Post (forR f (rngI lo hi) s0) P X) (I : S → Sg → Hp → Prop) (h0 : I s0 σ H)
    (hs : ∀ (x : Int) (rest : List Int) (s : S) σ' H1, I s σ' H1 → Post (f s x) (Turn f P rest X) X → g (.int x) σ' H1 fun σ2 H3 => tl { D with nx := NxF I f P rest X, ct := NxF I f P rest X, bk := D.nx } σ2 H3)
    (hd : ∀ s σ H, I s σ H → P (.nx s) → D.nx σ H) : ∃ i j : Int, [V.int lo, V.int hi] = [.int i, .int j] ∧ (-(2 ^ 62) ≤ i ∧ i < 2 ^ 62 ∧ -(2 ^ 62) ≤ j ∧ j < 2 ^ 62) ∧ LoopOwes g tl D σ (Itr i (j - i).toNat) H := by
  have hb := rngOk.b hb
  exact ⟨lo, hi, rfl, ⟨by omega, by omega, by omega, by omega⟩, fr_R hp I h0 hs hd⟩
theorem rngS_at {lo hi c : Int} {i : Nat} {x : Int} (h : (rngS lo hi c)[i]? = some x) : x = lo + (i : Nat) * c := by
  unfold rngS at h
  rw [List.getElem?_map] at h
  cases q : (List.range (Builtin.Range.rangeSize lo hi c).toNat)[i]? with
  | none => rw [q] at h; cases h
  | some j =>
    rw [q] at h
    cases h
    obtain ⟨h1, h2⟩ := List.getElem?_eq_some_iff.mp q
    rw [← h2, List.getElem_range]
theorem size_nn {lo hi c : Int} (hc : c ≠ 0) : 0 ≤ Builtin.Range.rangeSize lo hi c := by
  unfold Builtin.Range.rangeSize
  split
  · split
    · have := Int.ediv_nonneg (a := hi - lo - 1) (b := c) (by omega) (by omega); omega
    · omega
  · split
    · have := Int.ediv_nonneg (a := lo - hi - 1) (b := -c) (by omega) (by omega); omega
    · omega
theorem fr_R3 {lo hi c : Int} {f : S → Int → Rs (Ctl S R)} (hb : rngSOk lo hi c = true) (hp : Post (forR f (rngS lo hi c) s0) P X) (I : S → Sg → Hp → Prop) (h0 : I s0 σ H)
    (hs : ∀ (x : Int) (rest : List Int) (s : S) σ' H1, I s σ' H1 → Post (f s x) (Turn f P rest X) X → g (.int x) σ' H1 fun σ2 H3 => tl { D with nx := NxF I f P rest X, ct := NxF I f P rest X, bk := D.nx } σ2 H3)
    (hd : ∀ s σ H, I s σ H → P (.nx s) → D.nx σ H) : ∃ (i j c' : Int) (n : Nat), [V.int lo, V.int hi, V.int c] = [.int i, .int j, .int c'] ∧ RgC i j c' n ∧ LoopOwes g tl D σ (Itc i c' n) H := by
  simp only [rngSOk, Bool.and_eq_true, decide_eq_true_eq] at hb
  refine ⟨lo, hi, c, (Builtin.Range.rangeSize lo hi c).toNat, rfl, ⟨hb.1.1, hb.1.2, hb.2, ?_⟩, ?_⟩
  · have := size_nn (lo := lo) (hi := hi) hb.1.1; omega
  · refine fr_core (walk_rangeC (lo := lo) (c := c) (n := (Builtin.Range.rangeSize lo hi c).toNat)) (by simp [rngS]) I hp h0 (fun _ _ _ _ => trivial) ?_ hd
    rintro i x rest s u σ' H1 H2 hx q ⟨rfl, rfl⟩ p
    have := rngS_at hx
    subst this
    exact hs _ rest s σ' _ q p
/-- enumerate -/
def enumI (zs : List α) : List (Int × α) := zs.zipIdx.map fun p => ((p.2 : Nat), p.1)
theorem enumI_len : (enumI zs).length = zs.length := by simp [enumI]
theorem enumI_at {i : Nat} {p : Int × α} (h : (enumI zs)[i]? = some p) : zs[i]? = some p.2 ∧ p.1 = (i : Nat) := by
  unfold enumI at h
  rw [List.getElem?_map, List.getElem?_zipIdx] at h
  cases q : zs[i]? with
  | none => rw [q] at h; cases h
  | some x => rw [q] at h; cases h; simp
theorem en_step {H1 H2 : Hp} {vs : List V} {i : Nat} {p : Int × α} {u : V} {Fr : Hp} (h2 : RDs F (zs.map e) vs) (hp : (enumI zs)[i]? = some p) (y : YPair (fun i => some (.int (i : Nat))) (fun i => vs[i]?) i H1 u H2) (xx : Same F Fr) (s : Same Fr H1) :
    ∃ F2, Stp [] Fr H1 F2 H2 ∧ RD F2 (eP Dat.int e p) u := by
  obtain ⟨T, x, z, rfl, n, rfl, hx, hz⟩ := y
  obtain ⟨hx1, hx2⟩ := enumI_at hp
  cases hx
  obtain ⟨d, hd, r⟩ := h2.of_at hz
  rw [List.getElem?_map, hx1] at hd
  cases hd
  have t : Stp [] Fr H1 (upd Fr T (.tup [.int (i : Nat), z])) (upd H1 T (.tup [.int (i : Nat), z])) := Stp.new s n
  refine ⟨_, t, T, _, rfl, upd_same, ?_⟩
  rw [hx2]
  exact RDs.cons RD.int_ (RDs.cons (r.up (xx.trans t.ex)) RDs.nil)
theorem fr_EL {f : S → Int × α → Rs (Ctl S R)} (h : RD F (.lst (zs.map e)) v) (s : Same F H) (hp : Post (forR f (enumI zs) s0) P X) (I : S → Hp → Sg → Hp → Prop) (h0 : I s0 F σ H) (hG : ∀ s F' σ H', I s F' σ H' → Same F F' ∧ Same F' H')
    (hs : ∀ (x : Int × α) (rest : List (Int × α)) (s : S) (u : V) F1 σ' H1 F2 H2, I s F1 σ' H1 → Stp [] F1 H1 F2 H2 → RD F2 (eP Dat.int e x) u → Post (f s x) (Turn f P rest X) X → g u σ' H2 fun σ2 H3 => tl { D with nx := NxF (fun s σ H => ∃ F, I s F σ H) f P rest X, ct := NxF (fun s σ H => ∃ F, I s F σ H) f P rest X, bk := D.nx } σ2 H3)
    (hd : ∀ s σ H, (∃ F, I s F σ H) → P (.nx s) → D.nx σ H) : ∃ a xs, [v] = [V.ref a] ∧ SqL K H a xs ∧ LoopOwes g tl D σ (Ite K a) H := by
  obtain ⟨a, vs, rfl, h1, h2⟩ := h
  refine ⟨a, vs, rfl, same_l s h1, fr_core (walk_enum (xs := vs)) (by rw [enumI_len, h2.len, List.length_map]) (fun s σ H => ∃ F, I s F σ H) hp ⟨F, h0⟩ (fun s σ H' ⟨F', q⟩ => same_l ((hG s F' σ H' q).1.trans (hG s F' σ H' q).2) h1) ?_ hd⟩
  rintro i x rest s u σ' H1 H2 hx ⟨F1, q⟩ y p
  obtain ⟨F2, t, r⟩ := en_step h2 hx y (hG _ _ _ _ q).1 (hG _ _ _ _ q).2
  exact hs x rest s u F1 σ' H1 F2 H2 q t r p
theorem fr_ET {f : S → Int × α → Rs (Ctl S R)} (h : RD F (.tup (zs.map e)) v) (s : Same F H) (hp : Post (forR f (enumI zs) s0) P X) (I : S → Hp → Sg → Hp → Prop) (h0 : I s0 F σ H) (hG : ∀ s F' σ H', I s F' σ H' → Same F F' ∧ Same F' H')
    (hs : ∀ (x : Int × α) (rest : List (Int × α)) (s : S) (u : V) F1 σ' H1 F2 H2, I s F1 σ' H1 → Stp [] F1 H1 F2 H2 → RD F2 (eP Dat.int e x) u → Post (f s x) (Turn f P rest X) X → g u σ' H2 fun σ2 H3 => tl { D with nx := NxF (fun s σ H => ∃ F, I s F σ H) f P rest X, ct := NxF (fun s σ H => ∃ F, I s F σ H) f P rest X, bk := D.nx } σ2 H3)
    (hd : ∀ s σ H, (∃ F, I s F σ H) → P (.nx s) → D.nx σ H) : ∃ a xs, [v] = [V.ref a] ∧ SqT K H a xs ∧ LoopOwes g tl D σ (IteT K a) H := by
  obtain ⟨a, vs, rfl, h1, h2⟩ := h
  refine ⟨a, vs, rfl, same_t s h1, fr_core (walk_enumT (xs := vs)) (by rw [enumI_len, h2.len, List.length_map]) (fun s σ H => ∃ F, I s F σ H) hp ⟨F, h0⟩ (fun s σ H' ⟨F', q⟩ => same_t ((hG s F' σ H' q).1.trans (hG s F' σ H' q).2) h1) ?_ hd⟩
  rintro i x rest s u σ' H1 H2 hx ⟨F1, q⟩ y p
  obtain ⟨F2, t, r⟩ := en_step h2 hx y (hG _ _ _ _ q).1 (hG _ _ _ _ q).2
  exact hs x rest s u F1 σ' H1 F2 H2 q t r p
/-- while -/
abbrev WhB (c : S → Rs Bool) (fw : S → Rs (Ctl S R)) (n : Nat) (s : S) (b : Bool) : Rs (Ctl S R) := if b = true then (fw s).bnd fun
    | .nx s' => whileR c fw n s'
    | .bk s' => .ok (.nx s')
    | .rt r => .ok (.rt r) else .ok (.nx s)
abbrev TurnW (c : S → Rs Bool) (fw : S → Rs (Ctl S R)) (n : Nat) (P : Ctl S R → Prop) (X : Xc → Option Int → Prop) : Ctl S R → Prop := Ctl.on (fun s' => Post (whileR c fw n s') P X) (fun s' => P (.nx s')) fun r => P (.rt r)
theorem wh_R {c : S → Rs Bool} {fw : S → Rs (Ctl S R)} {n : Nat} {ct : TT} (hp : Post (whileR c fw n s0) P X) (I : S → Sg → Hp → Prop) (h0 : I s0 σ H)
    (hs : ∀ (n : Nat) (s : S) σ' H' (Nx : Sg → Hp → Prop) (QQ : Bool → Hp → Prop), I s σ' H' → (∀ s' σ2 H2, I s' σ2 H2 → Post (whileR c fw n s') P X → Nx σ2 H2) →
      (∀ H2, tl { D with nx := Nx, ct := Nx, bk := D.nx } σ' H2 → QQ true H2) → (∀ H2, D.nx σ' H2 → QQ false H2) →
      Post (c s) (fun b => Post (WhB c fw n s b) P X) X → ct σ' H' QQ) : tWhile ct tl D σ H := by
  refine ⟨fun m σ H => ∃ s, I s σ H ∧ Post (whileR c fw m s) P X, ⟨n, s0, h0, hp⟩, ?_⟩
  rintro m σ1 H1 ⟨s, q, p⟩
  cases m with
  | zero => exact p.elim
  | succ m =>
    refine hs m s σ1 H1 (fun σ' H' => ∃ m', m' < m + 1 ∧ ∃ s, I s σ' H' ∧ Post (whileR c fw m' s) P X) _ q (fun s' σ2 H2 q2 p2 => ⟨m, Nat.lt_succ_self m, s', q2, p2⟩) (fun H2 k => ?_) (fun H2 k => ?_) ?_
    · rw [if_pos rfl]; exact ⟨_, fun σ' H' z => z, k⟩
    · rw [if_neg (by decide)]; exact k
    · unfold whileR at p; exact p.b
theorem wh_d {c : S → Rs Bool} {fw : S → Rs (Ctl S R)} {n : Nat} {s : S} {QQ : Bool → Hp → Prop} {p : Prop} {_ : Decidable p} (h : Post (WhB c fw n s (decide p)) P X)
    (h1 : p → Post (fw s) (TurnW c fw n P X) X → QQ true H) (h2 : ¬ p → P (.nx s) → QQ false H) : QQ (decide p) H := by
  unfold WhB at h
  by_cases z : p
  · rw [if_pos (decide_eq_true z)] at h
    rw [decide_eq_true z]
    exact h1 z (h.b.mono fun a q => by cases a <;> exact q)
  · rw [if_neg (by simp [z])] at h
    rw [decide_eq_false z]
    exact h2 z h
theorem wh_b {c : S → Rs Bool} {fw : S → Rs (Ctl S R)} {n : Nat} {s : S} {QQ : Bool → Hp → Prop} {p : Bool} (h : Post (WhB c fw n s p) P X)
    (h1 : p = true → Post (fw s) (TurnW c fw n P X) X → QQ true H) (h2 : ¬ p = true → P (.nx s) → QQ false H) : QQ p H := by
  unfold WhB at h
  by_cases z : p = true
  · rw [if_pos z] at h
    subst z
    exact h1 rfl (h.b.mono fun a q => by cases a <;> exact q)
  · rw [if_neg z] at h
    have z2 : p = false := by simpa using z
    subst z2
    exact h2 z h
end

/-! ### comprehensions -/
section
variable {α β γ : Type} {K : PySem.W.Frag} {F H : Hp} {σ : Sg} {Q : VK} {X : Xc → Option Int → Prop} {f : α → Rs (Option β)} {zs : List α} {g : TG} {tt : TT} {te : TE} {v : V} {e : α → Dat} {e2 : β → Dat} {L : Addr} {vs : List V} {ws : List Nat}
abbrev LcOwes (g : TG) (tt : TT) (te : TE) (ws : List Nat) (σ : Sg) (Q : VK) (J : It) (H1 : Hp) : Prop := ∀ D, H1 D = none → ∃ W : Nat → Nat → Hp → Prop, (∃ m, W 0 m (upd H1 D (.lst []))) ∧ ∀ i m H, W i m H →
  (J.stop i H ∧ Q (.ref D) H) ∨ (J.go i H ∧ ∃ Nx : Hp → Prop, (∀ H', Nx H' → ∃ m', m' < m ∧ W (i + 1) m' H') ∧ ∀ x H', J.yld i H x H' → g x (wipe σ ws) H' fun σ2 H2 => wipe σ2 ws = wipe σ ws ∧ tt σ2 H2 fun b H3 =>
    if b = true then te σ2 H3 fun y H4 => ∃ acc, H4 D = some (.lst acc) ∧ acc.length < sizeLine ∧ Nx (upd H4 D (.lst (acc ++ [y]))) else Nx H3)
theorem st_lc {wi : TI} (k : wi σ H fun J H1 => LcOwes g tt te ws σ Q J H1) : tLc wi g tt te ws σ H Q := k
theorem Post.mapc {x : α} {xs : List α} {P : List β → Prop} (h : Post (mapR f (x :: xs)) P X) : Post (f x) (fun o => Post (mapR f xs) (fun r => P (match o with | some y => y :: r | none => r)) X) X := by
  unfold mapR at h
  exact h.b.mono fun a p => p.b
/-- what a turn of a comprehension owes: the test and the item, for all ends -/
abbrev LcTurn (g : TG) (tt : TT) (te : TE) (ws : List Nat) (σ : Sg) (e2 : β → Dat) (F1 H1 F2 H2 : Hp) (m : Rs (Option β)) (X : Xc → Option Int → Prop) (u : V) : Prop :=
  ∀ (PN : Option β → Prop) (NY : VK) (NN : Hp → Prop), (∀ y b F4 H4, Stp [] F1 H1 F4 H4 → RD F4 (e2 b) y → PN (some b) → NY y H4) → (∀ F4 H4, Stp [] F1 H1 F4 H4 → PN none → NN H4) → Post m PN X →
    g u (wipe σ ws) H2 fun σ2 H3 => wipe σ2 ws = wipe σ ws ∧ tt σ2 H3 fun b H4 => if b = true then te σ2 H4 NY else NN H4
theorem lc_core2 {J : It} {n : Nat} {G : Hp → Prop} {Y : Nat → Hp → V → Hp → Prop} {P : List β → Prop} (w : Walk J n G Y) (hn : n = zs.length) (hz : zs.length ≤ 1000000) (s : Same F H) (hp : Post (mapR f zs) P X) (hG : ∀ F' H', Stp [] F H F' H' → G H')
    (hs : ∀ (i : Nat) (x : α) (u : V) F1 H1 H2, zs[i]? = some x → Stp [] F H F1 H1 → Y i H1 u H2 → ∃ F2, Stp [] F1 H1 F2 H2 ∧ LcTurn g tt te ws σ e2 F2 H2 F2 H2 (f x) X u)
    (hd : ∀ L vs r F' H', Stp [] F H F' H' → Fre H L → Own F' H' L (.lst vs) → RDs F' (r.map e2) vs → P r → Q (.ref L) H') : LcOwes g tt te ws σ Q J H := by
  intro D nD
  have key : ∀ (F' H' : Hp), Stp [D] F (upd H D (.lst [])) F' H' → G H' := fun F' H' t =>
    hG F' H' ((Stp.newO s nD).trans t (sub_new nD sub_nil))
  refine lc_it w (fun i H' => ∃ F' acc r0, Stp [] F H F' H' ∧ Own F' H' D (.lst acc) ∧ RDs F' (r0.map e2) acc ∧ acc.length ≤ i ∧ Post (mapR f (zs.drop i)) (fun r => P (r0 ++ r)) X) ?_ ?_ ?_ ?_
  · exact ⟨F, [], [], Stp.newO s nD, ⟨s.free nD, upd_same, trivial⟩, RDs.nil, Nat.le_refl _, hp⟩
  · rintro i H' _ ⟨F', _, _, t, _⟩
    exact hG F' H' t
  · rintro i u H1 H2 hi ⟨F1, acc, r0, t, o, hr, hl, p⟩ y
    have hlt : i < zs.length := hn ▸ hi
    rw [List.drop_eq_getElem_cons hlt] at p
    obtain ⟨F2, t2, T⟩ := hs i zs[i] u F1 H1 H2 (List.getElem?_eq_getElem hlt) t y
    have o2 := t2.keep (by simp) o
    refine T _ _ _ ?_ ?_ p.mapc
    · rintro y b F4 H4 t4 hy q
      have o4 := t4.keep (by simp) o2
      refine ⟨acc, o4.h, sz_lt (by omega), ?_⟩
      have tp := Stp.put (o' := .lst (acc ++ [y])) t4.inn o4
      refine ⟨F4, acc ++ [y], r0 ++ [b], ((t.trans t2 sub_nil).trans t4 sub_nil).trans tp (sub_new nD sub_nil), ⟨o4.f, upd_same, trivial⟩, ?_, ?_, ?_⟩
      · rw [List.map_append]
        exact ((t2.trans t4 sub_nil).ups hr).snoc hy
      · rw [List.length_append]; simp; omega
      · exact q.mono fun r z => by rw [List.append_assoc]; exact z
    · rintro F4 H4 t4 q
      exact ⟨F4, acc, r0, (t.trans t2 sub_nil).trans t4 sub_nil, t4.keep (by simp) o2, (t2.trans t4 sub_nil).ups hr, by omega, q⟩
  · rintro H' ⟨F', acc, r0, t, o, hr, _, p⟩
    rw [hn, List.drop_length] at p
    have p' : P (r0 ++ []) := p
    rw [List.append_nil] at p'
    exact hd D acc r0 F' H' t nD o hr p'
theorem lc_L {P : List β → Prop} (h : RD F (.lst (zs.map e)) v) (s : Same F H) (hz : zs.length ≤ 1000000) (hp : Post (mapR f zs) P X)
    (hs : ∀ (x : α) (u : V) F1 H1, RD F1 (e x) u → Stp [] F H F1 H1 → LcTurn g tt te ws σ e2 F1 H1 F1 H1 (f x) X u)
    (hd : ∀ L vs r F' H', Stp [] F H F' H' → Fre H L → Own F' H' L (.lst vs) → RDs F' (r.map e2) vs → P r → Q (.ref L) H') : ∃ a, v = .ref a ∧ (∃ xs, SqL K H a xs) ∧ LcOwes g tt te ws σ Q (Itl K a) H := by
  obtain ⟨a, vs, rfl, h1, h2⟩ := h
  refine ⟨a, rfl, ⟨vs, same_l s h1⟩, lc_core2 (walk_list (xs := vs)) (by rw [h2.len, List.length_map]) hz s hp (fun F' H' t => same_l (t.ex.trans t.inn) h1) ?_ hd⟩
  rintro i x u F1 H1 H2 hx t ⟨rfl, hu⟩
  obtain ⟨d, hd, r⟩ := h2.of_at hu
  rw [List.getElem?_map, hx] at hd
  cases hd
  exact ⟨F1, Stp.refl t.inn, hs x u F1 _ (r.up t.ex) t⟩
theorem lc_T {P : List β → Prop} (h : RD F (.tup (zs.map e)) v) (s : Same F H) (hz : zs.length ≤ 1000000) (hp : Post (mapR f zs) P X)
    (hs : ∀ (x : α) (u : V) F1 H1, RD F1 (e x) u → Stp [] F H F1 H1 → LcTurn g tt te ws σ e2 F1 H1 F1 H1 (f x) X u)
    (hd : ∀ L vs r F' H', Stp [] F H F' H' → Fre H L → Own F' H' L (.lst vs) → RDs F' (r.map e2) vs → P r → Q (.ref L) H') : ∃ a, v = .ref a ∧ (∃ xs, SqT K H a xs) ∧ LcOwes g tt te ws σ Q (Itt K a) H := by
  obtain ⟨a, vs, rfl, h1, h2⟩ := h
  refine ⟨a, rfl, ⟨vs, same_t s h1⟩, lc_core2 (walk_tup (xs := vs)) (by rw [h2.len, List.length_map]) hz s hp (fun F' H' t => same_t (t.ex.trans t.inn) h1) ?_ hd⟩
  rintro i x u F1 H1 H2 hx t ⟨rfl, hu⟩
  obtain ⟨d, hd, r⟩ := h2.of_at hu
  rw [List.getElem?_map, hx] at hd
  cases hd
  exact ⟨F1, Stp.refl t.inn, hs x u F1 _ (r.up t.ex) t⟩
theorem lc_O {P : List β → Prop} (o : Own F H L (.lst vs)) (h : RDs F (zs.map e) vs) (s : Same F H) (hz : zs.length ≤ 1000000) (hp : Post (mapR f zs) P X)
    (hs : ∀ (x : α) (u : V) F1 H1, RD F1 (e x) u → Stp [] F H F1 H1 → LcTurn g tt te ws σ e2 F1 H1 F1 H1 (f x) X u)
    (hd : ∀ L vs r F' H', Stp [] F H F' H' → Fre H L → Own F' H' L (.lst vs) → RDs F' (r.map e2) vs → P r → Q (.ref L) H') : ∃ a, V.ref L = .ref a ∧ (∃ xs, SqL K H a xs) ∧ LcOwes g tt te ws σ Q (Itl K a) H := by
  refine ⟨L, rfl, ⟨vs, SqL.of o.h⟩, lc_core2 (walk_list (xs := vs)) (by rw [h.len, List.length_map]) hz s hp (fun F' H' t => SqL.of (t.keep (by simp) o).h) ?_ hd⟩
  rintro i x u F1 H1 H2 hx t ⟨rfl, hu⟩
  obtain ⟨d, hd, r⟩ := h.of_at hu
  rw [List.getElem?_map, hx] at hd
  cases hd
  exact ⟨F1, Stp.refl t.inn, hs x u F1 _ (r.up t.ex) t⟩
theorem lc_R {lo hi : Int} {P : List β → Prop} {f : Int → Rs (Option β)} (s : Same F H) (hz : (hi - lo).toNat ≤ 1000000) (hp : Post (mapR f (rngI lo hi)) P X)
    (hs : ∀ (x : Int) F1 H1, Stp [] F H F1 H1 → LcTurn g tt te ws σ e2 F1 H1 F1 H1 (f x) X (.int x))
    (hd : ∀ L vs r F' H', Stp [] F H F' H' → Fre H L → Own F' H' L (.lst vs) → RDs F' (r.map e2) vs → P r → Q (.ref L) H') : LcOwes g tt te ws σ Q (Itr lo (hi - lo).toNat) H := by
  refine lc_core2 (walk_range (lo := lo) (n := (hi - lo).toNat)) (by simp [rngI]) (by simpa [rngI] using hz) s hp (fun _ _ _ => trivial) ?_ hd
  rintro i x u F1 H1 H2 hx t ⟨rfl, rfl⟩
  have := rngI_at hx
  subst this
  exact ⟨F1, Stp.refl t.inn, hs _ F1 _ t⟩
theorem lc_R1 {hi : Int} {P : List β → Prop} {f : Int → Rs (Option β)} (hb : rngOk 0 hi = true) (s : Same F H) (hz : (hi - 0).toNat ≤ 1000000) (hp : Post (mapR f (rngI 0 hi)) P X)
    (hs : ∀ (x : Int) F1 H1, Stp [] F H F1 H1 → LcTurn g tt te ws σ e2 F1 H1 F1 H1 (f x) X (.int x))
    (hd : ∀ L vs r F' H', Stp [] F H F' H' → Fre H L → Own F' H' L (.lst vs) → RDs F' (r.map e2) vs → P r → Q (.ref L) H') : ∃ j : Int, [V.int hi] = [.int j] ∧ -(2 ^ 62) ≤ j ∧ j < 2 ^ 62 ∧ LcOwes g tt te ws σ Q (Itr 0 j.toNat) H := by
  have hb := rngOk.b hb
  have := lc_R (lo := 0) s hz hp hs hd
  rw [Int.sub_zero] at this
  exact ⟨hi, rfl, by omega, by omega, this⟩
theorem lc_R2 {lo hi : Int} {P : List β → Prop} {f : Int → Rs (Option β)} (hb : rngOk lo hi = true) (s : Same F H) (hz : (hi - lo).toNat ≤ 1000000) (hp : Post (mapR f (rngI lo hi)) P X)
    (hs : ∀ (x : Int) F1 H1, Stp [] F H F1 H1 → LcTurn g tt te ws σ e2 F1 H1 F1 H1 (f x) X (.int x))
    (hd : ∀ L vs r F' H', Stp [] F H F' H' → Fre H L → Own F' H' L (.lst vs) → RDs F' (r.map e2) vs → P r → Q (.ref L) H') : ∃ i j : Int, [V.int lo, V.int hi] = [.int i, .int j] ∧ (-(2 ^ 62) ≤ i ∧ i < 2 ^ 62 ∧ -(2 ^ 62) ≤ j ∧ j < 2 ^ 62) ∧ LcOwes g tt te ws σ Q (Itr i (j - i).toNat) H := by
  have hb := rngOk.b hb
  exact ⟨lo, hi, rfl, ⟨by omega, by omega, by omega, by omega⟩, lc_R s hz hp hs hd⟩
/-- a list of ours is as well a frozen one -/
theorem mk_rd {P : List β → Prop} (k : ∀ u r F' H', Stp [] F H F' H' → RD F' (.lst (r.map e2)) u → P r → Q u H') : ∀ L vs r F' H', Stp [] F H F' H' → Fre H L → Own F' H' L (.lst vs) → RDs F' (r.map e2) vs → P r → Q (.ref L) H' := fun L vs r F' H' s n o hr p => by
  obtain ⟨F2, s2, r2⟩ := own_rd s n o hr
  exact k _ r F2 H' s2 r2 p
/-- x + y of two frozen lists -/
theorem sm_cat {u w : V} {xs ys : List α} (s : Same F H) (h1 : RD F (.lst (xs.map e)) u) (h2 : RD F (.lst (ys.map e)) w) (z : xs.length + ys.length ≤ 1000000)
    (k : ∀ x F' H', Stp [] F H F' H' → RD F' (.lst ((xs ++ ys).map e)) x → Q x H') : rAddU K u w H Q := by
  obtain ⟨a, vs, rfl, _, h3, h4⟩ := rd_lst s h1
  obtain ⟨b, ws, rfl, _, h5, h6⟩ := rd_lst s h2
  have l1 : vs.length = xs.length := by rw [h4.len, List.length_map]
  have l2 : ws.length = ys.length := by rw [h6.len, List.length_map]
  refine .inr (.inl ⟨a, b, vs, ws, rfl, rfl, h3, h5, sz_le (by omega), nw_lst s (ds := (xs ++ ys).map e) ?_ k⟩)
  rw [List.map_append]
  exact h4.app h6
/-- made.append(x), the data told -/
theorem sm_app {x : α} {u : V} (s : Same F H) (o : Own F H L (.lst vs)) (hd : RDs F (zs.map e) vs) (hx : RD F (e x) u) (z : zs.length < 1000000)
    (k : ∀ ws F' H', Stp [L] F H F' H' → Own F' H' L (.lst ws) → RDs F' ((zs ++ [x]).map e) ws → Q .non H') : rAppend (.ref L) [u] H Q := by
  refine st_app s o (by rw [hd.len, List.length_map]; exact z) fun F' H' t o' => k _ F' H' t o' ?_
  rw [List.map_append]
  exact (t.ups hd).snoc (t.up hx)
def setR {γ : Type} (xs : List γ) (i : Int) (x : γ) (k : List γ → Rs β) : Rs β := match ixN xs.length i with
  | some n => k (xs.set n x)
  | none => .bad
theorem Post.st {P : β → Prop} {xs : List α} {i : Int} {x : α} {k : List α → Rs β} (h : Post (setR xs i x k) P X) : ∃ n, ixN xs.length i = some n ∧ Post (k (xs.set n x)) P X := by
  unfold setR at h
  cases q : ixN xs.length i with
  | none => rw [q] at h; exact h.elim
  | some n => rw [q] at h; exact ⟨n, rfl, h⟩
theorem sm_set {x : α} {u : V} {i : Int} {n : Nat} {Q : Hp → Prop} (s : Same F H) (o : Own F H L (.lst vs)) (hd : RDs F (zs.map e) vs) (hx : RD F (e x) u) (hn : ixN zs.length i = some n)
    (k : ∀ ws F' H', Stp [L] F H F' H' → Own F' H' L (.lst ws) → RDs F' ((zs.set n x).map e) ws → Q H') : rSetL (.ref L) (.int i) u H Q := by
  refine st_setO s o (n := n) (by rw [hd.len, List.length_map]; exact hn) fun F' H' t o' => k _ F' H' t o' ?_
  rw [List.map_set]
  exact RDs.set n (t.ups hd) (t.up hx)
/-- a new instance, told by its promise -/
theorem sm_make {C : Addr} {ws : List V} {E : XK} {sp : Sp} {P : Addr → Hp → Prop} (s : Same F H)
    (k : ∀ L dx F' H', Stp [] F H F' H' → Fre H L → Own F' H' L (.ins C dx []) → sp (.ref L :: ws) H' (fun v H2 => v = .non ∧ P L H2) E) :
    ∀ x dx, H x = none → H dx = none → dx ≠ x → sp (.ref x :: ws) (upd (upd H dx (.own x)) x (.ins C dx [])) (fun v H2 => v = .non ∧ P x H2) E := fun x dx h1 h2 h3 => by
  have t1 : Stp [] F H F (upd H dx (.own x)) := Stp.newO s h2
  have h4 : upd H dx (.own x) x = none := by rw [upd_ne (Ne.symm h3)]; exact h1
  have t2 : Stp [] F (upd H dx (.own x)) F (upd (upd H dx (.own x)) x (.ins C dx [])) := Stp.newO t1.inn h4
  exact k x dx F _ (t1.trans t2 sub_nil) h1 ⟨s.free h1, upd_same, trivial⟩
theorem own_rdI {S : List Addr} {F H F1 H1 : Hp} {L C dx : Addr} {nms : List Str} {ds : List Dat} (s : Stp S F H F1 H1) (n : Fre H L) (o : Own F1 H1 L (.ins C dx (nms.zip vs))) (hd : RDs F1 ds vs) : ∃ F2, Stp S F H F2 H1 ∧ RD F2 (.obj C nms ds) (.ref L) := by
  have t := Stp.frz s.inn o
  exact ⟨_, Stp.trans s t (sub_new n sub_nil), L, dx, vs, rfl, upd_same, hd.up t.ex⟩
/-- self.f = x -/
theorem st_sfld {tv ta : TE} {fn : Str} {D : Ends} (k : tv σ H fun y H1 => ta σ H1 fun x H2 => ∃ a C dx fs, x = .ref a ∧ H2 a = some (.ins C dx fs) ∧ Cls K C ∧ NoAttr K C fn ∧ fs.length < 1000 ∧ D.nx σ (upd H2 a (.ins C dx (putF fn y fs)))) : sFld K ta tv fn D σ H := k
theorem sm_sfld {C dx : Addr} {fs fs' : List (Str × V)} {fn : Str} {u : V} {P : Hp → Prop} (s : Same F H) (o : Own F H L (.ins C dx fs)) (cl : Cls K C) (na : NoAttr K C fn) (hl : fs.length < 1000) (hp : putF fn u fs = fs')
    (k : ∀ F' H', Stp [L] F H F' H' → Own F' H' L (.ins C dx fs') → P H') : ∃ a C dx fs, V.ref L = .ref a ∧ H a = some (.ins C dx fs) ∧ Cls K C ∧ NoAttr K C fn ∧ fs.length < 1000 ∧ P (upd H a (.ins C dx (putF fn u fs))) :=
  ⟨L, C, dx, fs, rfl, o.h, cl, na, hl, k _ _ (Stp.put s o) ⟨o.f, by rw [upd_same, hp], trivial⟩⟩
/-- divmod(i, j) -/
theorem sm_divmod {i j : Int} (s : Same F H) (h : divOk j = true) (k : ∀ u F' H', Stp [] F H F' H' → RD F' (.tup [.int (i / j), .int (i % j)]) u → Q u H') : rDivmodU [.int i, .int j] H Q :=
  ⟨i, j, rfl, divOk.c h, nw_tup s (ds := [.int (i / j), .int (i % j)]) (RDs.cons RD.int_ (RDs.cons RD.int_ RDs.nil)) k⟩
theorem sm_int {i : Int} (k : Q (.int i) H) : rInt1 [.int i] H Q := .inl ⟨i, rfl, k⟩
theorem sm_intB {b : Bool} (k : Q (.int (if b = true then 1 else 0)) H) : rInt1 [.bl b] H Q := .inr ⟨b, rfl, k⟩
/-- a, b = .. -/
theorem sm_g2 {d1 d2 : Dat} {t : TGs} {Q : Sg → Hp → Prop} (s : Same F H) (h : RD F (.tup [d1, d2]) v) (k : ∀ x y, RD F d1 x → RD F d2 y → t [x, y] σ H Q) : gTupU K 2 t v σ H Q :=
  st_gtup s h rfl fun vs h => by
    obtain ⟨x, r, rfl, h1, y, r2, rfl, h2, h3⟩ := h
    cases (show r2 = [] from h3)
    exact k x y h1 h2
theorem own_fzI {F H : Hp} {L C dx : Addr} {nms : List Str} {ds : List Dat} (s : Same F H) (o : Own F H L (.ins C dx (nms.zip vs))) (hd : RDs F ds vs) : ∃ F2, Stp [L] F H F2 H ∧ RD F2 (.obj C nms ds) (.ref L) := by
  have t := Stp.frz s o
  exact ⟨_, t, L, dx, vs, rfl, upd_same, hd.up t.ex⟩
theorem sm_tupQ {b : Bool} (s : Same F H) (h : RD F (eQ b e zs) v) (k : ∀ u F' H', Stp [] F H F' H' → RD F' (.tup (zs.map e)) u → Q u H') : rTupU K [v] H Q := by
  cases b with
  | true => exact st_tupT s h (k v F H (Stp.refl s) h)
  | false => exact st_tupL s h k
/-- None or a thing -/
def eO (e : α → Dat) : Option α → Dat
  | none => .non
  | some x => e x
def isRef : Dat → Bool
  | .lst _ => true
  | .tup _ => true
  | .obj _ _ _ => true
  | .exc _ _ => true
  | .dct _ => true
  | _ => false
theorem rd_ref {d : Dat} {u : V} (h : RD F d u) (z : isRef d = true) : u ≠ .non := by
  cases d with
  | lst ds => obtain ⟨a, vs, rfl, _⟩ := h; exact fun q => by cases q
  | tup ds => obtain ⟨a, vs, rfl, _⟩ := h; exact fun q => by cases q
  | obj C n ds => obtain ⟨a, dx, vs, rfl, _⟩ := h; exact fun q => by cases q
  | exc C l => obtain ⟨a, d, rfl, _⟩ := h; exact fun q => by cases q
  | dct kvs => obtain ⟨a, rfl, _⟩ := h; exact fun q => by cases q
  | _ => cases z
theorem sm_isN {o : Option α} {u : V} (h : RD F (eO e o) u) (z : ∀ x, isRef (e x) = true) (k : Q (.bl o.isNone) H) : rIsN u .non H Q := by
  cases o with
  | none => rw [show u = V.non from h]; exact st_isN1 k
  | some x => exact st_isN0 (rd_ref (show RD F (e x) u from h) (z x)) k
theorem sm_notN {o : Option α} {u : V} (h : RD F (eO e o) u) (z : ∀ x, isRef (e x) = true) (k : Q (.bl (!o.isNone)) H) : rNotN u .non H Q := by
  cases o with
  | none => rw [show u = V.non from h]; exact st_notN1 k
  | some x => exact st_notN0 (rd_ref (show RD F (e x) u from h) (z x)) k
def somR (o : Option α) (k : α → Rs β) : Rs β := match o with
  | some x => k x
  | none => .bad
theorem Post.som {P : β → Prop} {o : Option α} {k : α → Rs β} (h : Post (somR o k) P X) : ∃ x, o = some x ∧ Post (k x) P X := by
  cases o with
  | none => exact h.elim
  | some x => exact ⟨x, rfl, h⟩
theorem st_yes {Q : Bool → Hp → Prop} (k : Q true H) : tYes σ H Q := k
theorem st_sl {r : V → Option Int → Option Int → Hp → VK → Prop} {t : TE} {tl th : TO} (k : t σ H fun x H1 => tl σ H1 fun l H2 => th σ H2 fun u H3 => r x l u H3 Q) : tSl r t tl th σ H Q := k
theorem st_nopart {Q : Option Int → Hp → Prop} (k : Q none H) : tNoPart σ H Q := k
theorem st_part {t : TE} {Q : Option Int → Hp → Prop} (k : t σ H fun x H1 => ∃ i, x = .int i ∧ Q (some i) H1) : tPart t σ H Q := k
theorem st_exi {i : Int} {P : Int → Prop} (k : P i) : ∃ j, V.int i = .int j ∧ P j := ⟨i, rfl, k⟩
theorem st_make {C : Addr} {sp : Sp} {dvs : List V} {E : XK} {t : TA} (k : t σ H fun vs H1 => ∀ x dx, H1 x = none → H1 dx = none → dx ≠ x → sp (.ref x :: (vs ++ dvs)) (upd (upd H1 dx (.own x)) x (.ins C dx [])) (fun v H2 => v = .non ∧ Q (.ref x) H2) E) : tMake C sp dvs E t σ H Q := k
end
section
variable {S R β : Type} {F H : Hp} {σ : Sg} {D : Ends} {P : β → Prop} {X : Xc → Option Int → Prop} {m : Rs (Ctl S R)} {k : S → Rs β} {r : R → Rs β} {wi : TI} {g : TG} {tb u : TS} {c : TT}
theorem cutF (hm : Post (m.thn k r) P X) (I : S → Sg → Hp → Prop)
    (h1 : ∀ nx : Sg → Hp → Prop, (∀ s σ' H', I s σ' H' → Post (k s) P X → nx σ' H') → Post m (Ctl.on (fun s => Post (k s) P X) (fun s => Post (k s) P X) fun x => Post (r x) P X) X → tFor wi g tb { D with nx := nx } σ H)
    (h2 : ∀ s σ' H', I s σ' H' → Post (k s) P X → D.nx σ' H') : tFor wi g tb D σ H := cutS hm I h1 h2
theorem cutW (hm : Post (m.thn k r) P X) (I : S → Sg → Hp → Prop)
    (h1 : ∀ nx : Sg → Hp → Prop, (∀ s σ' H', I s σ' H' → Post (k s) P X → nx σ' H') → Post m (Ctl.on (fun s => Post (k s) P X) (fun s => Post (k s) P X) fun x => Post (r x) P X) X → tWhile c tb { D with nx := nx } σ H)
    (h2 : ∀ s σ' H', I s σ' H' → Post (k s) P X → D.nx σ' H') : tWhile c tb D σ H := cutS hm I h1 h2
theorem cutI (hm : Post (m.thn k r) P X) (I : S → Sg → Hp → Prop)
    (h1 : ∀ nx : Sg → Hp → Prop, (∀ s σ' H', I s σ' H' → Post (k s) P X → nx σ' H') → Post m (Ctl.on (fun s => Post (k s) P X) (fun s => Post (k s) P X) fun x => Post (r x) P X) X → tIfS c tb u { D with nx := nx } σ H)
    (h2 : ∀ s σ' H', I s σ' H' → Post (k s) P X → D.nx σ' H') : tIfS c tb u D σ H := cutS hm I h1 h2
variable {K : PySem.W.Frag} {R0 : It → Hp → Prop} {ta : TA}
theorem st_enumL (k : ta σ H fun vs H1 => ∃ a xs, vs = [.ref a] ∧ SqL K H1 a xs ∧ R0 (Ite K a) H1) : iEnumU K ta σ H R0 := .inl k
theorem st_enumT (k : ta σ H fun vs H1 => ∃ a xs, vs = [.ref a] ∧ SqT K H1 a xs ∧ R0 (IteT K a) H1) : iEnumU K ta σ H R0 := .inr k
end
end DK
set_option maxRecDepth 100000
set_option maxHeartbeats 2000000
/-! DK, fifth part: what mirrors compute. -/
namespace DK
open PySem PySem.Spec PyProof.Rows L2
section
variable {α β γ S R : Type}
theorem log2_lt {n k : Nat} (h : n < 2 ^ k) (hk : 0 < k) : n.log2 < k := by
  by_cases z : n = 0
  · subst z; simpa using hk
  · exact (Nat.log2_lt z).mpr h
theorem mulOk_of {i j : Int} (h1 : -(2 ^ 64) < i) (h2 : i < 2 ^ 64) (h3 : -(2 ^ 64) < j) (h4 : j < 2 ^ 64) : mulOk i j = true := by
  have a : i.natAbs.log2 < 64 := log2_lt (by omega) (by decide)
  have b : j.natAbs.log2 < 64 := log2_lt (by omega) (by decide)
  simp only [mulOk, decide_eq_true_eq]; omega
theorem rngOk_of {lo hi : Int} (h1 : -(2 ^ 60) < lo) (h2 : lo < 2 ^ 60) (h3 : -(2 ^ 60) < hi) (h4 : hi < 2 ^ 60) : rngOk lo hi = true := by
  have a : lo.natAbs.log2 < 61 := log2_lt (by omega) (by decide)
  have b : hi.natAbs.log2 < 61 := log2_lt (by omega) (by decide)
  simp only [rngOk, Bool.and_eq_true, decide_eq_true_eq]; exact ⟨a, b⟩
theorem divOk_of {j : Int} (h1 : 0 < j) (h2 : j < 2 ^ 64) : divOk j = true := by
  have b : j.natAbs.log2 < 64 := log2_lt (by omega) (by decide)
  simp only [divOk, Bool.and_eq_true, decide_eq_true_eq]; omega
theorem grd_of {p : Prop} {_ : Decidable p} {m : Rs α} (h : p) : grd p m = m := if_pos h
theorem atI_of {xs : List α} {i : Nat} {x : α} (h : xs[i]? = some x) : atI xs (i : Nat) = some x := by
  have hl := (List.getElem?_eq_some_iff.mp h).1
  unfold atI ixN
  rw [if_pos (by omega), if_pos (by omega)]
  simpa using h
theorem ixR_of {xs : List α} {i : Nat} {x : α} (h : xs[i]? = some x) : ixR xs (i : Nat) = .ok x := by
  unfold ixR; rw [atI_of h]
theorem ixR_zero {x : α} {xs : List α} : ixR (x :: xs) 0 = .ok x := ixR_of (i := 0) rfl
theorem setR_zero {k : List α → Rs β} {x y : α} {xs : List α} : setR (y :: xs) 0 x k = k (x :: xs) := by
  unfold setR ixN
  rw [if_pos (by decide), if_pos (by simp)]
  rfl
/-- an index within -/
theorem ixR_in {xs : List α} {i : Int} (h0 : 0 ≤ i) (h1 : i < xs.length) : ∃ x, ixR xs i = .ok x ∧ xs[i.toNat]? = some x := by
  have hl : i.toNat < xs.length := by omega
  refine ⟨xs[i.toNat], ?_, List.getElem?_eq_getElem hl⟩
  have e : i = (i.toNat : Int) := by omega
  have := ixR_of (List.getElem?_eq_getElem hl)
  rw [← e] at this
  exact this
/-- a loop that always goes on -/
theorem forR_ok {f : S → α → Rs (Ctl S R)} (g : S → α → S) (I : List α → S → Prop) (hs : ∀ x rest s, I (x :: rest) s → f s x = .ok (.nx (g s x)) ∧ I rest (g s x)) : ∀ (xs : List α) (s : S), I xs s → forR f xs s = .ok (.nx (xs.foldl g s))
  | [], _, _ => rfl
  | x :: xs, s, h => by
    obtain ⟨h1, h2⟩ := hs x xs s h
    unfold forR
    rw [h1, Rs.bnd_ok, List.foldl_cons]
    exact forR_ok g I hs xs _ h2
/-- a loop told by an invariant -/
theorem forR_inv {f : S → α → Rs (Ctl S R)} (I : List α → S → Prop) (hs : ∀ x rest s, I (x :: rest) s → ∃ s', f s x = .ok (.nx s') ∧ I rest s') : ∀ (xs : List α) (s : S), I xs s → ∃ s', forR f xs s = .ok (.nx s') ∧ I [] s'
  | [], s, h => ⟨s, rfl, h⟩
  | x :: xs, s, h => by
    obtain ⟨s', h1, h2⟩ := hs x xs s h
    obtain ⟨s2, h3, h4⟩ := forR_inv I hs xs s' h2
    refine ⟨s2, ?_, h4⟩
    unfold forR
    rw [h1, Rs.bnd_ok]
    exact h3
theorem forR_congr {f f' : S → α → Rs (Ctl S R)} : ∀ (xs : List α) (s : S), (∀ x ∈ xs, ∀ s, f s x = f' s x) → forR f xs s = forR f' xs s
  | [], _, _ => rfl
  | x :: xs, s, h => by
    unfold forR
    rw [h x List.mem_cons_self]
    congr 1
    funext c
    cases c with
    | nx s' => exact forR_congr xs s' fun y hy => h y (List.mem_cons_of_mem _ hy)
    | bk s' => rfl
    | rt r => rfl
/-- a loop that appends -/
theorem forR_app {f : List β → α → Rs (Ctl (List β) R)} (g : α → β) : ∀ (xs : List α) (acc : List β), (∀ x ∈ xs, ∀ s : List β, s.length < 1000000 → f s x = .ok (.nx (s ++ [g x]))) → acc.length + xs.length ≤ 1000000 → forR f xs acc = .ok (.nx (acc ++ xs.map g))
  | [], acc, _, _ => by simp [forR]
  | x :: xs, acc, h, hl => by
    rw [List.length_cons] at hl
    unfold forR
    rw [h x List.mem_cons_self acc (by omega), Rs.bnd_ok]
    show forR f xs (acc ++ [g x]) = _
    rw [forR_app g xs _ (fun y hy => h y (List.mem_cons_of_mem _ hy)) (by rw [List.length_append]; simp; omega)]
    simp
/-- a loop that only looks -/
theorem forR_look {f : Unit → α → Rs (Ctl Unit R)} : ∀ (xs : List α), (∀ x ∈ xs, f () x = .ok (.nx ())) → forR f xs () = .ok (.nx ())
  | [], _ => rfl
  | x :: xs, h => by
    unfold forR
    rw [h x List.mem_cons_self, Rs.bnd_ok]
    exact forR_look xs fun y hy => h y (List.mem_cons_of_mem _ hy)
theorem mapR_ok {f : α → Rs (Option β)} (g : α → Option β) : ∀ (xs : List α), (∀ x ∈ xs, f x = .ok (g x)) → mapR f xs = .ok (xs.filterMap g)
  | [], _ => rfl
  | x :: xs, h => by
    unfold mapR
    rw [h x List.mem_cons_self, Rs.bnd_ok, mapR_ok g xs fun y hy => h y (List.mem_cons_of_mem _ hy), Rs.bnd_ok, List.filterMap_cons]
    cases g x <;> rfl
theorem mapR_map {f : α → Rs (Option β)} (g : α → β) (xs : List α) (h : ∀ x ∈ xs, f x = .ok (some (g x))) : mapR f xs = .ok (xs.map g) := by
  rw [mapR_ok (fun x => some (g x)) xs h]
  simp
theorem mapR_filter {f : α → Rs (Option α)} (p : α → Bool) (xs : List α) (h : ∀ x ∈ xs, f x = .ok (if p x = true then some x else none)) : mapR f xs = .ok (xs.filter p) := by
  rw [mapR_ok (fun x => if p x = true then some x else none) xs h]
  congr 1
  clear h
  induction xs with
  | nil => rfl
  | cons x xs ih => rw [List.filterMap_cons, List.filter_cons]; by_cases z : p x = true <;> simp [z, ih]
theorem whileR_step {c : S → Rs Bool} {f : S → Rs (Ctl S R)} {n : Nat} {s s' : S} (h1 : c s = .ok true) (h2 : f s = .ok (.nx s')) : whileR c f (n + 1) s = whileR c f n s' := by
  rw [whileR, h1, Rs.bnd_ok, if_pos rfl, h2]; rfl
theorem whileR_end {c : S → Rs Bool} {f : S → Rs (Ctl S R)} {n : Nat} {s : S} (h1 : c s = .ok false) : whileR c f (n + 1) s = .ok (.nx s) := by
  rw [whileR, h1]; rfl
/-- a while told by an invariant and a measure -/
theorem whileR_inv {c : S → Rs Bool} {f : S → Rs (Ctl S R)} (I : S → Prop) (μ : S → Nat) (p : S → Bool) (hc : ∀ s, I s → c s = .ok (p s)) (hs : ∀ s, I s → p s = true → ∃ s', f s = .ok (.nx s') ∧ I s' ∧ μ s' < μ s) :
    ∀ (n : Nat) (s : S), I s → μ s < n → ∃ s', whileR c f n s = .ok (.nx s') ∧ I s' ∧ p s' = false
  | 0, _, _, h => by omega
  | n + 1, s, h, hn => by
    by_cases z : p s = true
    · obtain ⟨s', h1, h2, h3⟩ := hs s h z
      rw [whileR_step (by rw [hc s h, z]) h1]
      exact whileR_inv I μ p hc hs n s' h2 (by omega)
    · have z2 : p s = false := by simpa using z
      exact ⟨s, whileR_end (by rw [hc s h, z2]), h, z2⟩
theorem rngI_mem {lo hi x : Int} (h : x ∈ rngI lo hi) : lo ≤ x ∧ x < hi := by
  unfold rngI at h
  obtain ⟨k, hk, rfl⟩ := List.mem_map.mp h
  rw [List.mem_range] at hk
  omega
theorem rngI_len {lo hi : Int} : (rngI lo hi).length = (hi - lo).toNat := by simp [rngI]
/-! what is owed, backwards -/
variable {m : Rs α} {k : α → Rs β} {P : β → Prop} {X : Xc → Option Int → Prop}
theorem w_ok {a : β} (h : P a) : Post (.ok a) P X := h
theorem w_bnd (h : Post m (fun a => Post (k a) P X) X) : Post (m.bnd k) P X := by
  cases m <;> exact h
theorem w_call {Q : α → Prop} (h : Post m Q X) (z : ∀ a, Q a → Post (k a) P X) : Post (m.bnd k) P X := w_bnd (h.mono z)
theorem w_thn {m : Rs (Ctl S R)} {k : S → Rs β} {r : R → Rs β} (h : Post m (Ctl.on (fun s => Post (k s) P X) (fun s => Post (k s) P X) fun x => Post (r x) P X) X) : Post (m.thn k r) P X :=
  w_bnd (h.mono fun a p => by cases a <;> exact p)
theorem w_grd {p : Prop} {_ : Decidable p} {m : Rs β} (h : p) (k : Post m P X) : Post (grd p m) P X := by rw [grd_of h]; exact k
theorem w_if {p : Prop} {_ : Decidable p} {m n : Rs β} (h1 : p → Post m P X) (h2 : ¬ p → Post n P X) : Post (if p then m else n) P X := by
  by_cases z : p
  · rw [if_pos z]; exact h1 z
  · rw [if_neg z]; exact h2 z
theorem w_eq {a : β} {m : Rs β} (e : m = .ok a) (h : P a) : Post m P X := by rw [e]; exact h
theorem w_get {m : Rs β} (h : Post m P fun _ _ => False) : ∃ a, m = .ok a ∧ P a := by
  cases m with
  | ok a => exact ⟨a, rfl, h⟩
  | exc c t => exact h.elim
  | bad => exact h.elim
theorem w_ix {xs : List α} {i : Int} (h0 : 0 ≤ i) (h1 : i < xs.length) (z : ∀ x, xs[i.toNat]? = some x → Post (k x) P X) : Post ((ixR xs i).bnd k) P X := by
  obtain ⟨x, h2, h3⟩ := ixR_in h0 h1
  rw [h2]; exact z x h3
theorem w_for {f : S → α → Rs (Ctl S R)} {P : Ctl S R → Prop} (I : List α → S → Prop) (hs : ∀ x rest s, I (x :: rest) s → Post (f s x) (Ctl.on (fun s' => I rest s') (fun s' => P (.nx s')) fun r => P (.rt r)) X) (hk : ∀ s, I [] s → P (.nx s)) :
    ∀ (xs : List α) (s : S), I xs s → Post (forR f xs s) P X
  | [], s, h => hk s h
  | x :: xs, s, h => by
    unfold forR
    refine w_bnd ((hs x xs s h).mono fun c p => ?_)
    cases c with
    | nx s' => exact w_for I hs hk xs s' p
    | bk s' => exact p
    | rt r => exact p
theorem w_while {c : S → Rs Bool} {f : S → Rs (Ctl S R)} {P : Ctl S R → Prop} (I : S → Prop) (μ : S → Nat) (hs : ∀ s, I s → Post (c s) (fun b => if b = true then Post (f s) (Ctl.on (fun s' => I s' ∧ μ s' < μ s) (fun s' => P (.nx s')) fun r => P (.rt r)) X else P (.nx s)) X) :
    ∀ (n : Nat) (s : S), I s → μ s < n → Post (whileR c f n s) P X
  | 0, _, _, h => by omega
  | n + 1, s, h, hn => by
    unfold whileR
    refine w_bnd ((hs s h).mono fun b p => ?_)
    by_cases z : b = true
    · rw [if_pos z] at p
      rw [if_pos z]
      refine w_bnd (p.mono fun c p => ?_)
      cases c with
      | nx s' => exact w_while I μ hs n s' p.1 (by have := p.2; omega)
      | bk s' => exact p
      | rt r => exact p
    · rw [if_neg z] at p
      rw [if_neg z]
      exact p
end
end DK
set_option maxRecDepth 100000
set_option maxHeartbeats 2000000
/-! DK, sixth part: more steps. -/
namespace DK
open PySem PySem.Spec PyProof.Rows L2
section
variable {α β S R : Type} {K : PySem.W.Frag} {F H : Hp} {σ : Sg} {Q : VK} {D : Ends} {X : Xc → Option Int → Prop} {i j : Int} {v : V} {L : Addr} {vs : List V} {e : α → Dat} {zs : List α} {z : α} {P : β → Prop}
/-- a value of a plain kind, cut -/
theorem cutX {c : TE} {m : Rs α} {k : α → Rs β} (mk : α → V) (F H : Hp) (hm : Post (m.bnd k) P X)
    (h1 : ∀ Q' : VK, (∀ b F' H', Stp [] F H F' H' → Post (k b) P X → Q' (mk b) H') → Post m (fun b => Post (k b) P X) X → c σ H Q')
    (h2 : ∀ b F' H', Stp [] F H F' H' → Post (k b) P X → Q (mk b) H') : c σ H Q := h1 Q h2 hm.b
theorem sm_abs (k : Q (.int (i.natAbs : Nat)) H) : rAbsI [.int i] H Q := ⟨i, rfl, by
  rw [show (if i < 0 then -i else i) = ((i.natAbs : Nat) : Int) by split <;> omega]; exact k⟩
theorem sm_max2 (k : Q (.int (max i j)) H) : rMax2I [.int i, .int j] H Q := ⟨i, j, rfl, by
  rw [show (if j > i then j else i) = max i j by split <;> omega]; exact k⟩
theorem sm_min2 (k : Q (.int (min i j)) H) : rMin2I [.int i, .int j] H Q := ⟨i, j, rfl, by
  rw [show (if j < i then j else i) = min i j by split <;> omega]; exact k⟩
def maxR (xs : List Int) : Rs Int := match xs with
  | [] => .bad
  | x :: r => .ok (r.foldl max x)
def minR (xs : List Int) : Rs Int := match xs with
  | [] => .bad
  | x :: r => .ok (r.foldl min x)
theorem foldl_max : ∀ (r : List Int) (x : Int), (r.foldl max x ∈ x :: r) ∧ ∀ y ∈ x :: r, y ≤ r.foldl max x
  | [], x => by simp
  | a :: r, x => by
    obtain ⟨h1, h2⟩ := foldl_max r (max x a)
    rw [List.foldl_cons]
    constructor
    · rcases List.mem_cons.mp h1 with h | h
      · rw [h]
        by_cases z : a ≤ x
        · rw [Int.max_eq_left z]; exact List.mem_cons_self
        · rw [Int.max_eq_right (by omega)]; exact List.mem_cons_of_mem _ List.mem_cons_self
      · exact List.mem_cons_of_mem _ (List.mem_cons_of_mem _ h)
    · intro y hy
      have hb := h2 (max x a) List.mem_cons_self
      rcases List.mem_cons.mp hy with h | h
      · subst h; omega
      · rcases List.mem_cons.mp h with h | h
        · subst h; omega
        · exact h2 y (List.mem_cons_of_mem _ h)
theorem foldl_min : ∀ (r : List Int) (x : Int), (r.foldl min x ∈ x :: r) ∧ ∀ y ∈ x :: r, r.foldl min x ≤ y
  | [], x => by simp
  | a :: r, x => by
    obtain ⟨h1, h2⟩ := foldl_min r (min x a)
    rw [List.foldl_cons]
    constructor
    · rcases List.mem_cons.mp h1 with h | h
      · rw [h]
        by_cases z : x ≤ a
        · rw [Int.min_eq_left z]; exact List.mem_cons_self
        · rw [Int.min_eq_right (by omega)]; exact List.mem_cons_of_mem _ List.mem_cons_self
      · exact List.mem_cons_of_mem _ (List.mem_cons_of_mem _ h)
    · intro y hy
      have hb := h2 (min x a) List.mem_cons_self
      rcases List.mem_cons.mp hy with h | h
      · subst h; omega
      · rcases List.mem_cons.mp h with h | h
        · subst h; omega
        · exact h2 y (List.mem_cons_of_mem _ h)
theorem Post.mx {xs : List Int} {k : Int → Rs β} (h : Post ((maxR xs).bnd k) P X) : ∃ m, m ∈ xs ∧ (∀ y ∈ xs, y ≤ m) ∧ maxR xs = .ok m ∧ Post (k m) P X := by
  cases xs with
  | nil => exact h.elim
  | cons x r => exact ⟨_, (foldl_max r x).1, (foldl_max r x).2, rfl, h⟩
theorem Post.mn {xs : List Int} {k : Int → Rs β} (h : Post ((minR xs).bnd k) P X) : ∃ m, m ∈ xs ∧ (∀ y ∈ xs, m ≤ y) ∧ minR xs = .ok m ∧ Post (k m) P X := by
  cases xs with
  | nil => exact h.elim
  | cons x r => exact ⟨_, (foldl_min r x).1, (foldl_min r x).2, rfl, h⟩
theorem rd_ints {ns : List Int} (s : Same F H) (h : RD F (.lst (ns.map Dat.int)) v) : ∃ a, v = .ref a ∧ SqL K H a (ns.map V.int) := by
  obtain ⟨a, vs, rfl, h1, h2⟩ := h
  exact ⟨a, rfl, by rw [← RDs.ints h2]; exact same_l s h1⟩
theorem sm_maxL {ns : List Int} {m : Int} (s : Same F H) (h : RD F (.lst (ns.map Dat.int)) v) (h1 : m ∈ ns) (h2 : ∀ y ∈ ns, y ≤ m) (k : Q (.int m) H) : rMax K [v] H Q := by
  obtain ⟨a, rfl, q⟩ := rd_ints (K := K) s h
  refine ⟨a, ns, rfl, q, List.length_pos_of_mem h1, fun m' h3 h4 => ?_⟩
  rw [show m' = m from Int.le_antisymm (h2 m' h3) (h4 m h1)]; exact k
theorem sm_minL {ns : List Int} {m : Int} (s : Same F H) (h : RD F (.lst (ns.map Dat.int)) v) (h1 : m ∈ ns) (h2 : ∀ y ∈ ns, m ≤ y) (k : Q (.int m) H) : rMin K [v] H Q := by
  obtain ⟨a, rfl, q⟩ := rd_ints (K := K) s h
  refine ⟨a, ns, rfl, q, List.length_pos_of_mem h1, fun m' h3 h4 => ?_⟩
  rw [show m' = m from Int.le_antisymm (h4 m h1) (h2 m' h3)]; exact k
theorem sm_sumL {ns : List Int} (s : Same F H) (h : RD F (.lst (ns.map Dat.int)) v) (k : Q (.int ns.sum) H) : rSum K [v] H Q := by
  obtain ⟨a, rfl, q⟩ := rd_ints (K := K) s h
  exact ⟨a, ns, rfl, q, k⟩
theorem rd_bls {bs : List Bool} : ∀ {vs : List V}, RDs F (bs.map Dat.bl) vs → vs = bs.map V.bl := by
  induction bs with
  | nil => intro vs h; exact h
  | cons b bs ih =>
    intro vs h
    obtain ⟨u, r, rfl, h1, h2⟩ := h
    rw [show u = V.bl b from h1, ih h2]; rfl
theorem sm_allL {bs : List Bool} (s : Same F H) (h : RD F (.lst (bs.map Dat.bl)) v) (k : Q (.bl (bs.all id)) H) : rAll K [v] H Q := by
  obtain ⟨a, vs, rfl, h1, h2⟩ := h
  exact ⟨a, bs, rfl, by rw [← rd_bls h2]; exact same_l s h1, k⟩
/-- i in xs, of ints -/
theorem inV_int {i : Int} : ∀ {ns : List Int}, inV (.int i) (ns.map V.int) = decide (i ∈ ns) := by
  intro ns
  induction ns with
  | nil => simp [inV]
  | cons n ns ih =>
    have ih' : (ns.map V.int).any (fun y => eqV y (.int i)) = decide (i ∈ ns) := ih
    show ((V.int n :: ns.map V.int).any fun y => eqV y (.int i)) = _
    rw [List.any_cons, ih']
    show ((n == i) || _) = _
    by_cases z : n = i
    · subst z; simp
    · have : (n == i) = false := by simpa using z
      rw [this, Bool.false_or]
      have z2 : ¬ i = n := fun q => z q.symm
      simp [z2]
theorem sm_in {ns : List Int} {i : Int} (s : Same F H) (h : RD F (.lst (ns.map Dat.int)) v) (k : Q (.bl (decide (i ∈ ns))) H) : rIn K false (.int i) v H Q := by
  obtain ⟨a, rfl, q⟩ := rd_ints (K := K) s h
  refine ⟨a, _, rfl, .inl q, rfl, by simp [flatV], ?_⟩
  rw [if_neg (by decide), inV_int]; exact k
theorem sm_notin {ns : List Int} {i : Int} (s : Same F H) (h : RD F (.lst (ns.map Dat.int)) v) (k : Q (.bl (!decide (i ∈ ns))) H) : rIn K true (.int i) v H Q := by
  obtain ⟨a, rfl, q⟩ := rd_ints (K := K) s h
  refine ⟨a, _, rfl, .inl q, rfl, by simp [flatV], ?_⟩
  rw [if_pos rfl, inV_int]; exact k
/-- sorted(xs), of ints -/
theorem sm_sorted {ns : List Int} (s : Same F H) (h : RD F (.lst (ns.map Dat.int)) v) (k : ∀ (ms : List Int) u F' H', ms.Perm ns → ms.Pairwise (· ≤ ·) → Stp [] F H F' H' → RD F' (.lst (ms.map Dat.int)) u → Q u H') : rSortedI K [v] H Q := by
  obtain ⟨a, rfl, q⟩ := rd_ints (K := K) s h
  exact ⟨a, ns, rfl, q, fun ms p h1 h2 n => nw_lst s (RDs.of_ints ms) (fun u F' H' t r => k ms u F' H' h1 h2 t r) p n⟩
end
section
variable {fa : List He.Fa} {fn : List He.DefD} {K : PySem.W.Frag} {mg : Str → Option Value}
/-- a def with defaults, n arguments written, the defaults behind the first m fill up -/
theorem Facts.calD (T : Facts fa fn K mg) {P : Program} {w : World} {base : Heap} {k : Nat} {N ps : List Str} {sp : Sp} (i j n m : Nat) {d : He.DefD} {x : Str} {dvs : List V} (hi : fn[i]? = some d) (hd : d.at_ = (x, none)) (hdf : d.dvs K ≠ []) (hkw : d.kwd = []) (hj : fa[j]? = some (.glo x))
    (hv : (d.dvs K).drop m = dvs) (hn : n + ((d.dvs K).length - m) = ps.length)
    (S : FnScope N ps d.scope) (len : ∀ vs H Q E, sp vs H Q E → vs.length = ps.length)
    (hb : ∀ (T : Addr) (kV doc pm : Value) (an : Option Addr) (cdv ct : Value) (us its : List Value), us.length = n → its.length = (d.dvs K).length →
      ∃ k, bindArgs (PySem.W.fnOf d.name d.qual d.params d.body d.scope (.ref T) kV doc pm an cdv ct) ⟨us, []⟩ = seqItems? (.ref T) >>= k ∧ k (some its.toArray) = pure (ps.zip (us ++ its.drop m)))
    (hbody : ∀ (cdv : Value) (A : Around) (outer : List Env) (s : Shared) (H : Hp) (vs : List V) (Q : VK) (E : XK), Room k (A.deeper (envOfC d.qual d.scope s.heap.objs.size (He.ga K x) cdv)) → sp vs H Q E →
      ∃ t, PSs (cxOf (L2N.CX P w) P w K mg base N d.qual d.scope (He.ga K x) cdv A outer s H E) d.body t ∧ t { nx := fun _ H' => Q .non H', rt := Q } (start N vs) H) :
    CalDf P w K mg base x (k + 1) ps sp dvs := by
  obtain ⟨fd, F⟩ := T.says.def_ i hi
  have e1 : He.fAd K d.at_ = He.ga K x := by rw [hd]; rfl
  rw [e1] at F
  obtain ⟨ds, h1, h2⟩ := F.binds1 n m hdf hn hb
  rw [hv] at h1
  exact ⟨fd, ds, FunD.ok F S len hbody, T.glo j hj, F.kp, h1, h2⟩
theorem CalDf.full {P : Program} {w : World} {base : Heap} {x : Str} {k : Nat} {ps : List Str} {sp : Sp} (c : CalDf P w K mg base x k ps sp []) : CalOk P w K mg base x k ps sp := by
  obtain ⟨fd, ds, F, hm, hk, hv, hb⟩ := c
  cases hv
  exact ⟨fd, F, hm, hk, hb⟩
end
/-! ### comprehensions that change a list of ours -/
def mapS {α β S : Type} (f : S → α → Rs (Option β × S)) : List α → S → Rs (List β × S)
  | [], s => .ok ([], s)
  | x :: xs, s => (f s x).bnd fun o => (mapS f xs o.2).bnd fun r => .ok (match o.1 with | some y => (y :: r.1, r.2) | none => r)
section
variable {α β γ : Type} {K : PySem.W.Frag} {F H : Hp} {σ : Sg} {Q : VK} {X : Xc → Option Int → Prop} {f : List γ → α → Rs (Option β × List γ)} {zs : List α} {s0 : List γ} {g : TG} {tt : TT} {te : TE} {v : V} {e : α → Dat} {e2 : β → Dat} {e3 : γ → Dat} {a : Addr} {ws : List Nat}
theorem Post.maps {x : α} {xs : List α} {s : List γ} {P : List β × List γ → Prop} (h : Post (mapS f (x :: xs) s) P X) : Post (f s x) (fun o => Post (mapS f xs o.2) (fun r => P (match o.1 with | some y => (y :: r.1, r.2) | none => r)) X) X := by
  unfold mapS at h
  exact h.b.mono fun a p => p.b
/-- the list of ours at a bears s -/
abbrev Bear (e3 : γ → Dat) (a : Addr) (s : List γ) (F H : Hp) : Prop := ∃ w, Own F H a (.lst w) ∧ RDs F (s.map e3) w
abbrev LcTurnS (g : TG) (tt : TT) (te : TE) (ws : List Nat) (σ : Sg) (e2 : β → Dat) (e3 : γ → Dat) (a : Addr) (F1 H1 : Hp) (m : Rs (Option β × List γ)) (X : Xc → Option Int → Prop) (u : V) : Prop :=
  ∀ (PN : Option β × List γ → Prop) (NY : VK) (NN : Hp → Prop), (∀ y b s F4 H4 w, Stp [a] F1 H1 F4 H4 → Own F4 H4 a (.lst w) → RDs F4 (s.map e3) w → RD F4 (e2 b) y → PN (some b, s) → NY y H4) → (∀ s F4 H4 w, Stp [a] F1 H1 F4 H4 → Own F4 H4 a (.lst w) → RDs F4 (s.map e3) w → PN (none, s) → NN H4) → Post m PN X →
    g u (wipe σ ws) H1 fun σ2 H3 => wipe σ2 ws = wipe σ ws ∧ tt σ2 H3 fun b H4 => if b = true then te σ2 H4 NY else NN H4
theorem lcs_core {J : It} {n : Nat} {G : Hp → Prop} {Y : Nat → Hp → V → Hp → Prop} {P : List β × List γ → Prop} (w : Walk J n G Y) (hn : n = zs.length) (hz : zs.length ≤ 1000000) (s : Same F H) (b0 : Bear e3 a s0 F H) (hp : Post (mapS f zs s0) P X) (hG : ∀ F' H', Stp [a] F H F' H' → G H')
    (hs : ∀ (i : Nat) (x : α) (u : V) s F1 H1 H2, zs[i]? = some x → Stp [a] F H F1 H1 → Bear e3 a s F1 H1 → Y i H1 u H2 → H2 = H1 ∧ LcTurnS g tt te ws σ e2 e3 a F1 H1 (f s x) X u)
    (hd : ∀ L vs r s' F' H' w, Stp [a] F H F' H' → Own F' H' a (.lst w) → RDs F' (s'.map e3) w → Fre H L → Own F' H' L (.lst vs) → RDs F' (r.map e2) vs → P (r, s') → Q (.ref L) H') : LcOwes g tt te ws σ Q J H := by
  intro D nD
  obtain ⟨w0, o0, r0⟩ := b0
  have aD : a ≠ D := o0.ne nD
  have sub : ∀ {F1 H1 : Hp}, Stp [a] F H F1 H1 → ∀ q ∈ [a], q ∈ [a] ∨ H q = none := fun _ q hq => .inl hq
  refine lc_it w (fun i H' => ∃ F' acc rr s1, Stp [a] F H F' H' ∧ Own F' H' D (.lst acc) ∧ RDs F' (rr.map e2) acc ∧ Bear e3 a s1 F' H' ∧ acc.length ≤ i ∧ Post (mapS f (zs.drop i) s1) (fun r => P (rr ++ r.1, r.2)) X) ?_ ?_ ?_ ?_
  · have t0 : Stp [a] F H F (upd H D (.lst [])) := by
      have t := Stp.newO (S := [a]) (o := .lst []) s nD
      exact t
    exact ⟨F, [], [], s0, t0, ⟨s.free nD, upd_same, trivial⟩, RDs.nil, ⟨w0, (Stp.newO (S := []) s nD).keep (by simp) o0, r0⟩, Nat.le_refl _, hp⟩
  · rintro i H' _ ⟨F', _, _, _, t, _⟩
    exact hG F' H' t
  · rintro i u H1 H2 hi ⟨F1, acc, rr, s1, t, o, hr, hB, hl, p⟩ y
    have hlt : i < zs.length := hn ▸ hi
    rw [List.drop_eq_getElem_cons hlt] at p
    obtain ⟨rfl, T⟩ := hs i zs[i] u s1 F1 H1 H2 (List.getElem?_eq_getElem hlt) t hB y
    have Da : D ∉ [a] := by simpa using aD.symm
    refine T _ _ _ ?_ ?_ p.maps
    · rintro y b s2 F4 H4 w4 t4 oa ra hy q
      have o4 := t4.keep Da o
      refine ⟨acc, o4.h, sz_lt (by omega), ?_⟩
      have tp : Stp [D] F4 H4 F4 (upd H4 D (.lst (acc ++ [y]))) := Stp.put t4.inn o4
      refine ⟨F4, acc ++ [y], rr ++ [b], s2, (t.trans t4 (fun q hq => .inl hq)).trans tp (sub_new nD sub_nil), ⟨o4.f, upd_same, trivial⟩, ?_, ⟨w4, tp.keep (by simpa using aD) oa, ra⟩, ?_, ?_⟩
      · rw [List.map_append]
        exact (t4.ups hr).snoc hy
      · rw [List.length_append]; simp; omega
      · exact q.mono fun r z => by rw [List.append_assoc]; exact z
    · rintro s2 F4 H4 w4 t4 oa ra q
      exact ⟨F4, acc, rr, s2, t.trans t4 (fun q hq => .inl hq), t4.keep Da o, t4.ups hr, ⟨w4, oa, ra⟩, by omega, q⟩
  · rintro H' ⟨F', acc, rr, s1, t, o, hr, ⟨w1, oa, ra⟩, _, p⟩
    rw [hn, List.drop_length] at p
    have p' : P (rr ++ [], s1) := p
    rw [List.append_nil] at p'
    exact hd D acc rr s1 F' H' w1 t oa ra nD o hr p'
theorem lcs_R1 {hi : Int} {P : List β × List γ → Prop} {f : List γ → Int → Rs (Option β × List γ)} (hb : rngOk 0 hi = true) (s : Same F H) (hz : (hi - 0).toNat ≤ 1000000) (b0 : Bear e3 a s0 F H) (hp : Post (mapS f (rngI 0 hi) s0) P X)
    (hs : ∀ (x : Int) s F1 H1, Stp [a] F H F1 H1 → Bear e3 a s F1 H1 → LcTurnS g tt te ws σ e2 e3 a F1 H1 (f s x) X (.int x))
    (hd : ∀ L vs r s' F' H' w, Stp [a] F H F' H' → Own F' H' a (.lst w) → RDs F' (s'.map e3) w → Fre H L → Own F' H' L (.lst vs) → RDs F' (r.map e2) vs → P (r, s') → Q (.ref L) H') : ∃ j : Int, [V.int hi] = [.int j] ∧ -(2 ^ 62) ≤ j ∧ j < 2 ^ 62 ∧ LcOwes g tt te ws σ Q (Itr 0 j.toNat) H := by
  have hb := rngOk.b hb
  refine ⟨hi, rfl, by omega, by omega, lcs_core (zs := rngI 0 hi) (walk_range (lo := 0) (n := hi.toNat)) (by simp [rngI]) (by simpa [rngI] using hz) s b0 hp (fun _ _ _ => trivial) ?_ hd⟩
  rintro i x u s1 F1 H1 H2 hx t hB ⟨rfl, rfl⟩
  have := rngI_at hx
  subst this
  exact ⟨rfl, hs _ s1 F1 _ t hB⟩
theorem lcs_L {P : List β × List γ → Prop} (h : RD F (.lst (zs.map e)) v) (s : Same F H) (hz : zs.length ≤ 1000000) (b0 : Bear e3 a s0 F H) (hp : Post (mapS f zs s0) P X)
    (hs : ∀ (x : α) (u : V) s F1 H1, RD F1 (e x) u → Stp [a] F H F1 H1 → Bear e3 a s F1 H1 → LcTurnS g tt te ws σ e2 e3 a F1 H1 (f s x) X u)
    (hd : ∀ L vs r s' F' H' w, Stp [a] F H F' H' → Own F' H' a (.lst w) → RDs F' (s'.map e3) w → Fre H L → Own F' H' L (.lst vs) → RDs F' (r.map e2) vs → P (r, s') → Q (.ref L) H') : ∃ a, v = .ref a ∧ (∃ xs, SqL K H a xs) ∧ LcOwes g tt te ws σ Q (Itl K a) H := by
  obtain ⟨b, vs, rfl, h1, h2⟩ := h
  refine ⟨b, rfl, ⟨vs, same_l s h1⟩, lcs_core (walk_list (xs := vs)) (by rw [h2.len, List.length_map]) hz s b0 hp (fun F' H' t => same_l (t.ex.trans t.inn) h1) ?_ hd⟩
  rintro i x u s1 F1 H1 H2 hx t hB ⟨rfl, hu⟩
  obtain ⟨d, hd, r⟩ := h2.of_at hu
  rw [List.getElem?_map, hx] at hd
  cases hd
  exact ⟨rfl, hs x u s1 F1 _ (r.up t.ex) t hB⟩
/-- a slice of the script -/
theorem sm_slS {ns : List Int} {lo hi : Option Int} (s : Same F H) (h : Scr K F v ns) (k : ∀ u F' H', Stp [] F H F' H' → RD F' (.lst ((cutL ns lo hi).map Dat.int)) u → Q u H') : rSlU K v lo hi H Q := by
  obtain ⟨a, rfl, q⟩ := h.at_
  exact .inl ⟨a, _, rfl, Same.seq s q, nw_lst s (cutV_RDs (RDs.of_ints ns)) k⟩
end
end DK
set_option maxRecDepth 100000
set_option maxHeartbeats 2000000
/-! DK, seventh part: dicts of ints as sets; sorting. -/
namespace DK
open PySem PySem.Spec PyProof.Rows L2
abbrev dsK (zs : List Int) : List (Key × V) := zs.map fun i => (.inl i, V.bl true)
def putS (zs : List Int) (i : Int) : List Int := if i ∈ zs then zs else zs ++ [i]
theorem putK_ds (zs : List Int) (i : Int) : putK (dsK zs) (.inl i) (.bl true) = dsK (putS zs i) := by
  unfold putK putS
  have e : ((dsK zs).any fun kv => decide (kv.1 = .inl i)) = decide (i ∈ zs) := by
    rw [List.any_map]
    induction zs with
    | nil => simp
    | cons z zs ih =>
      rw [List.any_cons, ih]
      by_cases h : z = i
      · subst h; simp
      · have h2 : ¬ i = z := fun q => h q.symm
        simp [h, h2]
  rw [e]
  by_cases h : i ∈ zs
  · rw [if_pos (by simpa using h), if_pos h, List.map_map]
    apply List.map_congr_left
    intro z _
    show (if (Sum.inl z : Key) = .inl i then _ else _) = _
    by_cases q : (Sum.inl z : Key) = .inl i
    · rw [if_pos q]
    · rw [if_neg q]
  · rw [if_neg (by simpa using h), if_neg h]
    simp
theorem sortI_ex (ns : List Int) : ∃ ms : List Int, ms.Perm ns ∧ ms.Pairwise (· ≤ ·) :=
  ⟨ns.mergeSort (fun a b => decide (a ≤ b)), List.mergeSort_perm _ _, by
    have := List.pairwise_mergeSort (le := fun (a b : Int) => decide (a ≤ b)) (fun a b c h1 h2 => by simp only [decide_eq_true_eq] at *; omega) (fun a b => by simp only [Bool.or_eq_true, decide_eq_true_eq]; omega) ns
    exact this.imp fun h => by simpa using h⟩
def sortI (ns : List Int) : List Int := ns.mergeSort fun a b => decide (a ≤ b)
theorem sortI_perm (ns : List Int) : (sortI ns).Perm ns := List.mergeSort_perm _ _
theorem sortI_asc (ns : List Int) : (sortI ns).Pairwise (· ≤ ·) := by
  have := List.pairwise_mergeSort (le := fun (a b : Int) => decide (a ≤ b)) (fun a b c h1 h2 => by simp only [decide_eq_true_eq] at *; omega) (fun a b => by simp only [Bool.or_eq_true, decide_eq_true_eq]; omega) ns
  exact this.imp fun h => by simpa using h
theorem asc_eq : ∀ {xs ys : List Int}, xs.Perm ys → xs.Pairwise (· ≤ ·) → ys.Pairwise (· ≤ ·) → xs = ys := fun {xs ys} p h1 h2 =>
  p.eq_of_pairwise (fun a b _ _ x y => Int.le_antisymm x y) h1 h2
section
variable {K : PySem.W.Frag} {F H : Hp} {σ : Sg} {Q : VK} {D : Ends} {X : Xc → Option Int → Prop} {i j : Int} {v : V} {L : Addr} {zs : List Int}
theorem sm_sortI {ns : List Int} (s : Same F H) (h : RD F (.lst (ns.map Dat.int)) v) (k : ∀ u F' H', Stp [] F H F' H' → RD F' (.lst ((sortI ns).map Dat.int)) u → Q u H') : rSortedI K [v] H Q :=
  sm_sorted s h fun ms u F' H' h1 h2 t r => k u F' H' t (by rw [← asc_eq (h1.trans (sortI_perm ns).symm) h2 (sortI_asc ns)]; exact r)
theorem st_dput {td ty tv : TE} (k : tv σ H fun v H1 => td σ H1 fun x H2 => ty σ H2 fun y H3 => ∃ a H4, x = .ref a ∧ DPut H3 a y v H4 ∧ D.nx σ H4) : sDPut td ty tv D σ H := k
theorem sm_dput {P : Hp → Prop} (s : Same F H) (o : Own F H L (.dK (dsK zs))) (hl : zs.length < 1000000) (k : ∀ F' H', Stp [L] F H F' H' → Own F' H' L (.dK (dsK (putS zs i))) → P H') :
    ∃ a H4, V.ref L = .ref a ∧ DPut H a (.int i) (.bl true) H4 ∧ P H4 :=
  ⟨L, _, rfl, DPut.k (k := .inl i) o.h (sz_lt (by rw [List.length_map]; exact hl)), k _ _ (Stp.put s o) ⟨o.f, by rw [upd_same, putK_ds], trivial⟩⟩
theorem sm_disp2 {ta tb : TE} (s : Same F H) (h1 : ∀ H Q, Q (.int i) H → ta σ H Q) (h2 : ∀ H Q, Q (.int j) H → tb σ H Q) (k : ∀ L F' H', Stp [] F H F' H' → Fre H L → Own F' H' L (.dK (dsK (putS [i] j))) → Q (.ref L) H') :
    tDisp [(ta, tC (.bl true)), (tb, tC (.bl true))] σ H Q := by
  intro p n
  refine h1 _ _ ?_
  refine h2 _ _ ?_
  refine ⟨upd_same, [(.inl i, .bl true), (.inl j, .bl true)], rfl, by simp, ?_⟩
  have t1 : Stp [] F H F (upd H p (.dK [])) := Stp.newO s n
  have o1 : Own F (upd H p (.dK [])) p (.dK []) := ⟨s.free n, upd_same, trivial⟩
  have t2 : Stp [p] F (upd H p (.dK [])) F (upd (upd H p (.dK [])) p (.dK (mergeK [] [(.inl i, .bl true), (.inl j, .bl true)]))) := Stp.put t1.inn o1
  refine k p F _ (t1.trans t2 (sub_new n sub_nil)) n ⟨s.free n, ?_, trivial⟩
  rw [upd_same]
  have e : mergeK [] [(.inl i, .bl true), (.inl j, .bl true)] = dsK (putS [i] j) := by
    rw [← putK_ds]; rfl
  rw [e]
theorem sm_lstD (s : Same F H) (o : Own F H L (.dK (dsK zs))) (k : ∀ u F' H', Stp [] F H F' H' → RD F' (.lst (zs.map Dat.int)) u → Q u H') : rListD [.ref L] H Q :=
  ⟨L, _, rfl, o.h, nw_lst s (ds := zs.map Dat.int) (by
    rw [List.map_map]
    exact RDs.of_ints zs) k⟩
end
end DK
set_option maxRecDepth 100000
set_option maxHeartbeats 2000000
/-! DK, eighth part: more steps. -/
namespace DK
open PySem PySem.Spec PyProof.Rows L2
section
variable {α : Type} {K : PySem.W.Frag} {F H : Hp} {σ : Sg} {Q : VK} {D : Ends} {v : V} {L : Addr} {vs : List V} {e : α → Dat} {zs ys : List α}
/-- made.extend(xs) -/
theorem sm_ext (s : Same F H) (o : Own F H L (.lst vs)) (hd : RDs F (zs.map e) vs) (h : RD F (.lst (ys.map e)) v) (z : zs.length + ys.length ≤ 1000000)
    (k : ∀ ws F' H', Stp [L] F H F' H' → Own F' H' L (.lst ws) → RDs F' ((zs ++ ys).map e) ws → Q .non H') : rExtend (.ref L) [v] H Q := by
  obtain ⟨b, ws, rfl, h1, h2⟩ := h
  have l1 : vs.length = zs.length := by rw [hd.len, List.length_map]
  have l2 : ws.length = ys.length := by rw [h2.len, List.length_map]
  have t : Stp [L] F H F (upd H L (.lst (vs ++ ws))) := Stp.put s o
  refine ⟨L, b, vs, ws, rfl, rfl, o.h, s b _ h1, sz_le (by omega), k _ F _ t ⟨o.f, upd_same, trivial⟩ ?_⟩
  rw [List.map_append]
  exact hd.app h2
/-- a, b = x, y: names -/
theorem st_par {i j : Nat} {t : TA} (k : t σ H fun vs H1 => ∃ x y, vs = [x, y] ∧ D.nx ((σ.set i (some x)).set j (some y)) H1) : tPar i j t D σ H := k
theorem st_parx {i j : Nat} {x y : V} {σ' : Sg} {N : Sg → Hp → Prop} (e : (σ.set i (some x)).set j (some y) = σ') (k : N σ' H) : ∃ x' y', [x, y] = [x', y'] ∧ N ((σ.set i (some x')).set j (some y')) H := ⟨x, y, rfl, by rw [e]; exact k⟩
end
end DK
set_option maxRecDepth 100000
set_option maxHeartbeats 2000000
/-! DK, ninth part: equality of data, isinstance, own lists lent to a call. -/
namespace DK
open PySem PySem.Spec PyProof.Rows L2
/-! ### more facts of the top -/
/-- an exception class of ours over ValueError -/
def oexIn (K : PySem.W.Frag) (C : Addr) : Bool := match K.lookup C with
  | some ⟨.type "type", _, .cls cd, sl⟩ => (match cd.mro, sl.toList with
    | .ref C' :: bm, [_, _, _, _, some (.builtin n), _] => C' == C && (n == "ValueError.__new__" && (!cd.hasDel && (cd.hasDict && PySem.HandSPX.refsVE bm)))
    | _, _ => false)
  | _ => false
inductive Fb where
  | oex (x : Str)
  | isi (x y : Str) (b : Bool)
  | isb (x : Str) (t : String) (b : Bool)
  | ins (x : Str)
  | exi (x : Str)
  | mko (x : Str)
def Fb.ok (K : PySem.W.Frag) : Fb → Bool
  | .oex x => oexIn K (He.ga K x) && (decide (PySem.W.findIn K (.ref (He.ga K x)) "__setattr__" = some (some (.builtin "object.__setattr__"))) &&
      (decide (PySem.W.subIn K (.ref (He.ga K x)) (.type "BaseException") = some true) && (decide (PySem.W.typeIn K (.ref (He.ga K x)) = some (.type "type")) && (PySem.W.keepIn K (.ref (He.ga K x)) &&
      (decide (PySem.W.findIn K (.ref (He.ga K x)) "__init__" = some (some (.ref (He.ma K (He.ga K x) "__init__")))) && (decide (PySem.W.typeIn K (.ref (He.ma K (He.ga K x) "__init__")) = some (.type "function")) &&
      decide (PySem.W.findIn K (.ref (He.ga K x)) "line" = some none)))))))
  | .isi x y b => decide (PySem.W.kitOne K (.ref (He.ga K x)) (.ref (He.ga K y)) = some b)
  | .isb x t b => decide (PySem.W.kitOne K (.ref (He.ga K x)) (.type t) = some b)
  | .ins x => decide (PySem.W.findIn K (.ref (He.ga K x)) "__class__" = some (some (.builtin "object.__class__"))) &&
      (decide (PySem.W.specialIn K (.builtin "object.__class__") "__get__" = some (some (.builtin "getset_descriptor.__get__"))) &&
      (decide (PySem.W.takesIn K (.builtin "object.__class__") = some true) && decide (PySem.W.mroIn K (He.ga K x) (.type "object") = some true)))
  | .exi x => decide (PySem.W.findIn K (.ref (He.ga K x)) "__getattribute__" = some (some (.builtin "BaseException.__getattribute__"))) &&
      (decide (PySem.W.findIn K (.ref (He.ga K x)) "__getattr__" = some none) && (decide (PySem.W.subIn K (.ref (He.ga K x)) (.type "BaseException") = some true) && (PySem.W.hasDictIn K (He.ga K x) &&
      (decide (PySem.W.findIn K (.ref (He.ga K x)) "__class__" = some (some (.builtin "object.__class__"))) &&
      (decide (PySem.W.specialIn K (.builtin "object.__class__") "__get__" = some (some (.builtin "getset_descriptor.__get__"))) &&
      (decide (PySem.W.takesIn K (.builtin "object.__class__") = some true) && decide (PySem.W.mroIn K (He.ga K x) (.type "object") = some true)))))))
  | .mko x => PySem.W.makesIn K (He.ga K x) && (decide (PySem.W.findIn K (.ref (He.ga K x)) "__init__" = some (some (.builtin "object.__init__"))) && PySem.W.keepIn K (.ref (He.ga K x)))
def obsF (fa : List He.Fa) (fb : List Fb) (fn : List He.DefD) (K : PySem.W.Frag) : He.AlD := (fb.all (fun f => f.ok K) && (He.obsD fa fn K).1, (He.obsD fa fn K).2)
def SaysF (fa : List He.Fa) (fb : List Fb) (fn : List He.DefD) (K : PySem.W.Frag) : Prop := obsF fa fb fn K = He.valD fn
theorem SaysF.d {fa : List He.Fa} {fb : List Fb} {fn : List He.DefD} {K : PySem.W.Frag} (h : SaysF fa fb fn K) : He.SaysD fa fn K := by
  have h1 := (He.ba (congrArg (fun z : He.AlD => z.1) h)).2
  have h2 := congrArg (fun z : He.AlD => z.2) h
  exact Prod.ext h1 h2
theorem SaysF.f {fa : List He.Fa} {fb : List Fb} {fn : List He.DefD} {K : PySem.W.Frag} (h : SaysF fa fb fn K) (i : Nat) {f : Fb} (e : fb[i]? = some f) : f.ok K = true :=
  List.all_eq_true.mp (He.ba (congrArg (fun z : He.AlD => z.1) h)).1 f (List.mem_of_getElem? e)
def obsFG (n : Nat) (fa : List He.Fa) (fb : List Fb) (fn : List He.DefD) (g : Addr → Option Obj) : He.AlD := obsF fa fb fn (He.frG g (He.asD g n))
def hookF (n : Nat) (fa : List He.Fa) (fb : List Fb) (fn : List He.DefD) : PySem.W.Hook where
  α := He.AlD
  obs := fun s => obsFG n fa fb fn s.heap.get?
  val := fun _ => He.valD fn
  says := fun _ h => ∃ K : PySem.W.Frag, K.In h ∧ SaysF fa fb fn K
  of := fun _ _ e => ⟨_, He.frG_in, e⟩
  keeps := fun _ _ _ ⟨K, hK, c⟩ k => ⟨K, PySem.W.Frag.In.keeps hK k, c⟩
theorem obsFG_eq {n : Nat} {fa : List He.Fa} {fb : List Fb} {fn : List He.DefD} {g : Addr → Option Obj} {s : Shared} (h : ∀ a, g a = s.heap.get? a) : obsFG n fa fb fn g = (hookF n fa fb fn).obs s := by
  have e : g = s.heap.get? := funext h
  rw [e]; rfl
structure FactsB (fa : List He.Fa) (fb : List Fb) (fn : List He.DefD) (K : PySem.W.Frag) (mg : Str → Option Value) : Prop extends Facts fa fn K mg where
  more : ∀ (i : Nat) (f : Fb), fb[i]? = some f → f.ok K = true
theorem FactsB.mk' {fa : List He.Fa} {fb : List Fb} {fn : List He.DefD} {K : PySem.W.Frag} {mg : Str → Option Value} {h : Heap} (c : SaysF fa fb fn K) (X : K.In h) (G : h.Ns mainGlobals mg) : FactsB fa fb fn K mg :=
  ⟨⟨c.d, h, X, G⟩, fun i f e => c.f i e⟩
section
variable {fa : List He.Fa} {fb : List Fb} {fn : List He.DefD} {K : PySem.W.Frag} {mg : Str → Option Value}
theorem FactsB.isi (T : FactsB fa fb fn K mg) (i : Nat) {x y : Str} {b : Bool} (h : fb[i]? = some (.isi x y b) := by rfl) : PySem.W.kitOne K (.ref (He.ga K x)) (.ref (He.ga K y)) = some b := of_decide_eq_true (T.more i _ h)
theorem FactsB.isb (T : FactsB fa fb fn K mg) (i : Nat) {x : Str} {t : String} {b : Bool} (h : fb[i]? = some (.isb x t b) := by rfl) : PySem.W.kitOne K (.ref (He.ga K x)) (.type t) = some b := of_decide_eq_true (T.more i _ h)
structure InsC (K : PySem.W.Frag) (C : Addr) : Prop where
  ha : PySem.W.findIn K (.ref C) "__class__" = some (some (.builtin "object.__class__"))
  hn : PySem.W.specialIn K (.builtin "object.__class__") "__get__" = some (some (.builtin "getset_descriptor.__get__"))
  ht : PySem.W.takesIn K (.builtin "object.__class__") = some true
  hm : PySem.W.mroIn K C (.type "object") = some true
theorem FactsB.ins (T : FactsB fa fb fn K mg) (i : Nat) {x : Str} (h : fb[i]? = some (.ins x) := by rfl) : InsC K (He.ga K x) := by
  obtain ⟨h1, h2⟩ := He.ba (T.more i _ h)
  obtain ⟨h2, h3⟩ := He.ba h2
  obtain ⟨h3, h4⟩ := He.ba h3
  exact ⟨of_decide_eq_true h1, of_decide_eq_true h2, of_decide_eq_true h3, of_decide_eq_true h4⟩
end

/-! ### plain data -/
mutual
def toPy : Dat → PyData
  | .non => .none
  | .bl b => .bool b
  | .int i => .int i
  | .str s => .str s
  | .lst ds => .list (toPys ds)
  | .tup ds => .tuple (toPys ds)
  | .obj _ _ _ => .none
  | .exc _ _ => .none
  | .dct _ => .none
def toPys : List Dat → List PyData
  | [] => []
  | d :: ds => toPy d :: toPys ds
end
mutual
def dep : Dat → Nat
  | .lst ds => deps ds + 1
  | .tup ds => deps ds + 1
  | .obj _ _ _ => 1000
  | .exc _ _ => 1000
  | .dct _ => 1000
  | .str _ => 1
  | .int _ => 1
  | .non => 1
  | .bl _ => 1
def deps : List Dat → Nat
  | [] => 0
  | d :: ds => max (dep d) (deps ds)
end
mutual
/-- no text within -/
def noS : Dat → Bool
  | .lst ds => noSs ds
  | .tup ds => noSs ds
  | .str _ => false
  | _ => true
def noSs : List Dat → Bool
  | [] => true
  | d :: ds => noS d && noSs ds
end
mutual
/-- the longest sequence within -/
def wid : Dat → Nat
  | .lst ds => max ds.length (wids ds)
  | .tup ds => max ds.length (wids ds)
  | .obj _ _ _ => 0
  | .exc _ _ => 0
  | .dct _ => 0
  | .str _ => 0
  | .int _ => 0
  | .non => 0
  | .bl _ => 0
def wids : List Dat → Nat
  | [] => 0
  | d :: ds => max (wid d) (wids ds)
end
theorem wids_mem : ∀ {ds : List Dat} {d : Dat}, d ∈ ds → wid d ≤ wids ds
  | e :: ds, d, h => by
    simp only [wids]
    rcases List.mem_cons.mp h with q | q
    · subst q; omega
    · have := wids_mem q; omega
theorem deps_mem : ∀ {ds : List Dat} {d : Dat}, d ∈ ds → dep d ≤ deps ds
  | e :: ds, d, h => by
    simp only [deps]
    rcases List.mem_cons.mp h with q | q
    · subst q; omega
    · have := deps_mem q; omega
theorem wids_map {α : Type} {e : α → Dat} {n : Nat} : ∀ {xs : List α}, (∀ x ∈ xs, wid (e x) ≤ n) → wids (xs.map e) ≤ n
  | [], _ => by simp [wids]
  | x :: xs, h => by
    have h1 := h x List.mem_cons_self
    have h2 := wids_map (xs := xs) fun y hy => h y (List.mem_cons_of_mem _ hy)
    rw [List.map_cons]
    simp only [wids]
    omega
theorem dep_pos : ∀ d, 1 ≤ dep d
  | .lst _ => by simp only [dep]; omega
  | .tup _ => by simp only [dep]; omega
  | .obj _ _ _ => by simp only [dep]; omega
  | .exc _ _ => by simp only [dep]; omega
  | .dct _ => by simp only [dep]; omega
  | .str _ => by simp only [dep]; omega
  | .int _ => by simp only [dep]; omega
  | .non => by simp only [dep]; omega
  | .bl _ => by simp only [dep]; omega
mutual
theorem py_depth : ∀ d, (toPy d).depth ≤ dep d
  | .lst ds => by simp only [toPy, dep, PyData.depth]; have := pys_depth ds; omega
  | .tup ds => by simp only [toPy, dep, PyData.depth]; have := pys_depth ds; omega
  | .obj _ _ _ => by simp only [toPy, dep, PyData.depth]; omega
  | .exc _ _ => by simp only [toPy, dep, PyData.depth]; omega
  | .dct _ => by simp only [toPy, dep, PyData.depth]; omega
  | .str _ => by simp only [toPy, dep, PyData.depth]; omega
  | .int _ => by simp only [toPy, dep, PyData.depth]; omega
  | .non => by simp only [toPy, dep, PyData.depth]; omega
  | .bl _ => by simp only [toPy, dep, PyData.depth]; omega
theorem pys_depth : ∀ ds, PyData.depthAll (toPys ds) ≤ deps ds
  | [] => by simp [toPys, deps, PyData.depthAll]
  | d :: ds => by simp only [toPys, deps, PyData.depthAll]; have := py_depth d; have := pys_depth ds; omega
end
mutual
theorem py_can : ∀ d, noS d = true → (toPy d).canLay0 = true
  | .lst ds, h => by simp only [toPy, PyData.canLay0]; exact pys_can ds (by simpa [noS] using h)
  | .tup ds, h => by simp only [toPy, PyData.canLay0]; exact pys_can ds (by simpa [noS] using h)
  | .obj _ _ _, _ => by simp only [toPy, PyData.canLay0]
  | .exc _ _, _ => by simp only [toPy, PyData.canLay0]
  | .dct _, _ => by simp only [toPy, PyData.canLay0]
  | .str _, h => by simp [noS] at h
  | .int _, _ => by simp only [toPy, PyData.canLay0]
  | .non, _ => by simp only [toPy, PyData.canLay0]
  | .bl _, _ => by simp only [toPy, PyData.canLay0]
theorem pys_can : ∀ ds, noSs ds = true → PyData.canLayAll0 (toPys ds) = true
  | [], _ => by simp only [toPys, PyData.canLayAll0]
  | d :: ds, h => by
    simp only [noSs, Bool.and_eq_true] at h
    simp only [toPys, PyData.canLayAll0, py_can d h.1, pys_can ds h.2, Bool.and_self]
end
/-- plain data for Python's ==: no text, no instance, depth at most 60 -/
def Pl (d : Dat) : Prop := noS d = true ∧ dep d ≤ 60
theorem Pl.shaped {d : Dat} (h : Pl d) : SeqAt.shaped (toPy d) = true := by
  unfold SeqAt.shaped
  rw [py_can d h.1, Bool.true_and, decide_eq_true_eq]
  have := py_depth d
  have := h.2
  omega
mutual
theorem RD.dp {K : PySem.W.Frag} {F H : Hp} (s : Same F H) : ∀ {d : Dat} {v : V}, RD F d v → dep d ≤ 900 → Dp K H v (toPy d)
  | .non, v, h, _ => by rw [show v = V.non from h]; simp only [toPy]; exact .non
  | .bl b, v, h, _ => by rw [show v = V.bl b from h]; simp only [toPy]; exact .bl b
  | .int i, v, h, _ => by rw [show v = V.int i from h]; simp only [toPy]; exact .int i
  | .str x, v, h, _ => by rw [show v = V.str x from h]; simp only [toPy]; exact .str x
  | .lst ds, v, h, z => by
    obtain ⟨a, vs, rfl, h1, h2⟩ := h
    simp only [toPy]
    simp only [dep] at z
    exact .lst (same_l s h1) (RDs.dp s h2 (by omega))
  | .tup ds, v, h, z => by
    obtain ⟨a, vs, rfl, h1, h2⟩ := h
    simp only [toPy]
    simp only [dep] at z
    exact .tup (same_t s h1) (RDs.dp s h2 (by omega))
  | .obj _ _ _, v, h, z => by simp only [dep] at z; omega
  | .exc _ _, v, h, z => by simp only [dep] at z; omega
  | .dct _, v, h, z => by simp only [dep] at z; omega
theorem RDs.dp {K : PySem.W.Frag} {F H : Hp} (s : Same F H) : ∀ {ds : List Dat} {vs : List V}, RDs F ds vs → deps ds ≤ 900 → DpAll K H vs (toPys ds)
  | [], vs, h, _ => by rw [show vs = [] from h]; simp only [toPys]; exact .nil
  | d :: ds, vs, h, z => by
    obtain ⟨v, r, rfl, h1, h2⟩ := h
    simp only [toPys]
    simp only [deps] at z
    exact .cons (RD.dp s h1 (by omega)) (RDs.dp s h2 (by omega))
end
/-- x == y, x != y of data -/
def datEq (d e : Dat) : Bool := PyData.eqv (toPy d) (toPy e)
section
variable {α β γ : Type} {K : PySem.W.Frag} {F H : Hp} {σ : Sg} {Q : VK} {D : Ends} {u v : V} {L : Addr} {vs : List V} {e : α → Dat} {zs ys : List α} {d d' : Dat}
theorem sm_eqD (s : Same F H) (h1 : RD F d u) (h2 : RD F d' v) (p1 : Pl d) (p2 : Pl d') (k : Q (.bl (datEq d d')) H) : rEqU K u v H Q :=
  .inr ⟨_, _, RD.dp s h1 (by have := p1.2; omega), RD.dp s h2 (by have := p2.2; omega), p1.shaped, p2.shaped, k⟩
theorem sm_neD (s : Same F H) (h1 : RD F d u) (h2 : RD F d' v) (p1 : Pl d) (p2 : Pl d') (k : Q (.bl (!datEq d d')) H) : rNeU K u v H Q :=
  .inr ⟨_, _, RD.dp s h1 (by have := p1.2; omega), RD.dp s h2 (by have := p2.2; omega), p1.shaped, p2.shaped, k⟩
/-- the kinds of data of a type -/
def PlE (n : Nat) (e : α → Dat) : Prop := ∀ x, noS (e x) = true ∧ dep (e x) ≤ n
theorem PlE.pl (h : PlE n e) (hn : n ≤ 60) (x : α) : Pl (e x) := ⟨(h x).1, Nat.le_trans (h x).2 hn⟩
theorem PlE.int : PlE 1 Dat.int := fun x => ⟨by simp only [noS], by simp only [dep]; omega⟩
theorem PlE.bl : PlE 1 Dat.bl := fun x => ⟨by simp only [noS], by simp only [dep]; omega⟩
theorem PlE.maps {n : Nat} (h : PlE n e) : ∀ xs : List α, noSs (xs.map e) = true ∧ deps (xs.map e) ≤ n
  | [] => by simp [noSs, deps]
  | x :: xs => by
    obtain ⟨h1, h2⟩ := PlE.maps h xs
    obtain ⟨h3, h4⟩ := h x
    rw [List.map_cons]
    simp only [noSs, deps, h1, h3, Bool.and_self, true_and]
    omega
theorem PlE.eL {n : Nat} (h : PlE n e) : PlE (n + 1) (eL e) := fun xs => by
  obtain ⟨h1, h2⟩ := h.maps xs
  simp only [DK.eL, noS, dep, h1, true_and]; omega
theorem PlE.eT {n : Nat} (h : PlE n e) : PlE (n + 1) (eT e) := fun xs => by
  obtain ⟨h1, h2⟩ := h.maps xs
  simp only [DK.eT, noS, dep, h1, true_and]; omega
theorem PlE.eQ {n : Nat} {b : Bool} (h : PlE n e) : PlE (n + 1) (eQ b e) := fun xs => by
  cases b with
  | true => exact PlE.eT h xs
  | false => exact PlE.eL h xs
theorem PlE.eP {n m : Nat} {g : β → Dat} (h : PlE n e) (h' : PlE m g) : PlE (max n m + 1) (eP e g) := fun p => by
  obtain ⟨h1, h2⟩ := h p.1
  obtain ⟨h3, h4⟩ := h' p.2
  simp only [DK.eP, noS, noSs, dep, deps, h1, h3, Bool.and_self, true_and]; omega
theorem PlE.eP3 {n m l : Nat} {g : β → Dat} {f : γ → Dat} (h : PlE n e) (h' : PlE m g) (h'' : PlE l f) : PlE (max n (max m l) + 1) (eP3 e g f) := fun p => by
  obtain ⟨h1, h2⟩ := h p.1
  obtain ⟨h3, h4⟩ := h' p.2.1
  obtain ⟨h5, h6⟩ := h'' p.2.2
  simp only [DK.eP3, noS, noSs, dep, deps, h1, h3, h5, Bool.and_self, true_and]; omega
theorem PlE.eO {n : Nat} (h : PlE n e) : PlE (max n 1) (eO e) := fun o => by
  cases o with
  | none => simp only [DK.eO, noS, dep, true_and]; omega
  | some x =>
    obtain ⟨h1, h2⟩ := h x
    simp only [DK.eO, h1, true_and]; omega
/-- == of data of one type is equality -/
def EqE (e : α → Dat) : Prop := ∀ x y, datEq (e x) (e y) = true ↔ x = y
theorem EqE.int : EqE Dat.int := fun x y => by simp [datEq, toPy, PyData.eqv]
theorem EqE.all (h : EqE e) : ∀ xs ys : List α, PyData.eqvAll (toPys (xs.map e)) (toPys (ys.map e)) = true ↔ xs = ys
  | [], [] => by simp [toPys, PyData.eqvAll]
  | [], y :: ys => by simp [toPys, PyData.eqvAll]
  | x :: xs, [] => by simp [toPys, PyData.eqvAll]
  | x :: xs, y :: ys => by
    have h1 := EqE.all h xs ys
    have h2 := h x y
    unfold datEq at h2
    simp only [List.map_cons, toPys, PyData.eqvAll, Bool.and_eq_true, h1, h2, List.cons.injEq]
theorem EqE.eL (h : EqE e) : EqE (eL e) := fun xs ys => by
  have := h.all xs ys
  simpa only [datEq, DK.eL, toPy, PyData.eqv] using this
theorem EqE.eT (h : EqE e) : EqE (eT e) := fun xs ys => by
  have := h.all xs ys
  simpa only [datEq, DK.eT, toPy, PyData.eqv] using this
theorem EqE.eP {g : β → Dat} (h : EqE e) (h' : EqE g) : EqE (eP e g) := fun x y => by
  have h1 := h x.1 y.1
  have h2 := h' x.2 y.2
  unfold datEq at h1 h2
  simp only [datEq, DK.eP, toPy, toPys, PyData.eqv, PyData.eqvAll, Bool.and_eq_true, Bool.and_true, h1, h2]
  exact ⟨fun ⟨a, b⟩ => Prod.ext a b, fun z => by rw [z]; exact ⟨rfl, rfl⟩⟩
theorem EqE.iff [DecidableEq α] (h : EqE e) (x y : α) : datEq (e x) (e y) = decide (x = y) := by
  by_cases z : x = y
  · rw [decide_eq_true z]; exact (h x y).mpr z
  · rw [decide_eq_false z]
    cases q : datEq (e x) (e y) with
    | false => rfl
    | true => exact absurd ((h x y).mp q) z
end
/-! ### _law_same -/
mutual
def sameD : Dat → Dat → Bool
  | f, .lst es => match f with
    | .lst ds => samesD ds es
    | _ => false
  | f, .tup es => match f with
    | .tup ds => samesD ds es
    | _ => false
  | f, .str s => match f with
    | .str t => decide (t = s)
    | _ => false
  | f, d => match f with
    | .int i => datEq (.int i) d
    | _ => false
def samesD : List Dat → List Dat → Bool
  | [], [] => true
  | d :: ds, e :: es => sameD d e && samesD ds es
  | _, _ => false
end
theorem samesD_len : ∀ {ds es : List Dat}, samesD ds es = true → ds.length = es.length
  | [], [], _ => rfl
  | d :: ds, e :: es, h => by
    simp only [samesD, Bool.and_eq_true] at h
    rw [List.length_cons, List.length_cons, samesD_len h.2]
  | [], _ :: _, h => by simp [samesD] at h
  | _ :: _, [], h => by simp [samesD] at h
theorem samesD_ne : ∀ {ds es : List Dat}, ds.length ≠ es.length → samesD ds es = false := fun {ds es} h => by
  cases q : samesD ds es with
  | false => rfl
  | true => exact absurd (samesD_len q) h
theorem samesD_zip : ∀ (ds es : List Dat), ds.length = es.length → samesD ds es = ((ds.zip es).map fun p => sameD p.1 p.2).all id
  | [], [], _ => by simp [samesD]
  | d :: ds, e :: es, h => by
    rw [List.length_cons, List.length_cons] at h
    simp only [samesD, List.zip_cons_cons, List.map_cons, List.all_cons, id]
    rw [samesD_zip ds es (by omega)]
  | [], _ :: _, h => by simp at h
  | _ :: _, [], h => by simp at h
/-- the told is the due -/
def SamE {α : Type} (e : α → Dat) : Prop := ∀ x y, sameD (e x) (e y) = true ↔ x = y
section
variable {α β γ : Type} {e : α → Dat}
theorem SamE.int : SamE Dat.int := fun x y => by simp [sameD, datEq, toPy, PyData.eqv]
theorem SamE.str : SamE Dat.str := fun x y => by simp [sameD]
theorem SamE.all (h : SamE e) : ∀ xs ys : List α, samesD (xs.map e) (ys.map e) = true ↔ xs = ys
  | [], [] => by simp [samesD]
  | [], y :: ys => by simp [samesD]
  | x :: xs, [] => by simp [samesD]
  | x :: xs, y :: ys => by
    have h1 := SamE.all h xs ys
    have h2 := h x y
    simp only [List.map_cons, samesD, Bool.and_eq_true, h1, h2, List.cons.injEq]
theorem SamE.eL (h : SamE e) : SamE (eL e) := fun xs ys => by
  have := h.all xs ys
  simpa only [DK.eL, sameD] using this
theorem SamE.eT (h : SamE e) : SamE (eT e) := fun xs ys => by
  have := h.all xs ys
  simpa only [DK.eT, sameD] using this
theorem SamE.eP {g : β → Dat} (h : SamE e) (h' : SamE g) : SamE (eP e g) := fun x y => by
  have h1 := h x.1 y.1
  have h2 := h' x.2 y.2
  simp only [DK.eP, sameD, samesD, Bool.and_eq_true, Bool.and_true, h1, h2]
  exact ⟨fun ⟨a, b⟩ => Prod.ext a b, fun z => by rw [z]; exact ⟨rfl, rfl⟩⟩
theorem SamE.eP3 {g : β → Dat} {f : γ → Dat} (h : SamE e) (h' : SamE g) (h'' : SamE f) : SamE (eP3 e g f) := fun x y => by
  have h1 := h x.1 y.1
  have h2 := h' x.2.1 y.2.1
  have h3 := h'' x.2.2 y.2.2
  simp only [DK.eP3, sameD, samesD, Bool.and_eq_true, Bool.and_true, h1, h2, h3]
  exact ⟨fun ⟨a, b, c⟩ => Prod.ext a (Prod.ext b c), fun z => by rw [z]; exact ⟨rfl, rfl, rfl⟩⟩
theorem SamE.refl (h : SamE e) (x : α) : sameD (e x) (e x) = true := (h x x).mpr rfl
end
/-! ### isinstance -/
def tyN : Dat → String
  | .non => "NoneType"
  | .bl _ => "bool"
  | .int _ => "int"
  | .str _ => "str"
  | .lst _ => "list"
  | .tup _ => "tuple"
  | .obj _ _ _ => "object"
  | .exc _ _ => "exc"
  | .dct _ => "dict"
section
variable {K : PySem.W.Frag} {F H : Hp} {σ : Sg} {Q : VK} {u : V} {d : Dat}
theorem RD.tyX (s : Same F H) (h : RD F d u) (z : dep d < 1000) : TyX K H u (.type (tyN d)) := by
  cases d with
  | non => rw [show u = V.non from h]; exact .base .non
  | bl b => rw [show u = V.bl b from h]; exact .base (.bl b)
  | int i => rw [show u = V.int i from h]; exact .base (.int i)
  | str x => rw [show u = V.str x from h]; exact .base (.str x)
  | lst ds => obtain ⟨a, vs, rfl, h1, h2⟩ := h; exact .base (.lst (s a _ h1))
  | tup ds => obtain ⟨a, vs, rfl, h1, h2⟩ := h; exact .base (.tup (s a _ h1))
  | obj C ns ds => simp only [dep] at z; omega
  | exc C l => simp only [dep] at z; omega
  | dct kvs => simp only [dep] at z; omega
theorem sm_isb {T : String} {b : Bool} (s : Same F H) (h : RD F d u) (z : dep d < 1000) (e : kitB (tyN d) T = some b) (k : Q (.bl b) H) : rIsi K [u, .ty T] H Q :=
  ⟨u, .ty T, _, _, b, rfl, .ty T, RD.tyX s h z, kit_ty e, k⟩
theorem sm_iso {C C' : Addr} {ns : List Str} {ds : List Dat} {b : Bool} (s : Same F H) (h : RD F (.obj C ns ds) u) (cl : Cls K C) (i : InsC K C) (e : PySem.W.kitOne K (.ref C) (.ref C') = some b) (k : Q (.bl b) H) : rIsi K [u, .ref C'] H Q := by
  obtain ⟨a, dx, vs, rfl, h1, h2⟩ := h
  exact ⟨_, .ref C', _, _, b, rfl, .own C', .base (.ins (s a _ h1) cl i.ha i.hn i.ht i.hm), e, k⟩
theorem sm_isob {C : Addr} {T : String} {ns : List Str} {ds : List Dat} {b : Bool} (s : Same F H) (h : RD F (.obj C ns ds) u) (cl : Cls K C) (i : InsC K C) (e : PySem.W.kitOne K (.ref C) (.type T) = some b) (k : Q (.bl b) H) : rIsi K [u, .ty T] H Q := by
  obtain ⟨a, dx, vs, rfl, h1, h2⟩ := h
  exact ⟨_, .ty T, _, _, b, rfl, .ty T, .base (.ins (s a _ h1) cl i.ha i.hn i.ht i.hm), e, k⟩
end
end DK
set_option maxRecDepth 100000
set_option maxHeartbeats 2000000
/-! DK, tenth part: lists lent, copied, changed; zip; walks of either kind of sequence. -/
namespace DK
open PySem PySem.Spec PyProof.Rows L2
/-! ### a list of ours lent to a call -/
mutual
/-- no list within -/
def noL : Dat → Bool
  | .lst _ => false
  | .tup ds => noLs ds
  | .obj _ _ ds => noLs ds
  | .exc _ _ => true
  | .dct _ => true
  | .non => true
  | .bl _ => true
  | .int _ => true
  | .str _ => true
def noLs : List Dat → Bool
  | [] => true
  | d :: ds => noL d && noLs ds
end
def thaw (F0 F5 : Hp) : Hp := fun p => match F0 p with
  | some o => some o
  | none => match F5 p with
    | some (.lst _) => none
    | o => o
theorem thaw_old {F0 F5 : Hp} {p : Addr} {o : HO} (h : F0 p = some o) : thaw F0 F5 p = some o := by
  unfold thaw; rw [h]
theorem thaw_new {F0 F5 : Hp} {p : Addr} {o : HO} (s : Same F0 F5) (h : F5 p = some o) (n : ∀ xs, o ≠ .lst xs) : thaw F0 F5 p = some o := by
  unfold thaw
  cases q : F0 p with
  | some u =>
    have := s p u q
    rw [h] at this
    exact this.symm
  | none =>
    rw [h]
    cases o with
    | lst xs => exact absurd rfl (n xs)
    | _ => rfl
theorem thaw_none {F0 F5 : Hp} {p : Addr} (h0 : F0 p = none) (h : F5 p = none ∨ ∃ xs, F5 p = some (.lst xs)) : thaw F0 F5 p = none := by
  unfold thaw
  rw [h0]
  rcases h with h | ⟨xs, h⟩ <;> rw [h]
theorem thaw_sub {F0 F5 : Hp} (s : Same F0 F5) : Same (thaw F0 F5) F5 := fun p o h => by
  unfold thaw at h
  cases q : F0 p with
  | some u =>
    rw [q] at h
    have e : u = o := Option.some.inj h
    subst e
    exact s p _ q
  | none =>
    rw [q] at h
    cases q5 : F5 p with
    | none => rw [q5] at h; cases h
    | some v =>
      rw [q5] at h
      cases v with
      | lst xs => cases h
      | _ => exact h
mutual
theorem RD.noL {F0 F5 : Hp} (s : Same F0 F5) : ∀ {d : Dat} {v : V}, RD F5 d v → noL d = true → RD (thaw F0 F5) d v
  | .non, _, h, _ => h
  | .bl _, _, h, _ => h
  | .int _, _, h, _ => h
  | .str _, _, h, _ => h
  | .lst ds, v, h, z => by simp [DK.noL] at z
  | .tup ds, v, h, z => by
    obtain ⟨a, vs, rfl, h1, h2⟩ := h
    exact ⟨a, vs, rfl, thaw_new s h1 (by intro xs q; cases q), RDs.noL s h2 (by simpa [DK.noL] using z)⟩
  | .obj C ns ds, v, h, z => by
    obtain ⟨a, dx, vs, rfl, h1, h2⟩ := h
    exact ⟨a, dx, vs, rfl, thaw_new s h1 (by intro xs q; cases q), RDs.noL s h2 (by simpa [DK.noL] using z)⟩
  | .exc C l, v, h, z => by
    obtain ⟨a, d, rfl, h1, h2⟩ := h
    refine ⟨a, d, rfl, thaw_new s h1 (by intro xs q; cases q), ?_⟩
    cases l with
    | none => exact h2
    | some n =>
      obtain ⟨dx, rfl, q⟩ := h2
      exact ⟨dx, rfl, thaw_new s q (by intro xs q; cases q)⟩
  | .dct kvs, v, h, z => by
    obtain ⟨a, rfl, h1⟩ := h
    exact ⟨a, rfl, thaw_new s h1 fun xs q => by cases q⟩
theorem RDs.noL {F0 F5 : Hp} (s : Same F0 F5) : ∀ {ds : List Dat} {vs : List V}, RDs F5 ds vs → noLs ds = true → RDs (thaw F0 F5) ds vs
  | [], _, h, _ => h
  | d :: ds, vs, h, z => by
    obtain ⟨v, r, rfl, h1, h2⟩ := h
    simp only [noLs, Bool.and_eq_true] at z
    exact ⟨v, r, rfl, RD.noL s h1 z.1, RDs.noL s h2 z.2⟩
end
section
variable {S : List Addr} {F0 F1 H0 F5 H5 : Hp} {L L' : Addr} {vs ws : List V} {ds : List Dat} {o : HO}
/-- F1 is F0 with lists of ours frozen in -/
structure Lent (F0 H0 F1 : Hp) : Prop where
  old : Same F0 F1
  inn : Same F1 H0
  new : ∀ p o, F1 p = some o → F0 p = none → ∃ xs, o = .lst xs
theorem Lent.none (h : Same F0 H0) : Lent F0 H0 F0 := ⟨Same.refl F0, h, fun p o a b => by rw [a] at b; cases b⟩
theorem Lent.one (l : Lent F0 H0 F1) (o : Own F1 H0 L (.lst vs)) : Lent F0 H0 (upd F1 L (.lst vs)) :=
  ⟨fun p u e => by rw [upd_ne (fun z => by have := l.old p u e; rw [z, o.f] at this; cases this)]; exact l.old p u e,
   fun p u e => by
     by_cases z : p = L
     · subst z; rw [upd_same] at e; cases e; exact o.h
     · rw [upd_ne z] at e; exact l.inn p u e,
   fun p u e n => by
     by_cases z : p = L
     · subst z; rw [upd_same] at e; cases e; exact ⟨vs, rfl⟩
     · rw [upd_ne z] at e; exact l.new p u e n⟩
/-- what is lent comes back -/
theorem Lent.back (l : Lent F0 H0 F1) (s : Stp S F1 H0 F5 H5) : Stp S F0 H0 (thaw F0 F5) H5 := by
  have s05 : Same F0 F5 := l.old.trans s.ex
  refine ⟨l.old.trans l.inn, fun p o e => thaw_old e, (thaw_sub s05).trans s.inn, fun p o n f e nt => ?_, s.dom, s.tup⟩
  cases q : F1 p with
  | none =>
    obtain ⟨h1, h2⟩ := s.own p o n q e nt
    exact ⟨h1, thaw_none f (.inl h2)⟩
  | some u =>
    obtain ⟨xs, rfl⟩ := l.new p u q f
    have h5 := s.ex p _ q
    have hH := l.inn p _ q
    rw [e] at hH
    cases hH
    exact ⟨s.inn p _ h5, thaw_none f (.inr ⟨xs, h5⟩)⟩
theorem Lent.keep (l : Lent F0 H0 F1) (s : Stp S F1 H0 F5 H5) (o5 : Own F5 H5 L' o) (h0 : Fre H0 L') : Own (thaw F0 F5) H5 L' o :=
  ⟨thaw_none ((l.old.trans l.inn).free h0) (.inl o5.f), o5.h, o5.nt⟩
theorem Lent.rd (l : Lent F0 H0 F1) (s : Stp S F1 H0 F5 H5) {d : Dat} {v : V} (h : RD F5 d v) (z : noL d = true) : RD (thaw F0 F5) d v := RD.noL (l.old.trans s.ex) h z
theorem Lent.rds (l : Lent F0 H0 F1) (s : Stp S F1 H0 F5 H5) {ds : List Dat} {vs : List V} (h : RDs F5 ds vs) (z : noLs ds = true) : RDs (thaw F0 F5) ds vs := RDs.noL (l.old.trans s.ex) h z
theorem Lent.ofS (l : Lent F0 H0 F1) {d : Dat} {v : V} (h : RD F0 d v) : RD F1 d v := h.up l.old
end
/-! the kinds of data without lists -/
section
variable {α β γ : Type} {e : α → Dat}
def NlE (e : α → Dat) : Prop := ∀ x, noL (e x) = true
theorem noLs_nil : noLs [] = true := by simp only [noLs]
theorem noLs_cons {d : Dat} {ds : List Dat} (h : noL d = true) (t : noLs ds = true) : noLs (d :: ds) = true := by simp only [noLs, h, t, Bool.and_self]
theorem noL_obj {C : Addr} {ns : List Str} {ds : List Dat} (h : noLs ds = true) : noL (.obj C ns ds) = true := by simp only [noL, h]
theorem NlE.int : NlE Dat.int := fun x => by simp only [noL]
theorem NlE.bl : NlE Dat.bl := fun x => by simp only [noL]
theorem NlE.str : NlE Dat.str := fun x => by simp only [noL]
theorem NlE.maps (h : NlE e) : ∀ xs : List α, noLs (xs.map e) = true
  | [] => by simp [noLs]
  | x :: xs => by
    rw [List.map_cons]
    simp only [noLs, h x, NlE.maps h xs, Bool.and_self]
theorem NlE.eT (h : NlE e) : NlE (eT e) := fun xs => by simp only [DK.eT, noL]; exact h.maps xs
theorem NlE.eP {g : β → Dat} (h : NlE e) (h' : NlE g) : NlE (eP e g) := fun p => by simp only [DK.eP, noL, noLs, h p.1, h' p.2, Bool.and_self]
theorem NlE.eP3 {g : β → Dat} {f : γ → Dat} (h : NlE e) (h' : NlE g) (h'' : NlE f) : NlE (eP3 e g f) := fun p => by simp only [DK.eP3, noL, noLs, h p.1, h' p.2.1, h'' p.2.2, Bool.and_self]
theorem NlE.eO (h : NlE e) : NlE (eO e) := fun o => by
  cases o with
  | none => simp only [DK.eO, noL]
  | some x => exact h x
end

/-! ### copies; changes in place -/
section
variable {α β γ S R : Type} {K : PySem.W.Frag} {F H : Hp} {σ : Sg} {Q : VK} {D : Ends} {X : Xc → Option Int → Prop} {i j : Int} {u v : V} {L : Addr} {vs : List V} {e : α → Dat} {g' : β → Dat} {zs ys : List α} {z : α} {b : Bool}
theorem rd_lstV (s : Same F H) (h : RD F (.lst (zs.map e)) v) : ∃ a vs, v = .ref a ∧ SqL K H a vs ∧ RDs F (zs.map e) vs := by
  obtain ⟨a, vs, rfl, h1, h2⟩ := h
  exact ⟨a, vs, rfl, same_l s h1, h2⟩
theorem rd_tupV (s : Same F H) (h : RD F (.tup (zs.map e)) v) : ∃ a vs, v = .ref a ∧ SqT K H a vs ∧ RDs F (zs.map e) vs := by
  obtain ⟨a, vs, rfl, h1, h2⟩ := h
  exact ⟨a, vs, rfl, same_t s h1, h2⟩
/-- list(x), a list of ours -/
abbrev KOwn (F H : Hp) (ds : List Dat) (Q : VK) : Prop := ∀ L vs F' H', Stp [] F H F' H' → Fre H L → Own F' H' L (.lst vs) → RDs F' ds vs → Q (.ref L) H'
theorem nw_ownK {ds : List Dat} (s : Same F H) (h : RDs F ds vs) (k : KOwn F H ds Q) : ∀ p, H p = none → Q (.ref p) (upd H p (.lst vs)) := fun p n => by
  have t : Stp [] F H F (upd H p (.lst vs)) := Stp.newO s n
  exact k p vs F _ t n ⟨s.free n, upd_same, trivial⟩ h
theorem sm_cpL (s : Same F H) (h : RD F (.lst (zs.map e)) v) (k : KOwn F H (zs.map e) Q) : rListU K [v] H Q := by
  obtain ⟨a, vs, rfl, h1, h2⟩ := rd_lstV (K := K) s h
  exact ⟨a, vs, rfl, .inl h1, nw_ownK s h2 k⟩
theorem sm_cpT (s : Same F H) (h : RD F (.tup (zs.map e)) v) (k : KOwn F H (zs.map e) Q) : rListU K [v] H Q := by
  obtain ⟨a, vs, rfl, h1, h2⟩ := rd_tupV (K := K) s h
  exact ⟨a, vs, rfl, .inr h1, nw_ownK s h2 k⟩
theorem sm_cpQ (s : Same F H) (h : RD F (eQ b e zs) v) (k : KOwn F H (zs.map e) Q) : rListU K [v] H Q := by
  cases b with
  | true => exact sm_cpT s h k
  | false => exact sm_cpL s h k
theorem sm_cpO (s : Same F H) (o : Own F H L (.lst vs)) (h : RDs F (zs.map e) vs) (k : KOwn F H (zs.map e) Q) : rListU K [.ref L] H Q :=
  ⟨L, vs, rfl, .inl (SqL.of o.h), nw_ownK s h k⟩
/-- .. frozen -/
theorem KOwn.fz {ds : List Dat} (k : ∀ u F' H', Stp [] F H F' H' → RD F' (.lst ds) u → Q u H') : KOwn F H ds Q := fun L vs F' H' t n o h => by
  have t2 := Stp.frz t.inn o
  exact k _ _ _ (t.trans t2 (sub_new n sub_nil)) ⟨L, vs, rfl, upd_same, h.up t2.ex⟩
/-- a step on a list of ours -/
abbrev KChg (L : Addr) (F H : Hp) (ds : List Dat) (P : Hp → Prop) : Prop := ∀ ws F' H', Stp [L] F H F' H' → Own F' H' L (.lst ws) → RDs F' ds ws → P H'
theorem chg_of {ds : List Dat} {P : Hp → Prop} (s : Same F H) (o : Own F H L (.lst vs)) {ws : List V} (h : RDs F ds ws) (k : KChg L F H ds P) : P (upd H L (.lst ws)) :=
  k ws F _ (Stp.put s o) ⟨o.f, upd_same, trivial⟩ h
def insL (xs : List α) (i : Int) (x : α) : List α := xs.take i.toNat ++ [x] ++ xs.drop i.toNat
def insOk (n : Nat) (i : Int) : Bool := decide (n < 1000000) && (decide (0 ≤ i) && decide (i.natAbs.log2 < 60))
abbrev rInsert : V → List V → Hp → VK → Prop := fun x vs H Q => ∃ (l : Addr) (xs : List V) (i : Int) (y : V), x = .ref l ∧ vs = [.int i, y] ∧ H l = some (.lst xs) ∧ xs.length < sizeLine ∧ 0 ≤ i ∧ i < 2 ^ 63 ∧ Q .non (upd H l (.lst (xs.take i.toNat ++ [y] ++ xs.drop i.toNat)))
theorem RDs.ins {ds : List Dat} {d : Dat} (h : RDs F ds vs) (hx : RD F d u) (n : Nat) : RDs F (ds.take n ++ [d] ++ ds.drop n) (vs.take n ++ [u] ++ vs.drop n) := ((h.take n).snoc hx).app (h.drop n)
theorem sm_insert (s : Same F H) (o : Own F H L (.lst vs)) (h : RDs F (zs.map e) vs) (hx : RD F (e z) u) (g : insOk zs.length i = true) (k : KChg L F H ((insL zs i z).map e) (Q .non)) : rInsert (.ref L) [.int i, u] H Q := by
  simp only [insOk, Bool.and_eq_true, decide_eq_true_eq] at g
  obtain ⟨g1, g2, g3⟩ := g
  have hl : vs.length = zs.length := by rw [h.len, List.length_map]
  have hi : i < 2 ^ 63 := by
    by_cases q : i.natAbs = 0
    · omega
    · have := (Nat.log2_lt q).mp g3; omega
  refine ⟨L, vs, i, u, rfl, rfl, o.h, sz_lt (by omega), g2, hi, chg_of s o (ds := (insL zs i z).map e) ?_ k⟩
  unfold insL
  rw [List.map_append, List.map_append, List.map_take, List.map_drop]
  exact h.ins hx _
theorem RDs.rev : ∀ {ds : List Dat} {vs : List V}, RDs F ds vs → RDs F ds.reverse vs.reverse
  | [], _, h => by rw [show _ = [] from h]; exact RDs.nil
  | d :: ds, vs, h => by
    obtain ⟨v, r, rfl, h1, h2⟩ := h
    rw [List.reverse_cons, List.reverse_cons]
    exact (RDs.rev h2).snoc h1
theorem sm_reverse (s : Same F H) (o : Own F H L (.lst vs)) (h : RDs F (zs.map e) vs) (k : KChg L F H (zs.reverse.map e) (Q .non)) : rReverse (.ref L) [] H Q :=
  ⟨L, vs, rfl, rfl, o.h, chg_of s o (ds := zs.reverse.map e) (by rw [List.map_reverse]; exact h.rev) k⟩
theorem sm_clear (s : Same F H) (o : Own F H L (.lst vs)) (k : KChg L F H (([] : List α).map e) (Q .non)) : rClear (.ref L) [] H Q :=
  ⟨L, vs, rfl, rfl, o.h, chg_of s o (ds := ([] : List α).map e) RDs.nil k⟩
def popR (xs : List α) (k : α → List α → Rs β) : Rs β := match xs.getLast? with
  | some x => k x xs.dropLast
  | none => .bad
theorem Post.pop {P : β → Prop} {xs : List α} {k : α → List α → Rs β} (h : Post (popR xs k) P X) : ∃ x, xs.getLast? = some x ∧ Post (k x xs.dropLast) P X := by
  unfold popR at h
  cases q : xs.getLast? with
  | none => rw [q] at h; exact h.elim
  | some x => rw [q] at h; exact ⟨x, rfl, h⟩
theorem RDs.dropLast {ds : List Dat} (h : RDs F ds vs) : RDs F ds.dropLast vs.dropLast := by
  rw [List.dropLast_eq_take, List.dropLast_eq_take, h.len]
  exact h.take _
theorem sm_pop (s : Same F H) (o : Own F H L (.lst vs)) (h : RDs F (zs.map e) vs) (hz : zs.getLast? = some z) (k : ∀ u ws F' H', Stp [L] F H F' H' → Own F' H' L (.lst ws) → RDs F' (zs.dropLast.map e) ws → RD F' (e z) u → Q u H') : rPop (.ref L) [] H Q := by
  have hl : vs.length = zs.length := by rw [h.len, List.length_map]
  rw [List.getLast?_eq_getElem?] at hz
  obtain ⟨u, hu, r⟩ := h.at (i := zs.length - 1) (d := e z) (by rw [List.getElem?_map, hz]; rfl)
  refine ⟨L, vs, u, rfl, rfl, o.h, by rw [hl]; exact hu, ?_⟩
  have t : Stp [L] F H F (upd H L (.lst vs.dropLast)) := Stp.put s o
  exact k u _ F _ t ⟨o.f, upd_same, trivial⟩ (by rw [List.map_dropLast]; exact h.dropLast) r
/-- [x] * n -/
def repL (xs : List α) (n : Int) : List α := (List.replicate n.toNat xs).flatten
def repOk (k : Nat) (n : Int) : Bool := decide (n.natAbs.log2 < 60) && decide (k * n.toNat ≤ 1000000)
theorem RDs.rep {ds : List Dat} (h : RDs F ds vs) : ∀ n : Nat, RDs F (List.replicate n ds).flatten (List.replicate n vs).flatten
  | 0 => RDs.nil
  | n + 1 => by
    rw [List.replicate_succ, List.replicate_succ, List.flatten_cons, List.flatten_cons]
    exact h.app (RDs.rep h n)
theorem map_flat (f : α → Dat) (xs : List α) (n : Nat) : ((List.replicate n xs).flatten).map f = (List.replicate n (xs.map f)).flatten := by
  induction n with
  | zero => rfl
  | succ n ih => rw [List.replicate_succ, List.replicate_succ, List.flatten_cons, List.flatten_cons, List.map_append, ih]
theorem sm_rep (s : Same F H) (h : RD F (.lst (zs.map e)) v) (g : repOk zs.length i = true) (k : KOwn F H ((repL zs i).map e) Q) : rMulU v (.int i) H Q := by
  simp only [repOk, Bool.and_eq_true, decide_eq_true_eq] at g
  obtain ⟨g1, g2⟩ := g
  obtain ⟨a, vs, rfl, h1, h2⟩ := h
  have hl : vs.length = zs.length := by rw [h2.len, List.length_map]
  have hi : -(2 ^ 63) ≤ i ∧ i < 2 ^ 63 := by
    by_cases q : i.natAbs = 0
    · omega
    · have := (Nat.log2_lt q).mp g1; omega
  refine .inr ⟨a, i, vs, rfl, rfl, s a _ h1, hi.1, hi.2, sz_le (by rw [hl]; exact g2), nw_ownK s ?_ k⟩
  unfold repL
  rw [map_flat]
  exact h2.rep _
/-- x + y of two frozen lists, a list of ours -/
theorem sm_catK {w : V} (s : Same F H) (h1 : RD F (.lst (zs.map e)) u) (h2 : RD F (.lst (ys.map e)) w) (z : zs.length + ys.length ≤ 1000000) (k : KOwn F H ((zs ++ ys).map e) Q) : rAddU K u w H Q := by
  obtain ⟨a, vs, rfl, _, h3, h4⟩ := rd_lst s h1
  obtain ⟨b, ws, rfl, _, h5, h6⟩ := rd_lst s h2
  have l1 : vs.length = zs.length := by rw [h4.len, List.length_map]
  have l2 : ws.length = ys.length := by rw [h6.len, List.length_map]
  refine .inr (.inl ⟨a, b, vs, ws, rfl, rfl, h3, h5, sz_le (by omega), nw_ownK s (ds := (zs ++ ys).map e) ?_ k⟩)
  rw [List.map_append]
  exact h4.app h6
/-- x + y of two tuples, the left one not empty -/
theorem sm_catT {w : V} {ds ds' : List Dat} (s : Same F H) (h1 : RD F (.tup ds) u) (h2 : RD F (.tup ds') w) (hn : ds ≠ []) (z : ds.length + ds'.length ≤ 1000000) (k : ∀ x F' H', Stp [] F H F' H' → RD F' (.tup (ds ++ ds')) x → Q x H') : rAddU K u w H Q := by
  have h1' := h1
  obtain ⟨a, vs, rfl, h3, h4⟩ := h1
  obtain ⟨b, ws, rfl, h5, h6⟩ := h2
  have l1 := h4.len
  have l2 := h6.len
  refine .inr (.inr (.inl ⟨a, b, vs, ws, rfl, rfl, same_t s h3, same_t s h5, fun q => ?_, sz_le (by omega), fun q => ?_, fun q => nw_tup s (h4.app h6) k⟩))
  · rw [q] at l1
    exact hn (List.length_eq_zero_iff.mp l1.symm)
  · rw [q] at l2
    have e0 : ds' = [] := List.length_eq_zero_iff.mp l2.symm
    subst e0
    rw [List.append_nil] at k
    exact k _ F H (Stp.refl s) h1'
/-- x.index(y), of ints -/
def idxR (xs : List Int) (y : Int) : Rs Int := match xs.idxOf? y with
  | some n => .ok (n : Nat)
  | none => .bad
end

/-! ### walks: zip; either kind of sequence; enumerate of either kind -/
section
variable {α β γ S R : Type} {K : PySem.W.Frag} {F H : Hp} {σ : Sg} {D : Ends} {X : Xc → Option Int → Prop} {P : Ctl S R → Prop} {s0 : S} {g : TG} {tl : TS} {u v w : V} {e : α → Dat} {e' : β → Dat} {zs : List α} {ys : List β} {b : Bool}
theorem zi_step {H1 H2 : Hp} {vs ws : List V} {i : Nat} {p : α × β} {u : V} {Fr : Hp} (h1 : RDs F (zs.map e) vs) (h2 : RDs F (ys.map e') ws) (hp : (zs.zip ys)[i]? = some p) (y : YPair (fun i => vs[i]?) (fun i => ws[i]?) i H1 u H2) (xx : Same F Fr) (s : Same Fr H1) :
    ∃ F2, Stp [] Fr H1 F2 H2 ∧ RD F2 (eP e e' p) u := by
  obtain ⟨T, x, z, rfl, n, rfl, hx, hz⟩ := y
  obtain ⟨p1, p2⟩ := List.getElem?_zip_eq_some.mp hp
  obtain ⟨d, hd, r⟩ := h1.of_at hx
  obtain ⟨d', hd', r'⟩ := h2.of_at hz
  rw [List.getElem?_map, p1] at hd
  rw [List.getElem?_map, p2] at hd'
  cases hd
  cases hd'
  have t : Stp [] Fr H1 (upd Fr T (.tup [x, z])) (upd H1 T (.tup [x, z])) := Stp.new s n
  exact ⟨_, t, T, _, rfl, upd_same, RDs.cons (r.up (xx.trans t.ex)) (RDs.cons (r'.up (xx.trans t.ex)) RDs.nil)⟩
abbrev ZipOwes (K : PySem.W.Frag) (vs : List V) (H : Hp) (R : It → Hp → Prop) : Prop := ∃ a b xs ys, vs = [V.ref a, V.ref b] ∧ ((SqL K H a xs ∧ SqL K H b ys ∧ R (Itz K a b) H) ∨ (SqT K H a xs ∧ SqT K H b ys ∧ R (RZ.ItzT K a b) H))
theorem walk_zipT {K : PySem.W.Frag} {a b : Addr} {xs ys : List V} {n : Nat} (hn : n = min xs.length ys.length) : Walk (RZ.ItzT K a b) n (fun H => SqT K H a xs ∧ SqT K H b ys) (YPair (fun i => xs[i]?) (fun i => ys[i]?)) := by
  subst hn
  refine ⟨fun i _ hi q => ?_, fun _ q => ⟨xs, ys, q.1, q.2, by omega⟩, fun i H v H' _ q y => ?_⟩
  · have h1 : i < xs.length := by omega
    have h2 : i < ys.length := by omega
    exact ⟨xs, ys, xs[i], ys[i], q.1, q.2, by simp [h1], by simp [h2]⟩
  · obtain ⟨T, x, z, h1, h2, h3, h4, h5⟩ := y
    exact ⟨T, x, z, h1, h2, h3, h4 xs q.1, h5 ys q.2⟩
abbrev HsE (f : S → γ → Rs (Ctl S R)) (P : Ctl S R → Prop) (X : Xc → Option Int → Prop) (g : TG) (tl : TS) (D : Ends) (I : S → Hp → Sg → Hp → Prop) (ee : γ → Dat) : Prop :=
  ∀ (x : γ) (rest : List γ) (s : S) (u : V) F1 σ' H1 F2 H2, I s F1 σ' H1 → Stp [] F1 H1 F2 H2 → RD F2 (ee x) u → Post (f s x) (Turn f P rest X) X → g u σ' H2 fun σ2 H3 => tl { D with nx := NxF (fun s σ H => ∃ F, I s F σ H) f P rest X, ct := NxF (fun s σ H => ∃ F, I s F σ H) f P rest X, bk := D.nx } σ2 H3
theorem fr_ZL {f : S → α × β → Rs (Ctl S R)} (h : RD F (.lst (zs.map e)) v) (h' : RD F (.lst (ys.map e')) w) (s : Same F H) (hp : Post (forR f (zs.zip ys) s0) P X) (I : S → Hp → Sg → Hp → Prop) (h0 : I s0 F σ H) (hG : ∀ s F' σ H', I s F' σ H' → Same F F' ∧ Same F' H')
    (hs : HsE f P X g tl D I (eP e e')) (hd : ∀ s σ H, (∃ F, I s F σ H) → P (.nx s) → D.nx σ H) : ZipOwes K [v, w] H fun J H => LoopOwes g tl D σ J H := by
  obtain ⟨a, vs, rfl, h1, h2⟩ := h
  obtain ⟨b, ws, rfl, h3, h4⟩ := h'
  refine ⟨a, b, vs, ws, rfl, .inl ⟨same_l s h1, same_l s h3, fr_core (walk_zip (xs := vs) (ys := ws) rfl) (by rw [List.length_zip, h2.len, h4.len, List.length_map, List.length_map]) (fun s σ H => ∃ F, I s F σ H) hp ⟨F, h0⟩
    (fun s σ H' ⟨F', q⟩ => ⟨same_l ((hG s F' σ H' q).1.trans (hG s F' σ H' q).2) h1, same_l ((hG s F' σ H' q).1.trans (hG s F' σ H' q).2) h3⟩) ?_ hd⟩⟩
  rintro i x rest s u σ' H1 H2 hx ⟨F1, q⟩ y p
  obtain ⟨F2, t, r⟩ := zi_step h2 h4 hx y (hG _ _ _ _ q).1 (hG _ _ _ _ q).2
  exact hs x rest s u F1 σ' H1 F2 H2 q t r p
theorem fr_ZT {f : S → α × β → Rs (Ctl S R)} (h : RD F (.tup (zs.map e)) v) (h' : RD F (.tup (ys.map e')) w) (s : Same F H) (hp : Post (forR f (zs.zip ys) s0) P X) (I : S → Hp → Sg → Hp → Prop) (h0 : I s0 F σ H) (hG : ∀ s F' σ H', I s F' σ H' → Same F F' ∧ Same F' H')
    (hs : HsE f P X g tl D I (eP e e')) (hd : ∀ s σ H, (∃ F, I s F σ H) → P (.nx s) → D.nx σ H) : ZipOwes K [v, w] H fun J H => LoopOwes g tl D σ J H := by
  obtain ⟨a, vs, rfl, h1, h2⟩ := h
  obtain ⟨b, ws, rfl, h3, h4⟩ := h'
  refine ⟨a, b, vs, ws, rfl, .inr ⟨same_t s h1, same_t s h3, fr_core (walk_zipT (xs := vs) (ys := ws) rfl) (by rw [List.length_zip, h2.len, h4.len, List.length_map, List.length_map]) (fun s σ H => ∃ F, I s F σ H) hp ⟨F, h0⟩
    (fun s σ H' ⟨F', q⟩ => ⟨same_t ((hG s F' σ H' q).1.trans (hG s F' σ H' q).2) h1, same_t ((hG s F' σ H' q).1.trans (hG s F' σ H' q).2) h3⟩) ?_ hd⟩⟩
  rintro i x rest s u σ' H1 H2 hx ⟨F1, q⟩ y p
  obtain ⟨F2, t, r⟩ := zi_step h2 h4 hx y (hG _ _ _ _ q).1 (hG _ _ _ _ q).2
  exact hs x rest s u F1 σ' H1 F2 H2 q t r p
theorem fr_ZQ {f : S → α × β → Rs (Ctl S R)} (h : RD F (eQ b e zs) v) (h' : RD F (eQ b e' ys) w) (s : Same F H) (hp : Post (forR f (zs.zip ys) s0) P X) (I : S → Hp → Sg → Hp → Prop) (h0 : I s0 F σ H) (hG : ∀ s F' σ H', I s F' σ H' → Same F F' ∧ Same F' H')
    (hs : HsE f P X g tl D I (eP e e')) (hd : ∀ s σ H, (∃ F, I s F σ H) → P (.nx s) → D.nx σ H) : ZipOwes K [v, w] H fun J H => LoopOwes g tl D σ J H := by
  cases b with
  | true => exact fr_ZT h h' s hp I h0 hG hs hd
  | false => exact fr_ZL h h' s hp I h0 hG hs hd
theorem st_zip {ta : TA} {R : It → Hp → Prop} (k : ta σ H fun vs H1 => ZipOwes K vs H1 R) : iZipU K ta σ H R := k
theorem fr_EQ {f : S → Int × α → Rs (Ctl S R)} {ta : TA} (h : RD F (eQ b e zs) v) (s : Same F H) (hv : ∀ Q : List V → Hp → Prop, Q [v] H → ta σ H Q) (hp : Post (forR f (enumI zs) s0) P X) (I : S → Hp → Sg → Hp → Prop) (h0 : I s0 F σ H) (hG : ∀ s F' σ H', I s F' σ H' → Same F F' ∧ Same F' H')
    (hs : HsE f P X g tl D I (eP Dat.int e)) (hd : ∀ s σ H, (∃ F, I s F σ H) → P (.nx s) → D.nx σ H) : iEnumU K ta σ H fun J H => LoopOwes g tl D σ J H := by
  cases b with
  | true => exact .inr (hv _ (fr_ET h s hp I h0 hG hs hd))
  | false => exact .inl (hv _ (fr_EL h s hp I h0 hG hs hd))
end
section
variable {α β γ : Type} {K : PySem.W.Frag} {F H : Hp} {σ : Sg} {Q : VK} {X : Xc → Option Int → Prop} {zs : List α} {ys : List γ} {g : TG} {tt : TT} {te : TE} {v w : V} {e : α → Dat} {e' : γ → Dat} {e2 : β → Dat} {ws : List Nat} {P : List β → Prop} {b : Bool}
abbrev HdK (F H : Hp) (e2 : β → Dat) (P : List β → Prop) (Q : VK) : Prop := ∀ L vs r F' H', Stp [] F H F' H' → Fre H L → Own F' H' L (.lst vs) → RDs F' (r.map e2) vs → P r → Q (.ref L) H'
theorem lc_Q {f : α → Rs (Option β)} {te0 : TE} (h : RD F (eQ b e zs) v) (s : Same F H) (hv : ∀ Q : VK, Q v H → te0 σ H Q) (hz : zs.length ≤ 1000000) (hp : Post (mapR f zs) P X)
    (hs : ∀ (x : α) (u : V) F1 H1, RD F1 (e x) u → Stp [] F H F1 H1 → LcTurn g tt te ws σ e2 F1 H1 F1 H1 (f x) X u) (hd : HdK F H e2 P Q) : iSeq K te0 σ H fun J H => LcOwes g tt te ws σ Q J H := by
  cases b with
  | true => exact .inr (hv _ (lc_T h s hz hp hs hd))
  | false => exact .inl (hv _ (lc_L h s hz hp hs hd))
theorem lc_EL {f : Int × α → Rs (Option β)} (h : RD F (.lst (zs.map e)) v) (s : Same F H) (hz : zs.length ≤ 1000000) (hp : Post (mapR f (enumI zs)) P X)
    (hs : ∀ (x : Int × α) (u : V) F1 H1, RD F1 (eP Dat.int e x) u → Stp [] F H F1 H1 → LcTurn g tt te ws σ e2 F1 H1 F1 H1 (f x) X u) (hd : HdK F H e2 P Q) : ∃ a xs, [v] = [V.ref a] ∧ SqL K H a xs ∧ LcOwes g tt te ws σ Q (Ite K a) H := by
  obtain ⟨a, vs, rfl, h1, h2⟩ := h
  refine ⟨a, vs, rfl, same_l s h1, lc_core2 (zs := enumI zs) (walk_enum (xs := vs)) (by rw [enumI_len, h2.len, List.length_map]) (by rw [enumI_len]; exact hz) s hp (fun F' H' t => same_l (t.ex.trans t.inn) h1) ?_ hd⟩
  intro i x u F1 H1 H2 hx t y
  obtain ⟨F2, t2, r⟩ := en_step h2 hx y t.ex t.inn
  exact ⟨F2, t2, hs x u F2 H2 r (t.trans t2 sub_nil)⟩
theorem lc_ET {f : Int × α → Rs (Option β)} (h : RD F (.tup (zs.map e)) v) (s : Same F H) (hz : zs.length ≤ 1000000) (hp : Post (mapR f (enumI zs)) P X)
    (hs : ∀ (x : Int × α) (u : V) F1 H1, RD F1 (eP Dat.int e x) u → Stp [] F H F1 H1 → LcTurn g tt te ws σ e2 F1 H1 F1 H1 (f x) X u) (hd : HdK F H e2 P Q) : ∃ a xs, [v] = [V.ref a] ∧ SqT K H a xs ∧ LcOwes g tt te ws σ Q (IteT K a) H := by
  obtain ⟨a, vs, rfl, h1, h2⟩ := h
  refine ⟨a, vs, rfl, same_t s h1, lc_core2 (zs := enumI zs) (walk_enumT (xs := vs)) (by rw [enumI_len, h2.len, List.length_map]) (by rw [enumI_len]; exact hz) s hp (fun F' H' t => same_t (t.ex.trans t.inn) h1) ?_ hd⟩
  intro i x u F1 H1 H2 hx t y
  obtain ⟨F2, t2, r⟩ := en_step h2 hx y t.ex t.inn
  exact ⟨F2, t2, hs x u F2 H2 r (t.trans t2 sub_nil)⟩
theorem lc_EQ {f : Int × α → Rs (Option β)} {ta : TA} (h : RD F (eQ b e zs) v) (s : Same F H) (hv : ∀ Q : List V → Hp → Prop, Q [v] H → ta σ H Q) (hz : zs.length ≤ 1000000) (hp : Post (mapR f (enumI zs)) P X)
    (hs : ∀ (x : Int × α) (u : V) F1 H1, RD F1 (eP Dat.int e x) u → Stp [] F H F1 H1 → LcTurn g tt te ws σ e2 F1 H1 F1 H1 (f x) X u) (hd : HdK F H e2 P Q) : iEnumU K ta σ H fun J H => LcOwes g tt te ws σ Q J H := by
  cases b with
  | true => exact .inr (hv _ (lc_ET h s hz hp hs hd))
  | false => exact .inl (hv _ (lc_EL h s hz hp hs hd))
theorem lc_ZL {f : α × γ → Rs (Option β)} (h : RD F (.lst (zs.map e)) v) (h' : RD F (.lst (ys.map e')) w) (s : Same F H) (hz : zs.length ≤ 1000000) (hp : Post (mapR f (zs.zip ys)) P X)
    (hs : ∀ (x : α × γ) (u : V) F1 H1, RD F1 (eP e e' x) u → Stp [] F H F1 H1 → LcTurn g tt te ws σ e2 F1 H1 F1 H1 (f x) X u) (hd : HdK F H e2 P Q) : ZipOwes K [v, w] H fun J H => LcOwes g tt te ws σ Q J H := by
  obtain ⟨a, vs, rfl, h1, h2⟩ := h
  obtain ⟨b, us, rfl, h3, h4⟩ := h'
  have hl : (zs.zip ys).length ≤ zs.length := by rw [List.length_zip]; omega
  refine ⟨a, b, vs, us, rfl, .inl ⟨same_l s h1, same_l s h3, lc_core2 (zs := zs.zip ys) (walk_zip (xs := vs) (ys := us) rfl) (by rw [List.length_zip, h2.len, h4.len, List.length_map, List.length_map]) (by omega) s hp (fun F' H' t => ⟨same_l (t.ex.trans t.inn) h1, same_l (t.ex.trans t.inn) h3⟩) ?_ hd⟩⟩
  intro i x u F1 H1 H2 hx t y
  obtain ⟨F2, t2, r⟩ := zi_step h2 h4 hx y t.ex t.inn
  exact ⟨F2, t2, hs x u F2 H2 r (t.trans t2 sub_nil)⟩
theorem lc_ZT {f : α × γ → Rs (Option β)} (h : RD F (.tup (zs.map e)) v) (h' : RD F (.tup (ys.map e')) w) (s : Same F H) (hz : zs.length ≤ 1000000) (hp : Post (mapR f (zs.zip ys)) P X)
    (hs : ∀ (x : α × γ) (u : V) F1 H1, RD F1 (eP e e' x) u → Stp [] F H F1 H1 → LcTurn g tt te ws σ e2 F1 H1 F1 H1 (f x) X u) (hd : HdK F H e2 P Q) : ZipOwes K [v, w] H fun J H => LcOwes g tt te ws σ Q J H := by
  obtain ⟨a, vs, rfl, h1, h2⟩ := h
  obtain ⟨b, us, rfl, h3, h4⟩ := h'
  have hl : (zs.zip ys).length ≤ zs.length := by rw [List.length_zip]; omega
  refine ⟨a, b, vs, us, rfl, .inr ⟨same_t s h1, same_t s h3, lc_core2 (zs := zs.zip ys) (walk_zipT (xs := vs) (ys := us) rfl) (by rw [List.length_zip, h2.len, h4.len, List.length_map, List.length_map]) (by omega) s hp (fun F' H' t => ⟨same_t (t.ex.trans t.inn) h1, same_t (t.ex.trans t.inn) h3⟩) ?_ hd⟩⟩
  intro i x u F1 H1 H2 hx t y
  obtain ⟨F2, t2, r⟩ := zi_step h2 h4 hx y t.ex t.inn
  exact ⟨F2, t2, hs x u F2 H2 r (t.trans t2 sub_nil)⟩
theorem lc_ZQ {f : α × γ → Rs (Option β)} (h : RD F (eQ b e zs) v) (h' : RD F (eQ b e' ys) w) (s : Same F H) (hz : zs.length ≤ 1000000) (hp : Post (mapR f (zs.zip ys)) P X)
    (hs : ∀ (x : α × γ) (u : V) F1 H1, RD F1 (eP e e' x) u → Stp [] F H F1 H1 → LcTurn g tt te ws σ e2 F1 H1 F1 H1 (f x) X u) (hd : HdK F H e2 P Q) : ZipOwes K [v, w] H fun J H => LcOwes g tt te ws σ Q J H := by
  cases b with
  | true => exact lc_ZT h h' s hz hp hs hd
  | false => exact lc_ZL h h' s hz hp hs hd
end
end DK
namespace DK
open PySem PySem.Spec PyProof.Rows L2
section
variable {S : List Addr} {F0 F1 H0 F5 H5 : Hp} {L L1 L2 a : Addr} {vs ws : List V} {ds ds' : List Dat} {o o' : HO}
theorem lend1 (s : Same F0 H0) (o : Own F0 H0 L (.lst vs)) (h : RDs F0 ds vs) : ∃ F1, Lent F0 H0 F1 ∧ RD F1 (.lst ds) (.ref L) ∧ ∀ p, F1 p ≠ none → F0 p = none → p ∈ [L] := by
  have l := (Lent.none s).one o
  refine ⟨_, l, ⟨L, vs, rfl, upd_same, h.up l.old⟩, fun p a b => ?_⟩
  by_cases z : p = L
  · subst z; exact List.mem_cons_self
  · rw [upd_ne z, b] at a; exact absurd rfl a
theorem lend2 (s : Same F0 H0) (o1 : Own F0 H0 L1 (.lst vs)) (h1 : RDs F0 ds vs) (o2 : Own F0 H0 L2 (.lst ws)) (h2 : RDs F0 ds' ws) (n : L2 ≠ L1) : ∃ F1, Lent F0 H0 F1 ∧ RD F1 (.lst ds) (.ref L1) ∧ RD F1 (.lst ds') (.ref L2) ∧ ∀ p, F1 p ≠ none → F0 p = none → p ∈ [L1, L2] := by
  have l := (Lent.none s).one o1
  have o2' : Own (upd F0 L1 (.lst vs)) H0 L2 (.lst ws) := ⟨by rw [upd_ne n]; exact o2.f, o2.h, trivial⟩
  have l2 := l.one o2'
  refine ⟨_, l2, ⟨L1, vs, rfl, by rw [upd_ne (Ne.symm n)]; exact upd_same, h1.up l2.old⟩, ⟨L2, ws, rfl, upd_same, h2.up l2.old⟩, fun p a b => ?_⟩
  by_cases z : p = L2
  · subst z; simp
  · rw [upd_ne z] at a
    by_cases z1 : p = L1
    · subst z1; exact List.mem_cons_self
    · rw [upd_ne z1, b] at a; exact absurd rfl a
theorem Lent.keepW (l : Lent F0 H0 F1) (s : Stp S F1 H0 F5 H5) (o0 : Own F0 H0 a o) (o5 : Own F5 H5 a o') : Own (thaw F0 F5) H5 a o' := ⟨thaw_none o0.f (.inl o5.f), o5.h, o5.nt⟩
/-- depth alone -/
def DeE {α : Type} (n : Nat) (e : α → Dat) : Prop := ∀ x, dep (e x) ≤ n
section
variable {α β γ : Type} {e : α → Dat}
theorem DeE.int : DeE 1 Dat.int := fun x => by simp only [dep]; omega
theorem DeE.str : DeE 1 Dat.str := fun x => by simp only [dep]; omega
theorem DeE.bl : DeE 1 Dat.bl := fun x => by simp only [dep]; omega
theorem DeE.non : DeE 1 (fun _ : Unit => Dat.non) := fun x => by simp only [dep]; omega
theorem DeE.maps {n : Nat} (h : DeE n e) : ∀ xs : List α, deps (xs.map e) ≤ n
  | [] => by simp [deps]
  | x :: xs => by
    have h1 := DeE.maps h xs
    have h2 := h x
    rw [List.map_cons]
    simp only [deps]
    omega
theorem DeE.eL {n : Nat} (h : DeE n e) : DeE (n + 1) (eL e) := fun xs => by have := h.maps xs; simp only [DK.eL, dep]; omega
theorem DeE.eT {n : Nat} (h : DeE n e) : DeE (n + 1) (eT e) := fun xs => by have := h.maps xs; simp only [DK.eT, dep]; omega
theorem DeE.eQ {n : Nat} {b : Bool} (h : DeE n e) : DeE (n + 1) (eQ b e) := fun xs => by
  cases b with
  | true => exact DeE.eT h xs
  | false => exact DeE.eL h xs
theorem DeE.eP {n m : Nat} {g : β → Dat} (h : DeE n e) (h' : DeE m g) : DeE (max n m + 1) (eP e g) := fun p => by
  have h1 := h p.1
  have h2 := h' p.2
  simp only [DK.eP, dep, deps]; omega
theorem DeE.eP3 {n m l : Nat} {g : β → Dat} {f : γ → Dat} (h : DeE n e) (h' : DeE m g) (h'' : DeE l f) : DeE (max n (max m l) + 1) (eP3 e g f) := fun p => by
  have h1 := h p.1
  have h2 := h' p.2.1
  have h3 := h'' p.2.2
  simp only [DK.eP3, dep, deps]; omega
theorem DeE.eO {n : Nat} (h : DeE n e) : DeE (max n 1) (eO e) := fun o => by
  cases o with
  | none => simp only [DK.eO, dep]; omega
  | some x => have := h x; simp only [DK.eO]; omega
theorem DeE.le {n m : Nat} (h : DeE n e) (x : α) (l : n ≤ m) : dep (e x) ≤ m := Nat.le_trans (h x) l
end
end
end DK
set_option maxRecDepth 100000
set_option maxHeartbeats 2000000
/-! DK, eleventh part: more steps. -/
namespace DK
open PySem PySem.Spec PyProof.Rows L2
section
variable {α β S R : Type} {K : PySem.W.Frag} {F H : Hp} {σ : Sg} {Q : VK} {D : Ends} {X : Xc → Option Int → Prop} {i j : Int} {u v : V} {b c : Bool}
theorem st_neBs (k : Q (.bl false) H) : rNeU K (.bl b) (.bl b) H Q := .inl ⟨rfl, by rw [decide_eq_true rfl]; exact k⟩
theorem st_neBd1 (k : Q (.bl true) H) : rNeU K (.bl true) (.bl false) H Q := .inl ⟨rfl, by rw [decide_eq_false (by intro z; cases z)]; exact k⟩
theorem st_neBd2 (k : Q (.bl true) H) : rNeU K (.bl false) (.bl true) H Q := .inl ⟨rfl, by rw [decide_eq_false (by intro z; cases z)]; exact k⟩
theorem st_neB (k : Q (.bl (!decide (b = c))) H) : rNeU K (.bl b) (.bl c) H Q := .inl ⟨rfl, by rw [show decide (V.bl b = V.bl c) = decide (b = c) by simp]; exact k⟩
theorem st_eqB (k : Q (.bl (decide (b = c))) H) : rEqU K (.bl b) (.bl c) H Q := .inl ⟨rfl, by rw [show decide (V.bl b = V.bl c) = decide (b = c) by simp]; exact k⟩
theorem st_eqS {s t : Str} (k : Q (.bl (decide (s = t))) H) : rEqU K (.str s) (.str t) H Q := .inl ⟨rfl, by rw [show decide (V.str s = V.str t) = decide (s = t) by simp]; exact k⟩
theorem st_neS {s t : Str} (k : Q (.bl (!decide (s = t))) H) : rNeU K (.str s) (.str t) H Q := .inl ⟨rfl, by rw [show decide (V.str s = V.str t) = decide (s = t) by simp]; exact k⟩
theorem st_andT {tb : TE} (k : tb σ H Q) : ∃ b, V.bl true = .bl b ∧ if b = true then tb σ H Q else Q (.bl false) H := ⟨true, rfl, by rw [if_pos rfl]; exact k⟩
theorem st_andF {tb : TE} (k : Q (.bl false) H) : ∃ b, V.bl false = .bl b ∧ if b = true then tb σ H Q else Q (.bl false) H := ⟨false, rfl, by rw [if_neg (by decide)]; exact k⟩
end
end DK
namespace DK
open PySem PySem.Spec PyProof.Rows L2
abbrev eP4 {α β γ δ : Type} (e : α → Dat) (g : β → Dat) (f : γ → Dat) (k : δ → Dat) (p : α × β × γ × δ) : Dat := .tup [e p.1, g p.2.1, f p.2.2.1, k p.2.2.2]
abbrev eP5 {α β γ δ ε : Type} (e : α → Dat) (g : β → Dat) (f : γ → Dat) (k : δ → Dat) (l : ε → Dat) (p : α × β × γ × δ × ε) : Dat := .tup [e p.1, g p.2.1, f p.2.2.1, k p.2.2.2.1, l p.2.2.2.2]
section
variable {α β γ δ ε : Type} {e : α → Dat} {g : β → Dat} {f : γ → Dat} {k : δ → Dat} {l : ε → Dat}
theorem SamE.eP4 (h : SamE e) (h' : SamE g) (h'' : SamE f) (h3 : SamE k) : SamE (eP4 e g f k) := fun x y => by
  have h1 := h x.1 y.1
  have h2 := h' x.2.1 y.2.1
  have h4 := h'' x.2.2.1 y.2.2.1
  have h5 := h3 x.2.2.2 y.2.2.2
  simp only [DK.eP4, sameD, samesD, Bool.and_eq_true, Bool.and_true, h1, h2, h4, h5]
  exact ⟨fun ⟨a, b, c, d⟩ => Prod.ext a (Prod.ext b (Prod.ext c d)), fun z => by rw [z]; exact ⟨rfl, rfl, rfl, rfl⟩⟩
theorem SamE.eP5 (h : SamE e) (h' : SamE g) (h'' : SamE f) (h3 : SamE k) (h4 : SamE l) : SamE (eP5 e g f k l) := fun x y => by
  have q1 := h x.1 y.1
  have q2 := h' x.2.1 y.2.1
  have q3 := h'' x.2.2.1 y.2.2.1
  have q4 := h3 x.2.2.2.1 y.2.2.2.1
  have q5 := h4 x.2.2.2.2 y.2.2.2.2
  simp only [DK.eP5, sameD, samesD, Bool.and_eq_true, Bool.and_true, q1, q2, q3, q4, q5]
  exact ⟨fun ⟨a, b, c, d, e⟩ => Prod.ext a (Prod.ext b (Prod.ext c (Prod.ext d e))), fun z => by rw [z]; exact ⟨rfl, rfl, rfl, rfl, rfl⟩⟩
theorem DeE.eP4 {a b c d : Nat} (h : DeE a e) (h' : DeE b g) (h'' : DeE c f) (h3 : DeE d k) : DeE (max a (max b (max c d)) + 1) (eP4 e g f k) := fun p => by
  have q1 := h p.1
  have q2 := h' p.2.1
  have q3 := h'' p.2.2.1
  have q4 := h3 p.2.2.2
  simp only [DK.eP4, dep, deps]; omega
theorem DeE.eP5 {a b c d m : Nat} (h : DeE a e) (h' : DeE b g) (h'' : DeE c f) (h3 : DeE d k) (h4 : DeE m l) : DeE (max a (max b (max c (max d m))) + 1) (eP5 e g f k l) := fun p => by
  have q1 := h p.1
  have q2 := h' p.2.1
  have q3 := h'' p.2.2.1
  have q4 := h3 p.2.2.2.1
  have q5 := h4 p.2.2.2.2
  simp only [DK.eP5, dep, deps]; omega
theorem NlE.eP4 (h : NlE e) (h' : NlE g) (h'' : NlE f) (h3 : NlE k) : NlE (eP4 e g f k) := fun p => by simp only [DK.eP4, noL, noLs, h p.1, h' p.2.1, h'' p.2.2.1, h3 p.2.2.2, Bool.and_self]
theorem NlE.eP5 (h : NlE e) (h' : NlE g) (h'' : NlE f) (h3 : NlE k) (h4 : NlE l) : NlE (eP5 e g f k l) := fun p => by simp only [DK.eP5, noL, noLs, h p.1, h' p.2.1, h'' p.2.2.1, h3 p.2.2.2.1, h4 p.2.2.2.2, Bool.and_self]
end
section
variable {α β S R : Type} {K : PySem.W.Frag} {F H : Hp} {σ : Sg} {v : V} {d1 d2 d3 d4 d5 : Dat} {t : TGs} {Q : Sg → Hp → Prop}
theorem sm_g3 (s : Same F H) (h : RD F (.tup [d1, d2, d3]) v) (k : ∀ x y z, RD F d1 x → RD F d2 y → RD F d3 z → t [x, y, z] σ H Q) : gTupU K 3 t v σ H Q :=
  st_gtup s h rfl fun vs h => by
    obtain ⟨x, r, rfl, h1, y, r2, rfl, h2, z, r3, rfl, h3, h4⟩ := h
    cases (show r3 = [] from h4)
    exact k x y z h1 h2 h3
theorem sm_g4 (s : Same F H) (h : RD F (.tup [d1, d2, d3, d4]) v) (k : ∀ x y z w, RD F d1 x → RD F d2 y → RD F d3 z → RD F d4 w → t [x, y, z, w] σ H Q) : gTupU K 4 t v σ H Q :=
  st_gtup s h rfl fun vs h => by
    obtain ⟨x, r, rfl, h1, y, r2, rfl, h2, z, r3, rfl, h3, w, r4, rfl, h4, h5⟩ := h
    cases (show r4 = [] from h5)
    exact k x y z w h1 h2 h3 h4
theorem sm_g5 (s : Same F H) (h : RD F (.tup [d1, d2, d3, d4, d5]) v) (k : ∀ x y z w u, RD F d1 x → RD F d2 y → RD F d3 z → RD F d4 w → RD F d5 u → t [x, y, z, w, u] σ H Q) : gTupU K 5 t v σ H Q :=
  st_gtup s h rfl fun vs h => by
    obtain ⟨x, r, rfl, h1, y, r2, rfl, h2, z, r3, rfl, h3, w, r4, rfl, h4, u, r5, rfl, h5, h6⟩ := h
    cases (show r5 = [] from h6)
    exact k x y z w u h1 h2 h3 h4 h5
end
end DK
namespace DK
open PySem PySem.Spec PyProof.Rows L2
section
variable {K : PySem.W.Frag} {S : List Addr} {F0 F1 H0 F5 H5 : Hp} {L a : Addr} {vs ws : List V} {ds : List Dat} {o o' : HO} {v : V} {ns : List Int}
theorem Scr.ofLent (h : Scr K F0 v ns) (l : Lent F0 H0 F1) : Scr K F1 v ns := by
  obtain ⟨x, e, q⟩ := h.at_
  exact ⟨⟨x, e, Same.seq l.old q⟩, h.len⟩
theorem Lent.rdsS (l : Lent F0 H0 F1) (h : RDs F0 ds vs) : RDs F1 ds vs := h.up l.old
/-- what is not lent stays ours -/
theorem Lent.ownW {T : List Addr} (l : Lent F0 H0 F1) (h : Own F0 H0 a o) (hT : ∀ p, F1 p ≠ Option.none → F0 p = Option.none → p ∈ T) (n : a ∉ T) : Own F1 H0 a o := by
  refine ⟨?_, h.h, h.nt⟩
  cases q : F1 a with
  | none => rfl
  | some u => exact absurd (hT a (by rw [q]; intro z; cases z) h.f) n
theorem DeE.lt {α : Type} {e : α → Dat} {n m : Nat} (h : DeE n e) (x : α) (l : n < m) : dep (e x) < m := Nat.lt_of_le_of_lt (h x) l
end
end DK
set_option maxRecDepth 100000
set_option maxHeartbeats 2000000
/-! DK, twelfth part: plain rules by places. -/
namespace DK
open PySem PySem.Spec PyProof.Rows L2
section
variable {α β γ S R : Type} {X : Xc → Option Int → Prop} {P : Ctl S R → Prop}
theorem Post.okD {m : Rs α} {v : α} (h : Post m (fun r => r = v) fun _ _ => False) : m = .ok v := by
  cases m with
  | ok a => rw [show a = v from h]
  | exc c t => exact h.elim
  | bad => exact h.elim
theorem Post.get {m : Rs α} {Q : α → Prop} (h : Post m Q fun _ _ => False) : ∃ a, m = .ok a ∧ Q a := by
  cases m with
  | ok a => exact ⟨a, rfl, h⟩
  | exc c t => exact h.elim
  | bad => exact h.elim
theorem drop_at {l : List α} {x : α} {rest : List α} {i : Nat} (h : x :: rest = l.drop i) : l[i]? = some x ∧ rest = l.drop (i + 1) := by
  have hl : i < l.length := by
    have := congrArg List.length h
    rw [List.length_cons, List.length_drop] at this; omega
  rw [List.drop_eq_getElem_cons hl] at h
  injection h with h1 h2
  exact ⟨by rw [List.getElem?_eq_getElem hl, h1], h2⟩
/-- a loop, by the place -/
theorem w_forI {f : S → α → Rs (Ctl S R)} (xs : List α) (I : Nat → S → Prop) {s0 : S} (h0 : I 0 s0) (hs : ∀ (i : Nat) (x : α) (s : S), xs[i]? = some x → I i s → Post (f s x) (Ctl.on (fun s' => I (i + 1) s') (fun s' => P (.nx s')) fun r => P (.rt r)) X)
    (hk : ∀ s, I xs.length s → P (.nx s)) : Post (forR f xs s0) P X := by
  refine w_for (fun rest s => ∃ i, rest = xs.drop i ∧ i ≤ xs.length ∧ I i s) ?_ ?_ xs s0 ⟨0, by simp, Nat.zero_le _, h0⟩
  · rintro x rest s ⟨i, he, hi, hI⟩
    obtain ⟨h1, h2⟩ := drop_at he
    have hl := (List.getElem?_eq_some_iff.mp h1).1
    exact (hs i x s h1 hI).mono fun c p => by
      cases c with
      | nx s' => exact ⟨i + 1, h2, hl, p⟩
      | bk s' => exact p
      | rt r => exact p
  · rintro s ⟨i, he, hi, hI⟩
    have : i = xs.length := by
      have := congrArg List.length he
      rw [List.length_nil, List.length_drop] at this; omega
    subst this
    exact hk s hI
theorem snoc_at {acc : List β} {b c : β} {k : Nat} (h : (acc ++ [b])[k]? = some c) : (k < acc.length ∧ acc[k]? = some c) ∨ (k = acc.length ∧ c = b) := by
  by_cases z : k < acc.length
  · rw [List.getElem?_append_left z] at h; exact .inl ⟨z, h⟩
  · rw [List.getElem?_append_right (by omega)] at h
    have hl := (List.getElem?_eq_some_iff.mp h).1
    simp only [List.length_cons, List.length_nil] at hl
    have e : k - acc.length = 0 := by omega
    rw [e] at h
    exact .inr ⟨by omega, by simpa using h.symm⟩
/-- a loop that appends one thing a turn -/
theorem w_accI {P : Ctl (List β) R → Prop} {f : List β → α → Rs (Ctl (List β) R)} (xs : List α) (J : Nat → β → Prop) (hs : ∀ (i : Nat) (x : α) (acc : List β), xs[i]? = some x → acc.length = i → (∀ k b, acc[k]? = some b → J k b) → Post (f acc x) (Ctl.on (fun s' => ∃ b, s' = acc ++ [b] ∧ J i b) (fun _ => False) fun _ => False) X)
    (hk : ∀ acc : List β, acc.length = xs.length → (∀ k b, acc[k]? = some b → J k b) → P (.nx acc)) : Post (forR f xs []) P X := by
  refine w_forI xs (fun i acc => acc.length = i ∧ ∀ k b, acc[k]? = some b → J k b) ⟨rfl, fun k b h => by simp at h⟩ ?_ (fun s h => hk s h.1 h.2)
  rintro i x acc hx ⟨hl, hJ⟩
  refine (hs i x acc hx hl hJ).mono fun c p => ?_
  cases c with
  | nx s' =>
    obtain ⟨b, rfl, hb⟩ := p
    refine ⟨by rw [List.length_append, hl]; rfl, fun k c hc => ?_⟩
    rcases snoc_at hc with ⟨h1, h2⟩ | ⟨h1, h2⟩
    · exact hJ k c h2
    · rw [h1, h2, hl]; exact hb
  | bk s' => exact p.elim
  | rt r => exact p.elim
theorem w_mapI {f : α → Rs (Option β)} {P : List β → Prop} (xs : List α) (J : Nat → β → Prop) (hs : ∀ (i : Nat) (x : α), xs[i]? = some x → Post (f x) (fun o => ∃ b, o = some b ∧ J i b) X)
    (hk : ∀ r : List β, r.length = xs.length → (∀ k b, r[k]? = some b → J k b) → P r) : Post (mapR f xs) P X := by
  induction xs generalizing J P with
  | nil => exact hk [] rfl (fun k b h => by simp at h)
  | cons x xs ih =>
    unfold mapR
    refine w_bnd ((hs 0 x rfl).mono fun o ho => ?_)
    obtain ⟨b, rfl, hb⟩ := ho
    refine w_bnd (ih (fun i b => J (i + 1) b) (fun i x h => hs (i + 1) x (by simpa using h)) fun r hl hr => ?_)
    refine hk (b :: r) (by rw [List.length_cons, List.length_cons, hl]) fun k c hc => ?_
    cases k with
    | zero => cases (show b = c by simpa using hc); exact hb
    | succ k => exact hr k c (by simpa using hc)
/-- a draw's counter -/
def Dr (n c : Int) (s : List Int) : Prop := ∃ k, s = [k] ∧ n ≤ k ∧ k ≤ n + c
/-- a loop that draws and appends: the counter first -/
theorem w_drA {P : Ctl (List Int × List β) R → Prop} {f : List Int × List β → α → Rs (Ctl (List Int × List β) R)} (xs : List α) (n c : Int) (J : Nat → β → Prop) (hc : 0 ≤ c) (hs : ∀ (i : Nat) (x : α) (k : Int) (acc : List β), xs[i]? = some x → n ≤ k → k ≤ n + c * i → acc.length = i → Post (f ([k], acc) x) (Ctl.on (fun s' => Dr k c s'.1 ∧ ∃ b, s'.2 = acc ++ [b] ∧ J i b) (fun _ => False) fun _ => False) X)
    (hk : ∀ (k : Int) (acc : List β), n ≤ k → k ≤ n + c * xs.length → acc.length = xs.length → (∀ k b, acc[k]? = some b → J k b) → P (.nx ([k], acc))) : Post (forR f xs ([n], [])) P X := by
  refine w_forI xs (fun i s => Dr n (c * i) s.1 ∧ s.2.length = i ∧ ∀ k b, s.2[k]? = some b → J k b) ⟨⟨n, rfl, by omega, by simp⟩, rfl, fun k b h => by simp at h⟩ ?_ ?_
  · rintro i x ⟨at_, acc⟩ hx ⟨⟨k, hk, k0, k1⟩, hl, hJ⟩
    simp only at hk hl hJ
    subst hk
    refine (hs i x k acc hx k0 k1 hl).mono fun q p => ?_
    cases q with
    | nx s' =>
      obtain ⟨a2, acc2⟩ := s'
      obtain ⟨⟨j, hj, j0, j1⟩, b, hb, hJb⟩ := p
      simp only at hj hb
      subst hj hb
      refine ⟨⟨j, rfl, by omega, ?_⟩, by rw [List.length_append, hl]; rfl, fun k c hc => ?_⟩
      · have e : c * ((i + 1 : Nat) : Int) = c * i + c := by
          rw [Int.natCast_add, Int.mul_add]; simp
        omega
      · rcases snoc_at hc with ⟨h1, h2⟩ | ⟨h1, h2⟩
        · exact hJ k c h2
        · rw [h1, h2, hl]; exact hJb
    | bk s' => exact p.elim
    | rt r => exact p.elim
  · rintro ⟨at_, acc⟩ ⟨⟨k, hk2, k0, k1⟩, hl, hJ⟩
    simp only at hk2 hl hJ
    subst hk2
    exact hk k acc k0 k1 hl hJ
/-- .. the counter last -/
theorem w_drB {P : Ctl (List β × List Int) R → Prop} {f : List β × List Int → α → Rs (Ctl (List β × List Int) R)} (xs : List α) (n c : Int) (J : Nat → β → Prop) (hc : 0 ≤ c) (hs : ∀ (i : Nat) (x : α) (k : Int) (acc : List β), xs[i]? = some x → n ≤ k → k ≤ n + c * i → acc.length = i → Post (f (acc, [k]) x) (Ctl.on (fun s' => Dr k c s'.2 ∧ ∃ b, s'.1 = acc ++ [b] ∧ J i b) (fun _ => False) fun _ => False) X)
    (hk : ∀ (k : Int) (acc : List β), n ≤ k → k ≤ n + c * xs.length → acc.length = xs.length → (∀ k b, acc[k]? = some b → J k b) → P (.nx (acc, [k]))) : Post (forR f xs ([], [n])) P X := by
  refine w_forI xs (fun i s => Dr n (c * i) s.2 ∧ s.1.length = i ∧ ∀ k b, s.1[k]? = some b → J k b) ⟨⟨n, rfl, by omega, by simp⟩, rfl, fun k b h => by simp at h⟩ ?_ ?_
  · rintro i x ⟨acc, at_⟩ hx ⟨⟨k, hk, k0, k1⟩, hl, hJ⟩
    simp only at hk hl hJ
    subst hk
    refine (hs i x k acc hx k0 k1 hl).mono fun q p => ?_
    cases q with
    | nx s' =>
      obtain ⟨acc2, a2⟩ := s'
      obtain ⟨⟨j, hj, j0, j1⟩, b, hb, hJb⟩ := p
      simp only at hj hb
      subst hj hb
      refine ⟨⟨j, rfl, by omega, ?_⟩, by rw [List.length_append, hl]; rfl, fun k c hc => ?_⟩
      · have e : c * ((i + 1 : Nat) : Int) = c * i + c := by
          rw [Int.natCast_add, Int.mul_add]; simp
        omega
      · rcases snoc_at hc with ⟨h1, h2⟩ | ⟨h1, h2⟩
        · exact hJ k c h2
        · rw [h1, h2, hl]; exact hJb
    | bk s' => exact p.elim
    | rt r => exact p.elim
  · rintro ⟨acc, at_⟩ ⟨⟨k, hk2, k0, k1⟩, hl, hJ⟩
    simp only at hk2 hl hJ
    subst hk2
    exact hk k acc k0 k1 hl hJ
/-- a loop that only looks -/
theorem w_lookI {P : Ctl Unit R → Prop} {f : Unit → α → Rs (Ctl Unit R)} (xs : List α) (hs : ∀ (i : Nat) (x : α), xs[i]? = some x → Post (f () x) (Ctl.on (fun _ => True) (fun _ => P (.nx ())) fun r => P (.rt r)) X) (hk : P (.nx ())) : Post (forR f xs ()) P X :=
  w_forI xs (fun _ _ => True) trivial (fun i x _ hx _ => hs i x hx) fun _ _ => hk
/-- a loop over draws that goes on: the counter is all -/
theorem w_drL {P : Ctl (List Int) R → Prop} {f : List Int → α → Rs (Ctl (List Int) R)} (xs : List α) (n c : Int) (hc : 0 ≤ c) (hs : ∀ (i : Nat) (x : α) (k : Int), xs[i]? = some x → n ≤ k → k ≤ n + c * i → Post (f [k] x) (Ctl.on (fun s' => Dr k c s') (fun s' => P (.nx s')) fun r => P (.rt r)) X)
    (hk : ∀ k : Int, n ≤ k → k ≤ n + c * xs.length → P (.nx [k])) : Post (forR f xs [n]) P X := by
  refine w_forI xs (fun i s => Dr n (c * i) s) ⟨n, rfl, by omega, by simp⟩ ?_ ?_
  · rintro i x s hx ⟨k, rfl, k0, k1⟩
    refine (hs i x k hx k0 k1).mono fun q p => ?_
    cases q with
    | nx s' =>
      obtain ⟨j, rfl, j0, j1⟩ := p
      refine ⟨j, rfl, by omega, ?_⟩
      have e : c * ((i + 1 : Nat) : Int) = c * i + c := by
        rw [Int.natCast_add, Int.mul_add]; simp
      omega
    | bk s' => exact p
    | rt r => exact p
  · rintro s ⟨k, rfl, k0, k1⟩
    exact hk k k0 k1
/-- two lists alike at each place -/
theorem ext_at {xs ys : List α} (hl : xs.length = ys.length) (h : ∀ (i : Nat) (x y : α), xs[i]? = some x → ys[i]? = some y → x = y) : xs = ys := by
  apply List.ext_getElem? 
  intro i
  by_cases z : i < xs.length
  · rw [List.getElem?_eq_getElem z, List.getElem?_eq_getElem (by omega)]
    exact congrArg some (h i _ _ (List.getElem?_eq_getElem z) (List.getElem?_eq_getElem (by omega)))
  · rw [List.getElem?_eq_none (by omega), List.getElem?_eq_none (by omega)]
theorem at_of_lt {xs : List α} {i : Nat} (h : i < xs.length) : ∃ x, xs[i]? = some x := ⟨_, List.getElem?_eq_getElem h⟩
theorem lt_of_at {xs : List α} {i : Nat} {x : α} (h : xs[i]? = some x) : i < xs.length := (List.getElem?_eq_some_iff.mp h).1
theorem rng0_at {n : Int} {i : Nat} {x : Int} (h : (rngI 0 n)[i]? = some x) : x = (i : Nat) ∧ (i : Int) < n := by
  have h1 := rngI_at h
  have h2 := lt_of_at h
  rw [rngI_len] at h2
  exact ⟨by omega, by omega⟩
theorem rng0_len {n : Int} : (rngI 0 n).length = n.toNat := by rw [rngI_len]; simp
/-- the sizes of data -/
theorem wid_int {i : Int} : wid (.int i) = 0 := by simp only [wid]
theorem wid_str {s : Str} : wid (.str s) = 0 := by simp only [wid]
theorem wid_eL {e : α → Dat} {n : Nat} {xs : List α} (h : xs.length ≤ n) (h2 : ∀ x ∈ xs, wid (e x) ≤ n) : wid (eL e xs) ≤ n := by
  have := wids_map h2
  simp only [eL, wid, List.length_map]; omega
theorem wid_eT {e : α → Dat} {n : Nat} {xs : List α} (h : xs.length ≤ n) (h2 : ∀ x ∈ xs, wid (e x) ≤ n) : wid (eT e xs) ≤ n := by
  have := wids_map h2
  simp only [eT, wid, List.length_map]; omega
theorem wid_eP {e : α → Dat} {g : β → Dat} {n : Nat} {p : α × β} (h : 2 ≤ n) (h1 : wid (e p.1) ≤ n) (h2 : wid (g p.2) ≤ n) : wid (eP e g p) ≤ n := by
  simp only [eP, wid, wids, List.length_cons, List.length_nil]; omega
theorem w_same {e : α → Dat} (S : SamE e) {x y : α} {k : Bool → Rs β} {P : β → Prop} (h : x = y) (g : Post (k true) P X) : Post (k (sameD (e x) (e y))) P X := by
  subst h
  rw [S.refl]; exact g
end
end DK
set_option maxRecDepth 100000
set_option maxHeartbeats 2000000
/-! DK, thirteenth part: errors raised, caught, asked. -/
namespace DK
open PySem PySem.Spec PyProof.Rows L2
/-! ### a caught error as a tracked thing -/
theorem exK_ok {P : Program} {w : World} {H : Hp} {h : Heap} {cls : Value} {d : Option Addr} {a : Addr} {oe : Obj} {vs : Array Value} (e : h.get? a = some oe) (z : Zc cls d oe) (q : oe.data = .fields vs) : ObjOk P w H h a (ExK cls d a) :=
  ⟨⟨oe, vs, e, z, q⟩, ⟨oe, e⟩, fun _ _ ⟨o, v, q, r⟩ k => ⟨o, v, k o q, r⟩⟩
section
variable {X : Cx} {pins : List (Addr × Obj)} {σ : Sg} {H : Hp} {s sI : Shared} {a : Addr}
theorem hok_track {P : Program} {w : World} {h : Heap} {o : HO} (x : HOk P w H h) (n : H a = none) (new : ObjOk P w (upd H a o) h a o) : HOk P w (upd H a o) h := by
  intro b u e
  by_cases z : b = a
  · subst z
    rw [upd_same] at e
    cases e
    exact new
  · rw [upd_ne z] at e
    refine (x b u e).stay (fun _ _ _ q => q) (fun c q => ?_) (fun c xs q => ?_)
    · rw [upd_ne (ne_of_none q n)]; exact q
    · rw [upd_ne (ne_of_none q n)]; exact q
/-- within the except suite, the error tracked -/
theorem inv_track (J : Inv X pins σ H sI) (I : Inv X pins σ H s) {cls : Value} {d : Option Addr} {oe : Obj} {vs : Array Value} (hn : sI.heap.get? a = none) (he : s.heap.get? a = some oe) (hz : Zc cls d oe) (hd : oe.data = .fields vs) (na : H a = none) (nL : a ≠ X.env.locals) :
    Inv (X.suite a (X.pn ++ pins)) [] σ (upd H a (ExK cls d a)) s where
  ok := I.ok.suite _ _
  os := I.os
  bare := I.bare
  base := by
    have n0 : X.s_0.heap.get? a = none ∨ X.H_0 a ≠ none ∨ a ∈ X.ex := by
      cases q : X.s_0.heap.get? a with
      | none => exact .inl rfl
      | some u =>
        by_cases hx : a ∈ X.ex
        · exact .inr (.inr hx)
        · obtain ⟨o', q'⟩ := J.base.there a u q hx
          rw [hn] at q'; cases q'
    have n1 : ∀ b u, X.s_0.heap.get? b = some u → b ∉ X.ex → b ≠ a := fun b u e hx z => by
      subst z
      obtain ⟨o', q'⟩ := J.base.there b u e hx
      rw [hn] at q'; cases q'
    have nu : ∀ b u, H b = some u → b ≠ a := fun b u e z => by subst z; rw [na] at e; cases e
    refine ⟨I.base.keep, I.base.slot, fun b o e n hx => ?_, I.base.there, fun b xs e => ?_, fun b o u e => ?_, fun b ps e => ?_⟩
    · rw [upd_ne (n1 b o e hx)]; exact I.base.free b o e n hx
    · have q := I.base.tups b xs e
      rw [upd_ne (nu b _ q)]; exact q
    · have q := I.base.frzs b o u e
      rw [upd_ne (nu b _ q)]; exact q
    · obtain ⟨m, q⟩ := I.base.tbls b ps e
      exact ⟨m, by rw [upd_ne (nu b _ q)]; exact q⟩
  loc := I.loc
  cell := I.cell
  free := by show upd H a _ X.env.locals = none; rw [upd_ne (Ne.symm nL)]; exact I.free
  freeC := fun x c e => by
    have hc := I.freeC x c e
    have ne : c ≠ a := fun z => by
      obtain ⟨v, o, ho, hcd⟩ := I.cell x c e
      rw [z, he] at ho
      cases ho
      rw [hd] at hcd
      cases hcd
    rw [upd_ne ne]; exact hc
  pin := fun p hp => by
    have hp' : p ∈ X.pn ++ pins := by simpa using hp
    obtain ⟨q1, q2, q3, q4, q5⟩ := I.pin p hp'
    have ne : p.1 ≠ a := fun z => by
      have := (J.pin p hp').1
      rw [z, hn] at this; cases this
    exact ⟨q1, by rw [upd_ne ne]; exact q2, q3, q4, q5⟩
  hok := hok_track I.hok na (exK_ok he hz hd)
  len := I.len
end
/-- behind the suite: the name is gone -/
abbrev goneE (i : Nat) (D : Ends) : Ends := { nx := fun σ H => D.nx (σ.set i none) H, rt := D.rt, bk := fun σ H => D.bk (σ.set i none) H, ct := fun σ H => D.ct (σ.set i none) H }
/-- what the clause wishes of an error of the body -/
def wTX (K : PySem.W.Frag) (c : Value) (i : Nat) (ts : Addr → TS) (Wout : WX) (D : Ends) : WX := fun cls d σ H =>
  ∃ b, PySem.W.exmOne K cls c = some b ∧ (b = true → ∀ a, H a = none → ts a (goneE i D) (σ.set i (some (.ref a))) (upd H a (ExK cls d a))) ∧ (b = false → Wout cls d σ H)
def tTryX (K : PySem.W.Frag) (c : Value) (i : Nat) (tb : WX → TS) (ts : Addr → TS) (Wout : WX) : TS := fun D σ H => tb (wTX K c i ts Wout D) D σ H
section
variable {X : Cx} {x n : Str} {c : Value} {i : Nat} {body suite : List Stmt} {b₀ : Stmt} {np pos pos' : Pos} {tb : WX → TS} {ts : Addr → TS} {Wout : WX}
theorem ps_tryX (hs : X.stack = X.env :: X.outer) (hf : X.env.frame = some X.env.locals) (hN : X.N.Nodup) (hi : X.N[i]? = some n) (hln : X.env.kindOf n = some .local) (hc : Names X x c) (tk : L2N.Takes X Wout)
    (hb : ∀ (W : WX) (pn : List (Addr × Obj)) (xe : Value → Shared → Prop), L2N.Takes (X.tr pn xe) W → PassesOwn (model X.prog X.w) X.A X.env xe → PSs (X.tr pn xe) body (tb W))
    (hsu : ∀ (a : Addr) (pn : List (Addr × Obj)), PSs (X.suite a pn) (b₀ :: suite) (ts a)) :
    PS X (.Try body [.ExceptHandler (some (.Name x np)) (some n) (b₀ :: suite) pos'] [] [] pos) (tTryX X.K c i tb ts Wout) := by
  constructor
  intro pins s0 σ0 H0 D I0 rd
  have okX := I0.ok
  have frX : X.A.frames = some (X.env :: X.outer) := okX.frames.trans (congrArg some hs)
  refine wpAny_Try_except (wpAny_mono ((hb (wTX X.K c i ts Wout D) (X.pn ++ pins) (fun ev t1 => wpAny (model X.prog X.w) X.A (noteFrame ev X.env) (fun _ t2 =>
    wpAny (model X.prog X.w) X.A (setFlight ev none) (fun _ t3 => wpAny (model X.prog X.w) X.A (handleBy ev X.env [.ExceptHandler (some (.Name x np)) (some n) (b₀ :: suite) pos']) (SP X pins D) X.xe t3) X.xe t2) X.xe t1) (fun uv t' fl => ?_) PassesOwn.looking).run [] s0 σ0 H0 D (I0.toTry _) rd) (fun fw t1 q => ?_) (fun ev t1 q => q))
  · obtain ⟨a, G, sI, pins', σ1, H1, cls, d, rfl, JT, nb, up, sky, na, os, ag, b, eb, yes, no⟩ := fl
    have J : Inv X pins σ1 H1 sI := JT.ofTry okX
    have sk2 : Sky G (X.env :: X.outer) a (L2N.Zn cls d) X.env.locals t'.heap := hs ▸ sky
    change wpAny (model X.prog X.w) X.A (noteFrame (.ref a) X.env) _ _ _
    refine L2N.Sky.land L2N.Zn.steady frX hf sk2 (fun h3 f3 u3 => ?_)
    have I3 : Inv X pins σ1 H1 { t' with heap := h3 } := J.landed nb f3.1 (up.trans u3) os ag
    obtain ⟨ob3, fv3, g3, z3, d3⟩ := f3.there
    have nfr : a ∉ frs (X.env :: X.outer) := by
      intro hm
      obtain ⟨_, ou, gu, hnf⟩ := f3.2.2.1.mem hm
      rw [g3] at gu
      cases gu
      exact hnf _ d3
    have nl : a ≠ X.env.locals := by
      rintro rfl
      exact nfr (List.mem_filterMap.mpr ⟨X.env, List.mem_cons_self, hf⟩)
    have new0 : sI.heap.get? a = none := by
      cases q : sI.heap.get? a with
      | none => rfl
      | some u =>
        have z := nb a u q (by rw [hs]; exact nfr)
        rw [f3.2.1] at z
        cases z
    have T3 := inv_track J I3 new0 g3 z3.zc d3 na nl
    refine wpAny_handleBy_cons (codeAny_handlers_test ?_) (by rintro ⟨⟩)
    have isT : PySem.W.Looks (model X.prog X.w) h3 (typeOf (.ref a)) cls := fun _ _ _ _ k q => wpAny_typeOf_ref (k _ _ g3) (z3.1 ▸ q)
    have isM := PySem.W.exm_one (M := model X.prog X.w) I3.kIn isT eb
    have look : ∀ {Q E : Value → Shared → Prop}, Q c { t' with heap := h3 } → wpAny (model X.prog X.w) (X.A.mark (some (.ref a))) (eval (.Name x np) X.env) Q E { t' with heap := h3 } := by
      intro Q E q
      obtain ⟨hg, hdb, ⟨hm⟩ | ⟨hm, hv, hne⟩⟩ := hc
      · exact ld_glob (X := X.suite a (X.pn ++ pins)) T3 hg hm q hdb
      · exact ld_blt (X := X.suite a (X.pn ++ pins)) T3 hg hm hv q hne hdb
    refine look (isM.here ?_)
    cases b with
    | false =>
      change wpAny _ X.A (handleBy (.ref a) X.env []) _ _ _
      refine wpAny_handleBy_nil ?_
      obtain ⟨_, _, _, ob, fv, T, oT, tv, gt, zt, dt, t1, _⟩ := id f3
      unfold PySem.passOn
      refine wpAny_bind (wpAny_field gt dt t1 ?_)
      rw [if_neg (show ¬ ((Value.ref T == Value.none) = true) from by simp)]
      have rest : wpAny (model X.prog X.w) X.A (setFlight (.ref a) X.env.frame) (fun _ t4 => wpAny (model X.prog X.w) X.A (throw (.ref a) : Sem Flow) (SP X pins D) X.xe t4) X.xe { t' with heap := h3 } := by
        rw [hf]
        refine HandSPX.setFlight_upZ f3 (fun h4 f4 u4 => wpAny_throw (tk _ _ ⟨a, G, sI, pins, σ1, H1, cls, d, rfl, J, nb, (up.trans u3).trans u4, .inr (.inr (hs.symm ▸ f4)), na, os, ag, no rfl⟩))
      first
        | exact wpAny_bind (wpAny_pure (wpAny_bind rest))
        | exact wpAny_bind rest
    | true =>
      refine codeAny_handlers_suite_as (HandSPX.lands_againZ f3 (fun h4 f4 u4 => ?_))
      have I4 : Inv X pins σ1 H1 { t' with heap := h4 } := J.landed nb f4.1 ((up.trans u3).trans u4) os ag
      obtain ⟨ob4, fv4, g4, z4, d4⟩ := f4.there
      have T4 := inv_track J I4 new0 g4 z4.zc d4 na nl
      refine store_ok (X := X.suite a (X.pn ++ pins)) (v := .ref a) T4 hN hi (.inl hln) rfl (fun t5 T5 => ?_) (.inr hln)
      refine wpAny_mono ((hsu a (X.pn ++ pins)).run [] t5 _ _ _ T5 (yes rfl a na)) (fun fw t6 q => ?_) (fun _ _ z => z.elim)
      have back : ∀ {σ6 : Sg} {H6 : Hp}, Inv (X.suite a (X.pn ++ pins)) [] σ6 H6 t6 → Inv X pins σ6 H6 t6 := fun B =>
        ⟨okX, B.os, B.bare, B.base, B.loc, B.cell, B.free, B.freeC, fun p hp => B.pin p (by simpa using hp), B.hok, B.len⟩
      have fin : ∀ {σ6 : Sg} {H6 : Hp} {Q : Shared → Prop}, Inv (X.suite a (X.pn ++ pins)) [] σ6 H6 t6 → (∀ t7, Inv X pins (σ6.set i none) H6 t7 → Q t7) →
          wpAny (model X.prog X.w) X.A (do bindName X.env n .none; unbindBehindTheSuite X.env n pos') (fun _ t7 => Q t7) X.xe t6 := fun B k => gone_ok (back B) hN hi hln k
      cases fw with
      | ret u =>
        obtain ⟨v6, σ6, H6, B6, r6, q6⟩ := q
        exact fin B6 (fun t7 J7 => ⟨_, _, _, J7, r6, q6⟩)
      | next =>
        obtain ⟨σ6, H6, B6, q6⟩ := q
        exact fin B6 (fun t7 J7 => ⟨_, _, J7, q6⟩)
      | cont =>
        obtain ⟨σ6, H6, B6, q6⟩ := q
        exact fin B6 (fun t7 J7 => ⟨_, _, J7, q6⟩)
      | brk =>
        obtain ⟨σ6, H6, B6, q6⟩ := q
        exact fin B6 (fun t7 J7 => ⟨_, _, J7, q6⟩)
  · cases fw with
    | ret u =>
      obtain ⟨v, σ1, H1, B, r, q1⟩ := q
      exact ⟨v, σ1, H1, B.ofTry okX, r, q1⟩
    | next =>
      obtain ⟨σ1, H1, B, q1⟩ := q
      exact wpAny_execs_nil ⟨σ1, H1, B.ofTry okX, q1⟩
    | cont =>
      obtain ⟨σ1, H1, B, q1⟩ := q
      exact ⟨σ1, H1, B.ofTry okX, q1⟩
    | brk =>
      obtain ⟨σ1, H1, B, q1⟩ := q
      exact ⟨σ1, H1, B.ofTry okX, q1⟩
end
end DK
set_option maxRecDepth 100000
set_option maxHeartbeats 2000000
/-! DK, fourteenth part: errors in the mirrors; calls within a try. -/
namespace DK
open PySem PySem.Spec PyProof.Rows L2
/-! ### plain -/
section
variable {α β : Type} {m : Rs α} {P : α → Prop} {X Y : Xc → Option Int → Prop} {f : Xc → Option Int → Rs α}
theorem Post.mono2 {Q : α → Prop} (h : Post m P X) (z : ∀ a, P a → Q a) (y : ∀ c l, X c l → Y c l) : Post m Q Y := by
  cases m with
  | ok a => exact z a h
  | exc c t => exact y c t h
  | bad => exact h
def noX (m : Rs α) : Rs α := match m with
  | .exc _ _ => .bad
  | x => x
theorem Post.nox (h : Post (noX m) P X) : Post m P fun _ _ => False := by
  cases m <;> exact h
theorem w_noX (h : Post m P fun _ _ => False) : Post (noX m) P X := by
  cases m with
  | exc c t => exact h.elim
  | _ => exact h
def tryR (m : Rs α) (f : Xc → Option Int → Rs α) : Rs α := match m with
  | .exc c l => f c l
  | x => x
theorem Post.tr (h : Post (tryR m f) P X) : Post m P fun c l => Post (f c l) P X := by
  cases m <;> exact h
theorem w_try (h : Post m P Y) (k : ∀ c l, Y c l → Post (f c l) P X) : Post (tryR m f) P X := by
  cases m with
  | exc c t => exact k c t h
  | _ => exact h
end
/-- a caught error without a line -/
abbrev eX (K : PySem.W.Frag) (c : Xc) : Dat := .exc (He.ga K c.nm) none
theorem eX.ref {K : PySem.W.Frag} {c : Xc} : isRef (eX K c) = true := rfl
theorem NlE.eX {K : PySem.W.Frag} : NlE (eX K) := fun _ => rfl

/-! ### calls whose errors are wished for at the slots -/
section
variable {X : Cx} {k : Nat} {f C : Addr} {fd : FuncData} {ps : List Str} {sp : Sp} {dvs : List V} {E : L2.St → XK} {x : Str} {p pos : Pos} {e : Expr} {es : List Expr} {t : TA}
theorem pe_callCX (c : CalOk X.prog X.w X.K X.mg X.base x k ps sp) (hr : Room k X.A) (hg : Gl X x) (hx : ∀ σ, PassesAt (L2N.CX X.prog X.w) X σ (E σ))
    (ha : PA X (e :: es) t) (hdb : (x == ("__debug__" : Str)) = false := by decide) (he : starEach (e :: es) X.env = (false, eval e X.env) :: starEach es X.env := by rfl) (hpl : (backTo pos (starEach es X.env)).any (·.1) = false := by rfl) :
    PE X (.Call (.Name x p) (e :: es) [] pos) (tCallSD sp [] E t) := by
  obtain ⟨fd, F, hm, hk, hb⟩ := c
  exact pe_callSD F hr hg hm hk hb .nil hx ha hdb he hpl
theorem pe_callDX (c : CalDf X.prog X.w X.K X.mg X.base x k ps sp dvs) (hr : Room k X.A) (hg : Gl X x) (hx : ∀ σ, PassesAt (L2N.CX X.prog X.w) X σ (E σ))
    (ha : PA X (e :: es) t) (hdb : (x == ("__debug__" : Str)) = false := by decide) (he : starEach (e :: es) X.env = (false, eval e X.env) :: starEach es X.env := by rfl) (hpl : (backTo pos (starEach es X.env)).any (·.1) = false := by rfl) :
    PE X (.Call (.Name x p) (e :: es) [] pos) (tCallSD sp dvs E t) := by
  obtain ⟨fd, ds, F, hm, hk, hd, hb⟩ := c
  exact pe_callSD F hr hg hm hk hb hd hx ha hdb he hpl
def tMakeSD (C : Addr) (sp : Sp) (E : L2.St → XK) (t : TA) : TE := fun σ H Q => t σ H fun vs H1 => ∀ x dx, H1 x = none → H1 dx = none → dx ≠ x →
  sp (.ref x :: (vs ++ [])) (upd (upd H1 dx (.own x)) x (.ins C dx [])) (fun v H2 => v = .non ∧ Q (.ref x) H2) (E σ)
theorem run_mkX {pins : List (Addr × Obj)} {σ : L2.St} {H : Hp} {s : Shared} {Q : VK} {us : List Value} {vs : List V} (M : Mk X.K C f) (F : FnOk X.prog X.w X.K X.mg X.base (L2N.CX X.prog X.w) k f fd ps sp) (hr : Room (k + 1) X.A) (hb : Binds X.K fd ps [])
    (hx : PassesAt (L2N.CX X.prog X.w) X σ (E σ)) (I : Inv X pins σ H s) (r : Vals vs us)
    (h : ∀ x dx, H x = none → H dx = none → dx ≠ x → sp (.ref x :: (vs ++ [])) (upd (upd H dx (.own x)) x (.ins C dx [])) (fun v H2 => v = .non ∧ Q (.ref x) H2) (E σ)) :
    wpAny (model X.prog X.w) X.A (call (.ref C) us) (EP X pins σ Q) X.xe s := by
  let n := s.heap.objs.size
  have wish := h (n + 1) n (I.hok.fresh (Nat.le_succ n)) (I.hok.fresh (Nat.le_refl n)) (Nat.ne_of_lt (Nat.lt_succ_self n))
  have J := Inv.made (C := C) I
  have rv : Vals (V.ref (n + 1) :: (vs ++ [])) (Value.ref (n + 1) :: (us ++ [])) := .cons rfl (r.append .nil)
  have many : (Value.ref (n + 1) :: us ++ []).length = ps.length := (F.len _ _ _ _ wish ▸ rv.length).symm
  have bind : BindsTo _ fd ⟨Value.ref (n + 1) :: us, []⟩ (ps.zip (Value.ref (n + 1) :: (us ++ []))) := hb _ (Value.ref (n + 1) :: us) J.kIn many
  have body := F.run _ X.stack _ _ ⟨Value.ref (n + 1) :: us, []⟩ (Value.ref (n + 1) :: (us ++ [])) _ _ (E σ) (hr.make C us []) (J.env0.make C us []) bind rv wish
  refine wpAny_call (make_map (f := f) I.kIn M.makes M.init (beq_iff_eq.mp M.fn) (codeAny_mono body ?_))
  rintro (er | fl) t hq
  · exact hx pins _ _ er t J hq
  · cases fl with
    | ret u =>
      obtain ⟨v, Hq, Jq, rr, ev, qq⟩ := J.after hq
      cases ev
      exact ⟨rr, ⟨V.ref (n + 1), Hq, Jq, rfl, qq⟩⟩
    | next => exact (show False from hq).elim
    | brk => exact (show False from hq).elim
    | cont => exact (show False from hq).elim
theorem pe_makeCX (c : MakOk X.prog X.w X.K X.mg X.base x k ps sp) (hr : Room (k + 1) X.A) (hg : Gl X x) (hx : ∀ σ, PassesAt (L2N.CX X.prog X.w) X σ (E σ))
    (ha : PA X (e :: es) t) (hdb : (x == ("__debug__" : Str)) = false := by decide) (he : starEach (e :: es) X.env = (false, eval e X.env) :: starEach es X.env := by rfl) (hpl : (backTo pos (starEach es X.env)).any (·.1) = false := by rfl) :
    PE X (.Call (.Name x p) (e :: es) [] pos) (tMakeSD (He.ga X.K x) sp E t) := by
  obtain ⟨g, fd, M, F, hm, hb⟩ := c
  refine ⟨fun pins s σ H Q I h => wpAny_Call_Name_kw (ld_glob I hg hm ?_ hdb)⟩
  refine PySem.W.callWith_K (h₀ := X.base) I.ok.mod.kin M.kp (thn (ha.run pos pins s σ H _ I h) ?_) he hpl
  rintro us s1 ⟨vs, H1, J, r, q⟩
  exact ⟨J.kIn, run_mkX M F hr hb (hx σ) J r q⟩
end

/-! ### isinstance of a caught error -/
section
variable {fa : List He.Fa} {fb : List Fb} {fn : List He.DefD} {K : PySem.W.Frag} {mg : Str → Option Value}
theorem FactsB.exi (T : FactsB fa fb fn K mg) (i : Nat) {x : Str} (h : fb[i]? = some (.exi x) := by rfl) : ExcC K (He.ga K x) := by
  obtain ⟨h1, h2⟩ := He.ba (T.more i _ h)
  obtain ⟨h2, h3⟩ := He.ba h2
  obtain ⟨h3, h4⟩ := He.ba h3
  obtain ⟨h4, h5⟩ := He.ba h4
  obtain ⟨h5, h6⟩ := He.ba h5
  obtain ⟨h6, h7⟩ := He.ba h6
  obtain ⟨h7, h8⟩ := He.ba h7
  exact ⟨of_decide_eq_true h1, of_decide_eq_true h2, of_decide_eq_true h3, h4, of_decide_eq_true h5, of_decide_eq_true h6, of_decide_eq_true h7, of_decide_eq_true h8⟩
theorem FactsB.exm (T : FactsB fa fb fn K mg) (i : Nat) {x y : Str} {b : Bool} (h : fa[i]? = some (.exm x y b) := by rfl) : PySem.W.exmOne K (.ref (He.ga K x)) (.ref (He.ga K y)) = some b := He.exm_ok (T.says.fact i h)
end
def rIsX (K : PySem.W.Frag) : List V → Hp → VK → Prop := fun xs H Q => ∃ (a D : Addr) (c : V) (u : Value) (b : Bool), xs = [.ref a, c] ∧ ClsV c u ∧ H a = some (ExK (.ref D) none a) ∧ ExcC K D ∧ PySem.W.kitOne K (.ref D) u = some b ∧ Q (.bl b) H
theorem call_isX {X : Cx} : CallR X (.builtin "isinstance") (rIsX X.K) := by
  intro pins s σ H xs us Q I r h
  obtain ⟨a, D, c, u, b, rfl, k, ha, C, e, q⟩ := h
  obtain ⟨u1, u2, rfl, r1, r2⟩ := vals2 r
  have e2 := k.eq r2
  subst e2
  cases (show u1 = Value.ref a from r1)
  obtain ⟨⟨oe, vs, ho, hz, hd⟩, _⟩ := (show ObjOk X.prog X.w H s.heap a (ExK (.ref D) none a) from I.hok a _ ha)
  have J : PySem.W.InstAt s.heap a oe D none := by
    obtain ⟨oc, od, oda, osl⟩ := oe
    obtain ⟨h1, h2⟩ := hz
    dsimp only at h1 h2 hd
    subst h1 h2 hd
    exact ⟨ho, rfl, rfl, trivial⟩
  exact PySem.W.kia_one (PySem.W.handS_kitx_exc C.hg C.hk C.hs C.hd C.ha C.hn C.ht C.hm) I.kIn J e (fun z => nomatch z) fun tk => ⟨.bl b, H, I.tok tk, rfl, q⟩

theorem Lent.ebk {F0 H0 F1 F5 H5 : Hp} {S : List Addr} (l : Lent F0 H0 F1) (s : Stp S F1 H0 F5 H5) {n : Option Int} {d : Option Addr} (h : ExD F5 n d) : ∃ Fy, Stp S F0 H0 Fy H5 ∧ ExD Fy n d := by
  refine ⟨_, l.back s, ?_⟩
  cases n with
  | none => exact h
  | some n =>
    obtain ⟨dx, rfl, q⟩ := h
    exact ⟨dx, rfl, thaw_new (l.old.trans s.ex) q (by intro xs q; cases q)⟩
/-! ### steps -/
section
variable {K : PySem.W.Frag} {σ : Sg} {H F : Hp} {Q : VK} {D : Ends}
theorem st_callX {sp : Sp} {dvs : List V} {E : L2.St → XK} {t : TA} (k : t σ H fun vs H1 => sp (vs ++ dvs) H1 Q (E σ)) : tCallSD sp dvs E t σ H Q := k
theorem st_makeX {C : Addr} {sp : Sp} {E : L2.St → XK} {t : TA} (k : t σ H fun vs H1 => ∀ x dx, H1 x = none → H1 dx = none → dx ≠ x → sp (.ref x :: (vs ++ [])) (upd (upd H1 dx (.own x)) x (.ins C dx [])) (fun v H2 => v = .non ∧ Q (.ref x) H2) (E σ)) : tMakeSD C sp E t σ H Q := k
theorem sm_isX {p : Xc} {v : V} {c : V} {u : Value} {b : Bool} (s : Same F H) (h : RD F (eX K p) v) (hc : ClsV c u) (C : ExcC K (He.ga K p.nm)) (e : PySem.W.kitOne K (.ref (He.ga K p.nm)) u = some b) (k : Q (.bl b) H) : rIsX K [v, c] H Q := by
  obtain ⟨a, d, rfl, h1, h2⟩ := h
  obtain rfl : d = none := h2
  exact ⟨a, _, c, u, b, rfl, hc, s a _ h1, C, e, k⟩
variable {S R β α : Type} {P : β → Prop} {X : Xc → Option Int → Prop}
theorem cutY {c : Value} {i : Nat} {tb : WX → TS} {ts : Addr → TS} {Wout : WX} {m : Rs (Ctl S R)} {k : S → Rs β} {r : R → Rs β} (hm : Post (m.thn k r) P X) (I : S → Sg → Hp → Prop)
    (h1 : ∀ nx : Sg → Hp → Prop, (∀ s σ' H', I s σ' H' → Post (k s) P X → nx σ' H') → Post m (Ctl.on (fun s => Post (k s) P X) (fun s => Post (k s) P X) fun x => Post (r x) P X) X → tTryX K c i tb ts Wout { D with nx := nx } σ H)
    (h2 : ∀ s σ' H', I s σ' H' → Post (k s) P X → D.nx σ' H') : tTryX K c i tb ts Wout D σ H := cutS hm I h1 h2
theorem st_tryX {A : α → Prop} {c0 : Value} {i : Nat} {tb : WX → TS} {ts : Addr → TS} {Wout : WX} {m : Rs α} {f : Xc → Option Int → Rs α} (hm : Post (tryR m f) A X) (J : Unit → Hp → Sg → Hp → Prop)
    (hj : ∀ F' σ' H', J () F' σ' H' → Same F' H')
    (hx : ∀ c : Xc, PySem.W.exmOne K (.ref (He.ga K c.nm)) c0 = some true)
    (hs : ∀ (c : Xc) (l : Option Int) (F' : Hp) (σ' : Sg) (H' : Hp) (a : Addr) (F2 H2 : Hp), J () F' σ' H' → Stp [] F' H' F2 H2 → RD F2 (.exc (He.ga K c.nm) l) (.ref a) → Post (f c l) A X → ts a (goneE i D) (σ'.set i (some (.ref a))) H2)
    (hb : ∀ W : WX, (∀ (c : Xc) (l : Option Int) (F' : Hp) (σ' : Sg) (H' : Hp) (dx : Option Addr), J () F' σ' H' → ExD F' l dx → Post (f c l) A X → W (.ref (He.ga K c.nm)) dx σ' H') → Post m A (fun c l => Post (f c l) A X) → tb W D σ H) :
    tTryX K c0 i tb ts Wout D σ H := by
  refine hb _ (fun c l F' σ' H' dx j ex hf => ⟨true, hx c, fun _ a na => ?_, fun z => by cases z⟩) hm.tr
  have sm := hj _ _ _ j
  refine hs c l F' σ' H' a (upd F' a (ExK (.ref (He.ga K c.nm)) dx a)) _ j (Stp.new sm na) ⟨a, dx, rfl, upd_same, ?_⟩ hf
  exact ExD.up (Stp.new (S := []) sm na).ex ex
end
end DK
set_option maxRecDepth 100000
set_option maxHeartbeats 2000000
/-! DK, fifteenth part: list(reversed(x)). -/
namespace DK
open PySem PySem.Spec PyProof.Rows L2
section
variable {prog : Program} {w : World} {A : Around} {E : Value → Shared → Prop} {s : Shared}
theorem init_revI {R : Result → Shared → Prop} {S it l : Addr} {items : Array Value} (free : A.handled = none) (ri : s.heap.IsRevIter it l ((items.size : Int) - 1)) (li : s.heap.IsList l items) (li_it : l ≠ it) (few : items.size ≤ sizeLine)
    (S_it : S ≠ it) (S_l : S ≠ l) (mt : s.heap.get? S = some { cls := .type "list", data := .seq #[] })
    (fin : ∀ (g : Heap) (tk : Nat) (acc : Array Value) (c : Nat), (∀ b o, b ≠ S → b ≠ it → s.heap.get? b = some o → g.get? b = some o) → g.get? S = some { cls := .type "list", dict := none, data := .seq acc c, slots := #[] } →
      ItemsOf (fun i v => items[items.size - 1 - i]? = some v) acc items.size → R (.ok (.ret .none)) { s with heap := g, toks := tk }) :
    wpAny (model prog w) A.in1 (Builtin.«list.__init__» ⟨[.ref S, .ref it], []⟩)
      (fun f s' => match f with | .done x => R (.ok x) s' | .again c' => c'.quiet = true ∧ codeAny (model prog w) A c' R s') (fun e s' => R (.error e) s') s := by
  have walk := (Walks.listRev (prog := prog) (w := w) (A := A.in1) free it l li_it items).toS
  have notin : S ∉ [it, l] := fun z => by
    rcases List.mem_cons.mp z with e | z
    · exact S_it e
    · exact S_l (List.mem_singleton.mp z)
  show wpAny _ A.in1 (do
    let old ← Builtin.List.listItems (.ref S)
    Builtin.List.listUpdate (.ref S) (fun _ => #[])
    letGo old.toList.reverse
    Builtin.List.listExtendWith (.ref S) (.ref it) .none) _ _ s
  refine wpAny_bind ?_
  unfold Builtin.List.listItems
  refine wpAny_bind (wpAny_seqItems mt rfl (wpAny_pure ?_))
  show wpAny _ A.in1 (updateSeq S (fun _ => #[]) >>= fun _ => letGo (#[] : Array Value).toList.reverse >>= fun _ =>
    Builtin.List.listExtendWith (.ref S) (.ref it) .none) _ _ s
  refine wpAny_bind (wpAny_updateSeq mt rfl ?_)
  have mt2 := Heap.get?_update_self (Obj.mapSeq fun _ => (#[] : Array Value)) mt rfl
  generalize hg : s.heap.update S (Obj.mapSeq fun _ => (#[] : Array Value)) = g at mt2 ⊢
  have rest : ∀ b o, b ≠ S → s.heap.get? b = some o → g.get? b = some o := fun b o n e => by
    rw [← hg]; exact (Heap.get?_update_other _ _ (Ne.symm n)).trans e
  refine wpAny_bind (wpAny_letGo ?_)
  have ri2 : g.IsRevIter it l ((items.size : Int) - 1) := ri.at fun o e => rest it o (Ne.symm S_it) e
  have li2 : g.IsList l items := by
    obtain ⟨o, ho, r⟩ := li
    exact ⟨o, rest l o (Ne.symm S_l) ho, r⟩
  have ty : ({ s with heap := g } : Shared).TypeIs (.ref it) "list_reverseiterator" := Heap.IsRevIter.typeIs (s := { s with heap := g }) ri2
  have apart : Builtin.List.listSameRef (.ref S) (.ref it) = false := by simp [Builtin.List.listSameRef, S_it]
  show wpAny _ A.in1 (Builtin.List.listExtendWith (.ref S) (.ref it) .none) _ _ _
  unfold Builtin.List.listExtendWith
  refine wpAny_bind (wpAny_typeOf ty ?_)
  rw [if_neg (by rw [apart]; decide)]
  refine wpAny_bind (wpAny_pyIter_revIter (s := { s with heap := g }) ri2 ?_)
  refine wpAny_bind (wpAny_holding ?_)
  unfold Builtin.List.listLengthHint
  refine wpAny_bind (wpAny_specialOf ty RT.nolen_lri ?_)
  show wpAny _ A.in1 (specialOf (Value.ref it) (Str.ofString "__length_hint__") >>= _) _ _ _
  refine wpAny_bind (wpAny_specialOf ty RT.hint_lri ?_)
  generalize hint : ("list_reverseiterator.__length_hint__" : String) = k0
  wp_delta
  rw [show splitId k0 = some ("list_reverseiterator", "__length_hint__") from by subst hint; decide +kernel]
  subst hint
  refine wpAny_bind (wpAny_isInstance (b := true) ty (by rw [isSubtype_type]; kernel_rfl) ?_)
  refine wpAny_pure ?_
  rw [if_neg (by decide)]
  have e0 : ((items.size : Nat) : Int) - 1 - ((0 : Nat) : Int) = (items.size : Int) - 1 := by omega
  refine wpAny_pure ⟨plainId_quiet F.plain_extend_loop _, codeAny_extend_loopS walk few _ notin _ items.size 0 _ _ _ rfl (Nat.zero_le _) ⟨Nat.zero_le _, by rw [e0]; exact ri2, li2⟩ mt2 (ItemsOf.nil _) fun s' acc c mv ho its => ?_⟩
  rw [Moved.eq_with mv]
  refine fin s'.heap s'.toks acc c (fun b o n1 n2 e => mv.heap b o (fun z => ?_) (rest b o n1 e)) ho its
  rcases List.mem_cons.mp z with z | z
  · exact n1 z
  · exact n2 (List.mem_singleton.mp z)
theorem call_lstRevI {it l : Addr} {items : Array Value} {Q : Value → Shared → Prop} (free : A.handled = none) (ri : s.heap.IsRevIter it l ((items.size : Int) - 1)) (li : s.heap.IsList l items) (li_it : l ≠ it) (few : items.size ≤ sizeLine)
    (fin : ∀ (g : Heap) (tk : Nat) (acc : Array Value) (c : Nat), (∀ b o, b ≠ it → s.heap.get? b = some o → g.get? b = some o) → g.get? s.heap.objs.size = some { cls := .type "list", dict := none, data := .seq acc c, slots := #[] } →
      ItemsOf (fun i v => items[items.size - 1 - i]? = some v) acc items.size → Q (.ref s.heap.objs.size) { s with heap := g, toks := tk }) :
    wpAny (model prog w) A (call (.type "list") [.ref it]) Q E s := by
  obtain ⟨oi, hoi, _⟩ := id ri
  obtain ⟨ol, hol, _⟩ := id li
  refine callType_codes (Q₁ := fun v t => v = .ref s.heap.objs.size ∧ t = { s with heap := s.heap.push { cls := .type "list", data := .seq #[] } }) F.called_list (F.typeCall_list_1 _) F.entry_list_init
    (code_list_new _ ⟨rfl, rfl⟩) ?_
  rintro v t ⟨rfl, rfl⟩
  have new : (s.heap.push { cls := .type "list", data := .seq #[] }).get? s.heap.objs.size = some { cls := .type "list", data := .seq #[] } := Heap.get?_push_size _ rfl
  refine ⟨⟨_, new, rfl⟩, F.args_list_init_2 _ _, init_revI (A := A.in1) free (ri.at fun o e => Heap.get?_push_of_some _ e) (li.push _) li_it few (Nat.ne_of_gt (Heap.lt_size hoi)) (Nat.ne_of_gt (Heap.lt_size hol)) new ?_⟩
  intro g tk acc c keep ho its
  exact ⟨rfl, fin g tk acc c (fun b o n e => keep b o (Nat.ne_of_lt (Heap.lt_size e)) n (Heap.get?_push_of_some _ e)) ho its⟩
end
/-- list(reversed(x)), x a list: a new list -/
def rLstRev (K : PySem.W.Frag) (v : V) (H : Hp) (Q : VK) : Prop := ∃ (a : Addr) (xs : List V), v = .ref a ∧ SqL K H a xs ∧ ∀ q, H q = none → Q (.ref q) (upd H q (.lst xs.reverse))
def tLstRev (K : PySem.W.Frag) (te : TE) : TE := fun σ H Q => te σ H fun v H1 => rLstRev K v H1 Q
theorem pe_lstRev {X : Cx} {e : Expr} {te : TE} {p p2 pos pos2 : Pos} (calm : X.calm = true) (g1 : Gl X "list") (m1 : X.mg "list" = none) (g2 : Gl X "reversed") (m2 : X.mg "reversed" = none) (he : PE X e te)
    (s1 : starEach [e] X.env = (false, eval e X.env) :: starEach [] X.env := by rfl)
    (s2 : starEach [.Call (.Name "reversed" p2) [e] [] pos2] X.env = (false, eval (.Call (.Name "reversed" p2) [e] [] pos2) X.env) :: starEach [] X.env := by rfl) :
    PE X (.Call (.Name "list" p) [.Call (.Name "reversed" p2) [e] [] pos2] [] pos) (tLstRev X.K te) := by
  refine ⟨fun pins s σ H Q I h => ?_⟩
  refine Call_ (ld_blt I g1 m1 boot_list (PyProof.Rows.callWith_type1 (args_cons (Call_ (ld_blt I g2 m2 PyProof.Rows.boot_reversed (PyProof.Rows.callWith_type1 (args_cons (thn (he.run pins s σ H _ I h) fun u t hx => args_nil ?_) s1) s1 rfl))) s2) s2 rfl))
  obtain ⟨v, H1, J, r1, a, xs, ev, hq, q⟩ := hx
  subst ev
  obtain rfl : u = Value.ref a := r1
  obtain ⟨its, rv, li, few⟩ := J.list hq
  refine call_reversed_list li.isList (args_nil ?_)
  have hl := li.isList
  obtain ⟨ol, hol, _⟩ := id hl
  have ne : a ≠ t.heap.objs.size := Nat.ne_of_lt (Heap.lt_size hol)
  have hn : its.toArray.size ≤ sizeLine := by rw [List.size_toArray, ← rv.length]; exact few
  refine call_lstRevI (s := { t with heap := t.heap.push (revObj a ((its.toArray.size : Int) - 1)) }) (J.ok.hd calm) ⟨_, Heap.get?_push_size _ rfl, rfl, rfl⟩ (hl.push _) ne hn fun g tk acc c keep ho hi => ?_
  have kp : ∀ b u, t.heap.get? b = some u → g.get? b = some u := fun b u e => keep b u (Nat.ne_of_lt (Heap.lt_size e)) (Heap.get?_push_of_some _ e)
  generalize hS : (t.heap.push (revObj a ((its.toArray.size : Int) - 1))).objs.size = S at ho ⊢
  have le : t.heap.objs.size ≤ S := by rw [← hS]; simp [Heap.push]
  exact ⟨.ref S, _, J.laid (t' := tk) kp le (show ObjOk X.prog X.w _ _ _ (.lst xs.reverse) from ⟨by rw [List.length_reverse]; exact few, acc.toList, c, RT.vals_rev rv hi, by rw [Array.toArray_toList]; exact ho⟩), rfl, q S (J.hok.fresh le)⟩
section
variable {α : Type} {F H : Hp} {σ : Sg} {Q : VK} {e : α → Dat} {zs : List α} {v : V} {K : PySem.W.Frag}
theorem st_lstRev {te : TE} (k : te σ H fun v H1 => rLstRev K v H1 Q) : tLstRev K te σ H Q := k
theorem sm_lstRev (s : Same F H) (h : RD F (.lst (zs.map e)) v) (k : KOwn F H (zs.reverse.map e) Q) : rLstRev K v H Q := by
  obtain ⟨a, vs, rfl, h1, h2⟩ := rd_lstV (K := K) s h
  refine ⟨a, vs, rfl, h1, nw_ownK s ?_ k⟩
  rw [List.map_reverse]
  exact h2.rev
end
/-! ### cuts within which a list of ours changes -/
section
variable {α β γ : Type} {F H : Hp} {σ : Sg} {P : β → Prop} {X : Xc → Option Int → Prop}
theorem cutTW {c : TT} {m : Rs (Bool × List α)} {k : Bool × List α → Rs β} {Q : Bool → Hp → Prop} (e : α → Dat) (F H : Hp) (a : Addr) (hm : Post (m.bnd k) P X)
    (h1 : ∀ Q' : Bool → Hp → Prop, (∀ b z ws F' H', Stp [a] F H F' H' → Own F' H' a (.lst ws) → RDs F' (List.map e z) ws → Post (k (b, z)) P X → Q' b H') → Post m (fun b => Post (k b) P X) X → c σ H Q')
    (h2 : ∀ b z ws F' H', Stp [a] F H F' H' → Own F' H' a (.lst ws) → RDs F' (List.map e z) ws → Post (k (b, z)) P X → Q b H') : c σ H Q := h1 Q h2 hm.b
theorem cutBW {c : TE} {m : Rs (Bool × List α)} {k : Bool × List α → Rs β} {Q : VK} (e : α → Dat) (F H : Hp) (a : Addr) (hm : Post (m.bnd k) P X)
    (h1 : ∀ Q' : VK, (∀ b z ws F' H', Stp [a] F H F' H' → Own F' H' a (.lst ws) → RDs F' (List.map e z) ws → Post (k (b, z)) P X → Q' (.bl b) H') → Post m (fun b => Post (k b) P X) X → c σ H Q')
    (h2 : ∀ b z ws F' H', Stp [a] F H F' H' → Own F' H' a (.lst ws) → RDs F' (List.map e z) ws → Post (k (b, z)) P X → Q (.bl b) H') : c σ H Q := h1 Q h2 hm.b
theorem cutXW {c : TE} (f : γ → V) {m : Rs (γ × List α)} {k : γ × List α → Rs β} {Q : VK} (e : α → Dat) (F H : Hp) (a : Addr) (hm : Post (m.bnd k) P X)
    (h1 : ∀ Q' : VK, (∀ b z ws F' H', Stp [a] F H F' H' → Own F' H' a (.lst ws) → RDs F' (List.map e z) ws → Post (k (b, z)) P X → Q' (f b) H') → Post m (fun b => Post (k b) P X) X → c σ H Q')
    (h2 : ∀ b z ws F' H', Stp [a] F H F' H' → Own F' H' a (.lst ws) → RDs F' (List.map e z) ws → Post (k (b, z)) P X → Q (f b) H') : c σ H Q := h1 Q h2 hm.b
theorem cutEW {c : TE} (enc : γ → Dat) {m : Rs (γ × List α)} {k : γ × List α → Rs β} {Q : VK} (e : α → Dat) (F H : Hp) (a : Addr) (hm : Post (m.bnd k) P X)
    (h1 : ∀ Q' : VK, (∀ b u z ws F' H', Stp [a] F H F' H' → RD F' (enc b) u → Own F' H' a (.lst ws) → RDs F' (List.map e z) ws → Post (k (b, z)) P X → Q' u H') → Post m (fun b => Post (k b) P X) X → c σ H Q')
    (h2 : ∀ b u z ws F' H', Stp [a] F H F' H' → RD F' (enc b) u → Own F' H' a (.lst ws) → RDs F' (List.map e z) ws → Post (k (b, z)) P X → Q u H') : c σ H Q := h1 Q h2 hm.b
end
end DK
set_option maxRecDepth 100000
set_option maxHeartbeats 2000000
/-! DK, sixteenth part: data without None; x += y. -/
namespace DK
open PySem PySem.Spec PyProof.Rows L2
mutual
def nn : Dat → Bool
  | .non => false
  | .lst ds => nns ds
  | .tup ds => nns ds
  | _ => true
def nns : List Dat → Bool
  | [] => true
  | d :: ds => nn d && nns ds
end
theorem nns_mem : ∀ {ds : List Dat} {d : Dat}, nns ds = true → d ∈ ds → nn d = true
  | e :: es, d, h, m => by
    simp only [nns, Bool.and_eq_true] at h
    rcases List.mem_cons.mp m with rfl | m
    · exact h.1
    · exact nns_mem h.2 m
section
variable {α β γ δ ε : Type} {e : α → Dat}
def NnE (e : α → Dat) : Prop := ∀ x, nn (e x) = true
theorem NnE.int : NnE Dat.int := fun x => by simp only [nn]
theorem NnE.bl : NnE Dat.bl := fun x => by simp only [nn]
theorem NnE.str : NnE Dat.str := fun x => by simp only [nn]
theorem NnE.maps (h : NnE e) : ∀ xs : List α, nns (xs.map e) = true
  | [] => by simp only [List.map_nil, nns]
  | x :: xs => by simp only [List.map_cons, nns, h x, NnE.maps h xs, Bool.and_self]
theorem NnE.eL (h : NnE e) : NnE (eL e) := fun xs => by simp only [DK.eL, nn]; exact h.maps xs
theorem NnE.eT (h : NnE e) : NnE (eT e) := fun xs => by simp only [DK.eT, nn]; exact h.maps xs
theorem NnE.eQ {b : Bool} (h : NnE e) : NnE (eQ b e) := fun xs => by
  cases b
  · simp only [DK.eQ, nn]; exact h.maps xs
  · simp only [DK.eQ, nn]; exact h.maps xs
theorem NnE.eP {g : β → Dat} (h : NnE e) (h' : NnE g) : NnE (eP e g) := fun p => by simp only [DK.eP, nn, nns, h p.1, h' p.2, Bool.and_self]
theorem NnE.eP3 {g : β → Dat} {f : γ → Dat} (h : NnE e) (h' : NnE g) (h'' : NnE f) : NnE (eP3 e g f) := fun p => by simp only [DK.eP3, nn, nns, h p.1, h' p.2.1, h'' p.2.2, Bool.and_self]
theorem NnE.eP4 {g : β → Dat} {f : γ → Dat} {k : δ → Dat} (h : NnE e) (h' : NnE g) (h'' : NnE f) (h3 : NnE k) : NnE (eP4 e g f k) := fun p => by simp only [DK.eP4, nn, nns, h p.1, h' p.2.1, h'' p.2.2.1, h3 p.2.2.2, Bool.and_self]
end
/-- a name that may be unset -/
def RDo {α : Type} (F : Hp) (e : α → Dat) (z : Option α) (o : Option V) : Prop := match z with
  | none => True
  | some x => ∃ u, o = some u ∧ RD F (e x) u
theorem RDo.up {α : Type} {F F' H H' : Hp} {S : List Addr} {e : α → Dat} {z : Option α} {o : Option V} (s : Stp S F H F' H') (h : RDo F e z o) : RDo F' e z o := by
  cases z with
  | none => trivial
  | some x =>
    obtain ⟨u, q, r⟩ := h
    exact ⟨u, q, s.up r⟩
section
variable {σ : Sg} {H : Hp} {D : Ends}
theorem st_augI {t : Nat} {te : TE} {i : Int} (k : te σ H fun y H1 => ipI (fun i j => i + j) (.int i) y H1 fun z H2 => D.nx (σ.set t (some z)) H2) (h : σ[t]? = some (some (.int i)) := by rfl) : tAug t te (ipI fun i j => i + j) D σ H := ⟨_, h, k⟩
theorem st_ipI {i j : Int} {Q : VK} (k : Q (.int (i + j)) H) : ipI (fun i j => i + j) (.int i) (.int j) H Q := ⟨i, j, rfl, rfl, k⟩
end
end DK
set_option maxRecDepth 100000
set_option maxHeartbeats 2000000
/-! DK, seventeenth part: a def called with the error that is handled; a comprehension over a range there. -/
namespace DK
open PySem PySem.Spec PyProof.Rows L2 L2H
theorem _root_.L2H.RoomH.units {k : Nat} {A : Around} (r : RoomH k A) : A.units + 64 < cLine := by have := r.un; omega
/-! ### a range walked while an error is handled -/
section
variable {X : Cx} {pins : List (Addr × Obj)} {σ : L2.St} {H : Hp} {s : Shared} {E : Value → Shared → Prop} {tg : Expr} {it : Addr} {n i : Nat}
theorem rng_item (I : Inv X pins σ H s) (f : FpOk X pins H it) (st : IsRangeIter s.heap it (0 + (i : Nat) * 1) ((n : Int) - (i : Nat)) 1) (lt : i < n) :
    wpAny (model X.prog X.w) X.A (pyNext (.ref it)) (fun r s1 => ∃ u, r = some u ∧ wpAny (model X.prog X.w) X.A (letOwnedTupleGo tg (.ref it) u) (fun _ s2 => Inv X pins σ H s2 ∧ RelV (.int (0 + (i : Nat))) u ∧ IsRangeIter s2.heap it (0 + ((i + 1 : Nat) : Int) * 1) ((n : Int) - ((i + 1 : Nat) : Int)) 1) E s1) E s := by
  obtain ⟨g0, g1, g2, g3, g4, g5⟩ := f
  refine wpAny_pyNext_range_item st (by omega) fun g sg sb => ?_
  rw [show (0 : Int) + (i : Nat) * 1 + 1 = 0 + ((i + 1 : Nat) : Int) * 1 by omega, show (n : Int) - (i : Nat) - 1 = (n : Int) - ((i + 1 : Nat) : Int) by omega] at sg
  have J : Inv X pins σ H { s with heap := g, toks := s.toks + 1 } := I.turned (fun b o nb e => (sb.2 b nb).trans e) g0 g1 g3 g4 g5
  exact ⟨_, rfl, go_of (s := { s with heap := g, toks := s.toks + 1 }) (n := "range_iterator") sg rfl rfl (by decide) ⟨J, ⟨s.toks, by rw [Int.mul_one]⟩, sg⟩⟩
theorem rng_done {x1 : Addr} (hot : HotX.HotAt X.A x1 s.heap) (I : Inv X pins σ H s) (f : FpOk X pins H it) (st : IsRangeIter s.heap it (0 + (i : Nat) * 1) ((n : Int) - (i : Nat)) 1) (ge : n ≤ i) :
    wpAny (model X.prog X.w) X.A (pyNext (.ref it)) (fun r s1 => r = none ∧ Inv X pins σ H s1) E s := by
  obtain ⟨g0, g1, g2, g3, g4, g5⟩ := f
  exact HotX.pyNext_range_end_hot hot st (by omega) fun g kp => ⟨rfl, I.turned (t' := s.toks) (fun b o _ e => kp b o e) g0 g1 g3 g4 g5⟩
/-- range(e): the iterator stands -/
theorem rng_open {a0 : Expr} {ta : TA} {p pos : Pos} {R : It → Hp → Prop} (hg : Gl X "range") (hm : X.mg "range" = none) (ha : PA X [a0] ta) (I : Inv X pins σ H s) (h : iRng1 ta σ H R) (hs : starEach [a0] X.env = [(false, eval a0 X.env)] := by rfl) :
    wpAny (model X.prog X.w) X.A (eval (.Call (.Name "range" p) [a0] [] pos) X.env) (fun v t => wpAny (model X.prog X.w) X.A (pyIter v)
      (fun w u => ∃ (it : Addr) (n : Nat) (H' : Hp), w = .ref it ∧ Inv X pins σ H' u ∧ IsRangeIter u.heap it (0 + ((0 : Nat) : Int) * 1) ((n : Int) - ((0 : Nat) : Int)) 1 ∧ FpOk X pins H' it ∧ R (Itr 0 n) H') X.xe t) X.xe s := by
  refine Call_ (ld_blt I hg hm boot_range (PyProof.Rows.callWith_type1 (thn (ha.run pos pins s σ H _ I h) ?_) hs rfl))
  rintro us t ⟨vs, H1, J, r1, j, rfl, j0, j1, q⟩
  cases r1 with
  | cons r rr =>
    cases rr
    obtain ⟨tk, rfl⟩ := r
    refine call_range_1 ?_
    refine wpAny_pyIter_range (IsRange.new ..) (small_one (by decide) (by decide) j0 j1) ?_
    have J1 := J.kept (t' := t.toks + 1 + 1) (h' := t.heap.push { cls := .type "range", data := .fields #[.int 0 t.toks, .int j tk, .int 1 (t.toks + 1)] }) fun b o e => Heap.get?_push_of_some _ e
    refine ⟨_, j.toNat, H1, rfl, J1.kept (t' := _) fun b o e => Heap.get?_push_of_some _ e, ?_, J1.fpOk (Nat.le_refl _) (J1.hok.fresh (Nat.le_refl _)), q⟩
    have e2 : ((j.toNat : Nat) : Int) - ((0 : Nat) : Int) = Builtin.Range.rangeSize 0 j 1 := by rw [rangeSize_one]; split <;> omega
    rw [e2, show (0 : Int) + ((0 : Nat) : Int) * 1 = 0 by decide]
    exact Heap.get?_push_size _ rfl
end
/-! [elt for tg in range(e) if ..], an error p handled -/
section
variable {X : Cx}
theorem lcHot_core {p : Addr × Obj} {pins : List (Addr × Obj)} {s : Shared} {σ : L2.St} {H : Hp} {Q : VK} {use : Option (Value → Sem Unit)} {Qf : Value → Shared → Prop} {pos' : Pos} {elt tg a0 : Expr} {ifs : List Expr} {scope : Scope} {own : List (Str × Nat)} {rp rpos pos : Pos} {ta : TA} {g : TG} {tt : TT} {te : TE} (hot : Hot1 X.A p) (hp : p ∈ X.pn) (hN : X.N.Nodup) (I : Inv X pins σ H s) (rg : Gl X "range") (rm : X.mg "range" = none) (ha : PA X [a0] ta)
    (ok : BlkOk X.N X.env.scope scope own)
    (hg : ∀ (s : Shared) (H : Hp) (C : Addr) (cl : List (Str × Addr)) (fp : List Addr), PG (X.blk s H scope (compEnvC scope cl C X.env) fp) tg g)
    (ht : ∀ (s : Shared) (H : Hp) (C : Addr) (cl : List (Str × Addr)) (fp : List Addr), PTs (X.blk s H scope (compEnvC scope cl C X.env) fp) ifs tt)
    (he : ∀ (s : Shared) (H : Hp) (C : Addr) (cl : List (Str × Addr)) (fp : List Addr), PE (X.blk s H scope (compEnvC scope cl C X.env) fp) elt te)
    (hs : ∀ x, foldedSetIterable (.Call (.Name "range" rp) [a0] [] rpos) X.env x = pure x) (hst : starEach [a0] X.env = [(false, eval a0 X.env)]) (h : tLc (iRng1 ta) g tt te (own.map (·.2)) σ H Q)
    (ends : ∀ D C t m H', Inv X pins σ H' t → Q (.ref D) H' → t.heap.Ns C m → FpOk X pins H' C → compPost (model X.prog X.w) X.A X.xe use Qf (.ref D) C (.ok .next) t) :
    wpAny (model X.prog X.w) X.A (comprehension (.ListComp elt [⟨tg, .Call (.Name "range" rp) [a0] [] rpos, ifs, 0⟩] scope pos) scope X.env pos' (newList []) false (eval (.Call (.Name "range" rp) [a0] [] rpos) X.env) use) Qf X.xe s := by
  have closed : ∀ y ∈ scope.names, y.2 = .free → ∃ c, X.env.cells.lookup y.1 = some c := fun y hy e => (ok.free y hy e).elim (fun k => I.ok.has _ (.inl k)) fun k => I.ok.has _ (.inr k)
  refine wpAny_comprehension_free (use := use) rfl hs (closure_ok closed) ok.kind (fun y hy e => by rw [ok.uniq y hy, e]) (thn (rng_open rg rm ha I h hst) fun xv s1 hx => thn hx ?_)
  rintro itv s2 ⟨it, n, H2, rfl, J2, r2, f2, q⟩
  refine wpAny_newObj_type (newEnv_comp ?_) (Nat.zero_le _)
  generalize eD : s2.heap.objs.size = D
  obtain ⟨W, ⟨m0, w0⟩, turn⟩ := q D (J2.hok.fresh (Nat.le_of_eq eD))
  obtain ⟨oit, git⟩ : ∃ o, s2.heap.get? it = some o := ⟨_, r2⟩
  have itlt := Heap.lt_size git
  generalize e3 : ({ s2 with heap := s2.heap.push { cls := .type "list", data := .seq ([] : List Value).toArray } } : Shared) = s3
  have hp3 : s3.heap = s2.heap.push { cls := .type "list", data := .seq ([] : List Value).toArray } := by rw [← e3]
  have J3 : Inv X pins σ (upd H2 D (.lst [])) s3 := by
    subst e3 eD
    exact J2.laid (t' := s2.toks) (fun b o e => Heap.get?_push_of_some _ e) (Nat.le_refl _) ⟨Nat.zero_le _, [], 0, .nil, Heap.get?_push_size _ rfl⟩
  have n3 : upd H2 D (.lst []) it = none := by rw [upd_ne (by rw [← eD]; exact Nat.ne_of_lt itlt)]; exact f2.1
  have f3 : ∀ b ∈ [it], FpOk X pins (upd H2 D (.lst [])) b ∧ b < s3.heap.objs.size := fun b hb => by
    obtain rfl := List.mem_singleton.mp hb
    exact ⟨⟨n3, f2.2⟩, by rw [hp3, Heap.size_push]; exact Nat.lt_succ_of_lt itlt⟩
  have r3 : IsRangeIter s3.heap it (0 + ((0 : Nat) : Int) * 1) ((n : Int) - ((0 : Nat) : Int)) 1 := by rw [hp3]; exact Heap.get?_push_of_some _ r2
  have J4 := block_start J3 ok hN f3
  have bg := hg s3 (upd H2 D (.lst [])) s3.heap.objs.size (cellsFrom (s3.heap.objs.size + 1) scope.names (cloFrom X.env.cells scope.names [])) [it]
  have bt := ht s3 (upd H2 D (.lst [])) s3.heap.objs.size (cellsFrom (s3.heap.objs.size + 1) scope.names (cloFrom X.env.cells scope.names [])) [it]
  have be := he s3 (upd H2 D (.lst [])) s3.heap.objs.size (cellsFrom (s3.heap.objs.size + 1) scope.names (cloFrom X.env.cells scope.names [])) [it]
  change codeAny _ _ (.compStart (.ListComp elt [⟨tg, .Call (.Name "range" rp) [a0] [] rpos, ifs, 0⟩] scope pos) 0 (.ref it) (.ref D) (compEnvC scope (cellsFrom (s3.heap.objs.size + 1) scope.names (cloFrom X.env.cells scope.names [])) s3.heap.objs.size X.env))
    (compPost (model X.prog X.w) X.A X.xe use Qf (.ref D) s3.heap.objs.size) { s3 with heap := pushCells (s3.heap.push { cls := .type "dict", data := .dict #[] }) scope.names }
  generalize hce : compEnvC scope (cellsFrom (s3.heap.objs.size + 1) scope.names (cloFrom X.env.cells scope.names [])) s3.heap.objs.size X.env = ce at J4 bg bt be ⊢
  have ceL : ce.locals = s3.heap.objs.size := by rw [← hce]; rfl
  generalize hH3 : upd H2 D (.lst []) = H3 at J3 J4 bg bt be w0 n3 f3
  generalize e4 : ({ s3 with heap := pushCells (s3.heap.push { cls := .type "dict", data := .dict #[] }) scope.names } : Shared) = s4 at J4 ⊢
  have r4 : IsRangeIter s4.heap it (0 + ((0 : Nat) : Int) * 1) ((n : Int) - ((0 : Nat) : Int)) 1 := by rw [← e4]; exact pushCells_keeps _ _ _ _ (Heap.get?_push_of_some _ r3)
  -- the handled error, out of the block's reach
  obtain ⟨hh, vs1, dp, cp⟩ := id hot
  have P3 := J3.pin p (List.mem_append_left _ hp)
  have pit : p.1 ∉ [it] := fun z => f2.2.2.2.2.2 p (List.mem_append_left _ hp) (List.mem_singleton.mp z)
  have warm : ∀ {σ' : L2.St} {H' : Hp} {s' : Shared} {ps : List (Addr × Obj)}, Inv (X.blk s3 H3 scope ce [it]) ps σ' H' s' → HotX.HotAt X.A p.1 s'.heap := fun B => by
    obtain ⟨sl, g⟩ := B.base.any P3.1 P3.2.1 pit
    exact ⟨hh, _, vs1, g, dp, cp⟩
  have still : ∀ {σ' : L2.St} {H' : Hp} {s' : Shared}, Inv (X.blk s3 H3 scope ce [it]) [] σ' H' s' → H' it = none → FpOk (X.blk s3 H3 scope ce [it]) [] H' it := fun B z =>
    ⟨z, (B.ok.exf it List.mem_cons_self).1, B.ok.exfs it List.mem_cons_self, .inl List.mem_cons_self, fun x c e => (B.ok.exf it List.mem_cons_self).2 x c e, fun q hq => absurd (show q ∈ ([] : List (Addr × Obj)) ++ [] from hq) (by simp)⟩
  have loop : codeAny (model X.prog X.w) X.A (.compLoop (.ListComp elt [⟨tg, .Call (.Name "range" rp) [a0] [] rpos, ifs, 0⟩] scope pos) 0 (.ref it) (.ref D) ce) (compPost (model X.prog X.w) X.A X.xe use Qf (.ref D) s3.heap.objs.size) s4 := by
    refine compLoop_any (fun m t => ∃ (i : Nat) (H' : Hp), Inv (X.blk s3 H3 scope ce [it]) [] (wipe σ (own.map (·.2))) H' t ∧ IsRangeIter t.heap it (0 + (i : Nat) * 1) ((n : Int) - (i : Nat)) 1 ∧ H' it = none ∧ W i m H') ?_ m0 ⟨0, H3, J4, r4, n3, w0⟩
    rintro m t5 ⟨i, H5, B5, r5, n5, w5⟩
    rcases turn i m H5 w5 with ⟨stop, fin⟩ | ⟨go, Nx, less, step⟩
    · refine thnF (rng_done (X := X.blk s3 H3 scope ce [it]) (E := fun _ _ => False) (warm B5) B5 (still B5 n5) r5 stop) ?_
      rintro r t6 ⟨rfl, B6⟩
      have J7 : Inv X pins σ H5 t6 := J3.call' (ch := [it]) B6.os B6.base B6.hok B6.bare fun b hb => by
        have z := (f3 b hb).1
        exact ⟨z.2.2.2.1, z.2.1, z.2.2.2.2.1, z.2.2.2.2.2⟩
      have none5 : H5 s3.heap.objs.size = none := ceL ▸ (show H5 ce.locals = none from B6.free)
      obtain ⟨mm, hns, _⟩ := B6.loc
      have hns : t6.heap.Ns s3.heap.objs.size mm := ceL ▸ (show t6.heap.Ns ce.locals mm from hns)
      exact ends D s3.heap.objs.size t6 mm H5 J7 fin hns (J3.fpOk (Nat.le_refl _) none5)
    · refine thnF (rng_item (X := X.blk s3 H3 scope ce [it]) (E := fun _ _ => False) (tg := tg) B5 (still B5 n5) r5 go) ?_
      rintro r t6 ⟨u, rfl, h6⟩
      refine thnF h6 fun _ t7 h7 => ?_
      obtain ⟨B7, rv, r7⟩ := h7
      have here : ∀ b ∈ [it], ∃ o, t7.heap.get? b = some o ∧ ∀ v, o.data ≠ .cell v := fun b hb => by
        obtain rfl := List.mem_singleton.mp hb
        exact ⟨_, r7, fun v z => nomatch z⟩
      have B7' := B7.pinned (fp := [it]) (fun b hb => by obtain rfl := List.mem_singleton.mp hb; exact still B7 n5) here
      refine thnF (bg.run _ t7 _ H5 _ u _ B7' rv (step _ H5 ⟨rfl, rfl⟩)) ?_
      rintro _ t8 ⟨σ8, H8, B8, wp8, q8⟩
      refine thnF (bt.run _ t8 σ8 H8 _ B8 q8) ?_
      rintro b t9 ⟨H9, B9, q9⟩
      have on : ∀ {t' : Shared} {H' : Hp}, Inv (X.blk s3 H3 scope ce [it]) ([] ++ pinsAt [it] t7.heap) σ8 H' t' → Nx H' →
          ∃ m', m' < m ∧ ∃ (i : Nat) (H' : Hp), Inv (X.blk s3 H3 scope ce [it]) [] (wipe σ (own.map (·.2))) H' t' ∧ IsRangeIter t'.heap it (0 + (i : Nat) * 1) ((n : Int) - (i : Nat)) 1 ∧ H' it = none ∧ W i m' H' := fun {t' H'} B' nx => by
        obtain ⟨m', lt, w'⟩ := less H' nx
        have z := B'.pin (it, _) (List.mem_append_right _ (List.mem_append_right _ (mem_pinsAt List.mem_cons_self r7)))
        refine ⟨m', lt, i + 1, H', (B'.unpinned (pins := [])).weak (by rw [← wp8, wipe_length]) (fun j v e => ?_), z.1, z.2.1, w'⟩
        rw [← wp8] at e
        exact (wipe_some e).1
      cases b with
      | false =>
        simp only [Bool.false_eq_true, if_false] at q9 ⊢
        exact on B9 q9
      | true =>
        simp only [if_true] at q9 ⊢
        refine thnF (be.run _ t9 σ8 H9 _ B9 q9) ?_
        rintro z t10 ⟨yv, H10, B10, r10, acc, hacc, few, nx⟩
        exact app_ok (X := X.blk s3 H3 scope ce [it]) B10 hacc few r10 fun t11 B11 => on B11 nx
  exact codeAny_compStart_list loop (wpAny_pyIter_rangeiter r4 loop)
theorem pe_lcHot {p : Addr × Obj} {elt tg a0 : Expr} {ifs : List Expr} {scope : Scope} {own : List (Str × Nat)} {rp rpos pos : Pos} {ta : TA} {g : TG} {tt : TT} {te : TE} (hot : Hot1 X.A p) (hp : p ∈ X.pn) (hN : X.N.Nodup) (rg : Gl X "range") (rm : X.mg "range" = none) (ha : PA X [a0] ta)
    (ok : BlkOk X.N X.env.scope scope own)
    (hg : ∀ (s : Shared) (H : Hp) (C : Addr) (cl : List (Str × Addr)) (fp : List Addr), PG (X.blk s H scope (compEnvC scope cl C X.env) fp) tg g)
    (ht : ∀ (s : Shared) (H : Hp) (C : Addr) (cl : List (Str × Addr)) (fp : List Addr), PTs (X.blk s H scope (compEnvC scope cl C X.env) fp) ifs tt)
    (he : ∀ (s : Shared) (H : Hp) (C : Addr) (cl : List (Str × Addr)) (fp : List Addr), PE (X.blk s H scope (compEnvC scope cl C X.env) fp) elt te)
    (hs : ∀ x, foldedSetIterable (.Call (.Name "range" rp) [a0] [] rpos) X.env x = pure x := by intro _; rfl) (hst : starEach [a0] X.env = [(false, eval a0 X.env)] := by rfl) :
    PE X (.ListComp elt [⟨tg, .Call (.Name "range" rp) [a0] [] rpos, ifs, 0⟩] scope pos) (tLc (iRng1 ta) g tt te (own.map (·.2))) := by
  constructor
  intro pins s σ H Q I h
  rw [eval_ListComp]
  refine lcHot_core hot hp hN I rg rm ha ok hg ht he hs hst h ?_
  intro D C t m H' J q hn f
  obtain ⟨g0, g1, g2, g3, g4, g5⟩ := f
  exact ⟨m, hn, fun h'' sb => ⟨.ref D, H', J.turned (t' := t.toks) (fun b o hb e => (sb.2 b hb).trans e) g0 g1 g3 g4 g5, rfl, q⟩⟩
/-- x = [..] on one line -/
theorem ps_setLcHot {i : Nat} {y : Str} {py spos : Pos} {p : Addr × Obj} {elt tg a0 : Expr} {ifs : List Expr} {scope : Scope} {own : List (Str × Nat)} {rp rpos pos : Pos} {ta : TA} {g : TG} {tt : TT} {te : TE} (hy : X.N[i]? = some y) (hyl : X.env.scope.names.lookup y = some .local)
    (hsw : swapsWith (.ListComp elt [⟨tg, .Call (.Name "range" rp) [a0] [] rpos, ifs, 0⟩] scope pos) (some (.Name y py)) spos.line X.env = pure true) (hot : Hot1 X.A p) (hp : p ∈ X.pn) (hN : X.N.Nodup) (rg : Gl X "range") (rm : X.mg "range" = none) (ha : PA X [a0] ta)
    (ok : BlkOk X.N X.env.scope scope own)
    (hg : ∀ (s : Shared) (H : Hp) (C : Addr) (cl : List (Str × Addr)) (fp : List Addr), PG (X.blk s H scope (compEnvC scope cl C X.env) fp) tg g)
    (ht : ∀ (s : Shared) (H : Hp) (C : Addr) (cl : List (Str × Addr)) (fp : List Addr), PTs (X.blk s H scope (compEnvC scope cl C X.env) fp) ifs tt)
    (he : ∀ (s : Shared) (H : Hp) (C : Addr) (cl : List (Str × Addr)) (fp : List Addr), PE (X.blk s H scope (compEnvC scope cl C X.env) fp) elt te)
    (hs : ∀ x, foldedSetIterable (.Call (.Name "range" rp) [a0] [] rpos) X.env x = pure x := by intro _; rfl) (hst : starEach [a0] X.env = [(false, eval a0 X.env)] := by rfl) :
    PS X (.Assign [.Name y py] (.ListComp elt [⟨tg, .Call (.Name "range" rp) [a0] [] rpos, ifs, 0⟩] scope pos) spos) (tAsg (tLc (iRng1 ta) g tt te (own.map (·.2))) (gName i)) := by
  constructor
  intro pins s σ H D I h
  rw [exec_Assign_Name_used _ _ _ _ hsw]
  refine wpAny_bind (wpAny_standAt (wpAny_bind ?_))
  have h' : tLc (iRng1 ta) g tt te (own.map (·.2)) σ H (fun x H1 => gName i x σ H1 D.nx) := h
  refine wpAny_bind (thn (lcHot_core (Qf := fun _ t => SP X pins D .next t) hot hp hN I rg rm ha ok hg ht he hs hst h' ?_) fun _ t q => wpAny_pure (wpAny_pure q))
  intro L C t m H' J q hn f
  obtain ⟨g0, g1, g2, g3, g4, g5⟩ := f
  change wpAny _ _ (assign (.Name y py) X.env (.ref L)) _ _ _
  refine wpAny_assign_Name (store_ok2 (v := V.ref L) J hN hy (.inl hyl) rfl (fun t2 J2 hsome => ?_) (.inr hyl))
  obtain ⟨b, sb, hb⟩ := hsome
  have apart : C ≠ b := hb.elim (fun z => z ▸ g1) fun z e => g4 y b z e.symm
  exact ⟨m, hn.sameBut sb apart, fun h3 sb3 => ⟨_, H', J2.turned (t' := t2.toks) (fun b o hb e => (sb3.2 b hb).trans e) g0 g1 g3 g4 g5, q⟩⟩
end
/-! ### a def called with the handled error -/
structure FnE (P : Program) (w : World) (K : PySem.W.Frag) (mg : Str → Option Value) (base : Heap) (k : Nat) (f : Addr) (fd : FuncData) (ps : List Str) (sp : Addr → Addr → Sp) : Prop where
  len : ∀ a D vs H Q E, sp a D vs H Q E → vs.length = ps.length
  run : ∀ (A : Around) (outer : List Env) (s : Shared) (H : Hp) (us : List Value) (vs : List V) (Q : VK) (E : XK) (a D : Addr) (oe : Obj), RoomH k A → Hot1 A (a, oe) → L2N.Zn (.ref D) none oe → PinOk outer H s (a, oe) → Env0 P w K mg base A outer s H →
    BindsTo s fd ⟨us, []⟩ (ps.zip us) → Vals vs us → sp a D vs H Q E → codeAny (model P w) A (.call (.ref f) ⟨us, []⟩) (CR (L2N.CX P w) outer P w H s Q E) s
theorem FunD.okE {P : Program} {w : World} {K : PySem.W.Frag} {mg : Str → Option Value} {base : Heap} {x qual : Str} {params : Arguments} {body : List Stmt} {scope : Scope} {dvs : List V} {kws : List (Str × V)} {f : Addr} {fd : FuncData} {N ps : List Str} {k : Nat} {sp : Addr → Addr → Sp}
    (F : FunD K x qual params body scope dvs kws f fd) (S : FnScope N ps scope) (len : ∀ a D vs H Q E, sp a D vs H Q E → vs.length = ps.length)
    (hbody : ∀ (cdv : Value) (A : Around) (outer : List Env) (s : Shared) (H : Hp) (vs : List V) (Q : VK) (E : XK) (a D : Addr) (oe : Obj), Hot1 A (a, oe) → L2N.Zn (.ref D) none oe → RoomH k (A.deeper (envOfC qual scope s.heap.objs.size f cdv)) → sp a D vs H Q E →
      ∃ t, PSs (cxH (L2N.CX P w) P w K mg base N qual scope f cdv A outer s H E (a, oe)) body t ∧ t { nx := fun _ H' => Q .non H', rt := Q } (start N vs) H) : FnE P w K mg base (k + 1) f fd ps sp := by
  obtain ⟨oc, od, dV, kV, doc, pm, an, cdv, ct, osl, rfl, lk, hcd, _, _⟩ := F.ex
  refine ⟨len, ?_⟩
  intro A outer s H us vs Q E a D oe room hot zn pin env bind rv wish
  have many := len _ _ _ _ _ _ wish
  have kin : K.In s.heap := env.mod.kin.keeps fun b o e => (env.bs b o e).1
  have nolim : s.heap.NoLimit := env.mod.nolimit.keeps fun b o e => (env.bs b o e).1
  have kinds : ∀ y ∈ ps.zip us, scope.names.lookup y.1 = some .local ∨ (scope.names.lookup y.1 = some .cell ∧ ((cellsFrom (s.heap.objs.size + 1) scope.names []).lookup y.1).isSome = true) := by
    rintro ⟨n, v⟩ hy
    exact (S.par n (List.of_mem_zip hy).1).imp id fun q => ⟨q, PySem.W.cellsFrom_some _ _ _ (.inl q)⟩
  refine codeAny_call_function room.depth (kin _ _ lk) rfl S.co S.gen rfl (PySem.W.codeRec_of kin hcd) (bind _ _ _ _ ?_)
  refine wpAny_newFunctionEnv_cells S.kind kinds ?_
  rintro en rfl s1 x
  refine ⟨nolim.keeps x.toInCall.keep, codeAny_func ?_⟩
  obtain ⟨t, der, owed⟩ := hbody cdv A outer s H vs Q E a D oe hot zn (room.deeper _) wish
  have J := inv_startH (CX := L2N.CX P w) (cd := cdv) (f := f) (qual := qual) (E := E) (A := A) S pin env many rv x
  refine wpAny_mono (der.run [] s1 (L2.start N vs) H _ J owed) ?_ fun _ _ z => z
  rintro (_ | u | _ | _) t' q
  · obtain ⟨σ', H', J', q⟩ := q
    exact ⟨V.non, H', J'.os, J'.bare, J'.base, J'.hok, rfl, q⟩
  all_goals first
    | (obtain ⟨v, σ', H', J', r, q⟩ := q; exact ⟨v, H', J'.os, J'.bare, J'.base, J'.hok, r, q⟩)
    | (obtain ⟨_, _, _, q⟩ := q; exact (show False from q).elim)
def CalE (P : Program) (w : World) (K : PySem.W.Frag) (mg : Str → Option Value) (base : Heap) (x : Str) (k : Nat) (ps : List Str) (sp : Addr → Addr → Sp) : Prop :=
  ∃ fd : FuncData, FnE P w K mg base k (He.ga K x) fd ps sp ∧ mg x = some (.ref (He.ga K x)) ∧ PySem.W.keepIn K (.ref (He.ga K x)) = true ∧ Binds K fd ps []
section
variable {X : Cx} {k : Nat} {ps : List Str} {sp : Addr → Addr → Sp} {x : Str} {q pos : Pos} {e : Expr} {es : List Expr} {t : TA} {a D : Addr} {oe : Obj} {pn : List (Addr × Obj)}
theorem hot_suite (zn : L2N.Zn (.ref D) none oe) (hf : ∃ vs, oe.data = .fields vs) : Hot1 (X.suite a ((a, oe) :: pn)).A (a, oe) := by
  obtain ⟨vs, e⟩ := hf
  exact ⟨rfl, vs, e, zn.2.2 vs e⟩
theorem pe_callE (c : CalE X.prog X.w X.K X.mg X.base x k ps sp) (hr : Room k X.A) (zn : L2N.Zn (.ref D) none oe) (hf : ∃ vs, oe.data = .fields vs) (hg : Gl (X.suite a ((a, oe) :: pn)) x)
    (ha : PA (X.suite a ((a, oe) :: pn)) (e :: es) t) (hdb : (x == ("__debug__" : Str)) = false := by decide) (he : starEach (e :: es) X.env = (false, eval e X.env) :: starEach es X.env := by rfl) (hpl : (backTo pos (starEach es X.env)).any (·.1) = false := by rfl) :
    PE (X.suite a ((a, oe) :: pn)) (.Call (.Name x q) (e :: es) [] pos) (tCall (sp a D) [] E0 t) := by
  obtain ⟨fd, F, hm, hk, hb⟩ := c
  refine ⟨fun pins s σ H Q I h => wpAny_Call_Name_kw (ld_glob I hg hm ?_ hdb)⟩
  refine PySem.W.callWith_K (h₀ := X.base) I.ok.mod.kin hk (thn (ha.run pos pins s σ H _ I h) ?_) he hpl
  rintro us s1 ⟨vs, H1, J, r, wish⟩
  refine ⟨J.kIn, ?_⟩
  rw [List.append_nil] at wish
  have many : us.length = ps.length := by rw [← r.length]; exact F.len _ _ _ _ _ _ wish
  have bind := hb s1 us J.kIn (by rw [List.append_nil]; exact many)
  rw [List.append_nil] at bind
  have P1 := J.pin (a, oe) (List.mem_append_left _ List.mem_cons_self)
  have pin : PinOk (X.suite a ((a, oe) :: pn)).stack H1 s1 (a, oe) := ⟨P1.1, P1.2.1, fun hm => (List.mem_cons.mp (J.stkSub a hm)).elim P1.2.2.1 P1.2.2.2.1, P1.2.2.2.2⟩
  have room : RoomH k (X.suite a ((a, oe) :: pn)).A := ⟨hr.dp, hr.un⟩
  refine wpAny_call (codeAny_mono (F.run _ _ s1 H1 us vs Q E0 a D oe room (hot_suite zn hf) zn pin J.env0 bind r wish) ?_)
  rintro (er | fl) t' hq
  · exact passLN (X := X.suite a ((a, oe) :: pn)) pins σ H1 s1 er t' J hq
  · cases fl with
    | ret u => exact J.after hq
    | next => exact (show False from hq).elim
    | brk => exact (show False from hq).elim
    | cont => exact (show False from hq).elim
end
def rIsP (K : PySem.W.Frag) (a D : Addr) : List V → Hp → VK → Prop := fun xs H Q => ∃ (c : V) (u : Value) (b : Bool), xs = [.ref a, c] ∧ ClsV c u ∧ ExcC K D ∧ PySem.W.kitOne K (.ref D) u = some b ∧ Q (.bl b) H
theorem call_isP {X : Cx} {D : Addr} {p : Addr × Obj} (hp : p ∈ X.pn) (zn : L2N.Zn (.ref D) none p.2) (hot : Hot1 X.A p) : CallR X (.builtin "isinstance") (rIsP X.K p.1 D) := by
  intro pins s σ H xs us Q I r h
  obtain ⟨c, u, b, rfl, k, C, e, q⟩ := h
  obtain ⟨u1, u2, rfl, r1, r2⟩ := vals2 r
  have e2 := k.eq r2
  subst e2
  cases (show u1 = Value.ref p.1 from r1)
  have ho := (I.pin p (List.mem_append_left _ hp)).1
  obtain ⟨_, vs, hd, _⟩ := hot
  obtain ⟨h1, h2, _⟩ := zn
  have J : PySem.W.InstAt s.heap p.1 p.2 D none := by
    obtain ⟨pa, oc, od, oda, osl⟩ := p
    dsimp only at h1 h2 hd ho ⊢
    subst h1 h2 hd
    exact ⟨ho, rfl, rfl, trivial⟩
  exact PySem.W.kia_one (PySem.W.handS_kitx_exc C.hg C.hk C.hs C.hd C.ha C.hn C.ht C.hm) I.kIn J e (fun z => nomatch z) fun tk => ⟨.bl b, H, I.tok tk, rfl, q⟩
/-! ### try whose suite holds the error without telling of it -/
def tTryW (K : PySem.W.Frag) (c : Value) (i : Nat) (tb : WX → TS) (ts : Addr → Addr → TS) (Wout : WX) : TS := fun D σ H => tb (wAs K c i (fun a cls d => fun D' σ' H' => ∃ D0, cls = .ref D0 ∧ d = none ∧ ts a D0 D' σ' H') Wout D) D σ H
theorem ps_tryW {X : Cx} {x n : Str} {c : Value} {i : Nat} {body suite : List Stmt} {b₀ : Stmt} {np pos pos' : Pos} {tb : WX → TS} {ts : Addr → Addr → TS} {Wout : WX}
    (hs : X.stack = X.env :: X.outer) (hf : X.env.frame = some X.env.locals) (hN : X.N.Nodup) (hi : X.N[i]? = some n) (hln : X.env.kindOf n = some .local) (hc : Names X x c) (tk : L2N.Takes X Wout)
    (hb : ∀ (W : WX) (pn : List (Addr × Obj)) (xe : Value → Shared → Prop), L2N.Takes (X.tr pn xe) W → PassesOwn (model X.prog X.w) X.A X.env xe → PSs (X.tr pn xe) body (tb W))
    (hsu : ∀ (a D : Addr) (oe : Obj) (pn : List (Addr × Obj)), L2N.Zn (.ref D) none oe → (∃ vs, oe.data = .fields vs) → PSs (X.suite a ((a, oe) :: pn)) (b₀ :: suite) (ts a D)) :
    PS X (.Try body [.ExceptHandler (some (.Name x np)) (some n) (b₀ :: suite) pos'] [] [] pos) (tTryW X.K c i tb ts Wout) :=
  L2N.ps_try_as hs hf hN hi hln hc tk hb fun a oe cls d pn zn hd => ⟨fun pins s σ H D I h => by
    obtain ⟨D0, rfl, rfl, q⟩ := h
    exact (hsu a D0 oe pn zn hd).run pins s σ H D I q⟩
section
variable {fa : List He.Fa} {fb : List Fb} {fn : List He.DefD} {K : PySem.W.Frag} {mg : Str → Option Value}
theorem Facts.calE {fa : List He.Fa} {fn : List He.DefD} (T : Facts fa fn K mg) {P : Program} {w : World} {base : Heap} {k : Nat} {N ps : List Str} {sp : Addr → Addr → Sp} (i j : Nat) {d : He.DefD} {x : Str} (hi : fn[i]? = some d) (hd : d.at_ = (x, none)) (hdf : d.dfl = []) (hkw : d.kwd = []) (hj : fa[j]? = some (.glo x))
    (S : FnScope N ps d.scope) (len : ∀ a D vs H Q E, sp a D vs H Q E → vs.length = ps.length)
    (hb : ∀ (dV kV doc pm : Value) (an : Option Addr) (cdv ct : Value) (us : List Value), us.length = ps.length → bindArgs (PySem.W.fnOf d.name d.qual d.params d.body d.scope .none kV doc pm an cdv ct) ⟨us, []⟩ = pure (ps.zip us))
    (hbody : ∀ (cdv : Value) (A : Around) (outer : List Env) (s : Shared) (H : Hp) (vs : List V) (Q : VK) (E : XK) (a D : Addr) (oe : Obj), Hot1 A (a, oe) → L2N.Zn (.ref D) none oe → RoomH k (A.deeper (envOfC d.qual d.scope s.heap.objs.size (He.ga K x) cdv)) → sp a D vs H Q E →
      ∃ t, PSs (cxH (L2N.CX P w) P w K mg base N d.qual d.scope (He.ga K x) cdv A outer s H E (a, oe)) d.body t ∧ t { nx := fun _ H' => Q .non H', rt := Q } (start N vs) H) :
    CalE P w K mg base x (k + 1) ps sp := by
  obtain ⟨fd, F⟩ := T.says.def_ i hi
  have e1 : He.fAd K d.at_ = He.ga K x := by rw [hd]; rfl
  rw [e1] at F
  refine ⟨fd, FunD.okE F S len hbody, T.glo j hj, F.kp, ?_⟩
  have F2 : FunD K d.name d.qual d.params d.body d.scope [] [] (He.ga K x) fd := by
    have z1 : d.dvs K = [] := by unfold He.DefD.dvs; rw [hdf]; rfl
    have z2 : d.kws K = [] := by unfold He.DefD.kws; rw [hkw]; rfl
    rw [z1, z2] at F
    exact F
  exact F2.bindsN fun kV doc pm an cdv ct us hl => hb .none kV doc pm an cdv ct us hl
end
/-! ### steps -/
section
variable {K : PySem.W.Frag} {σ : Sg} {H F : Hp} {Q : VK} {D : Ends}
theorem sm_isP {p : Xc} {a Da : Addr} {c : V} {u : Value} {b : Bool} (ed : Da = He.ga K p.nm) (hc : ClsV c u) (C : ExcC K (He.ga K p.nm)) (e : PySem.W.kitOne K (.ref (He.ga K p.nm)) u = some b) (k : Q (.bl b) H) : rIsP K a Da [.ref a, c] H Q := by
  subst ed
  exact ⟨c, u, b, rfl, hc, C, e, k⟩
variable {S R β α : Type} {P : β → Prop} {X : Xc → Option Int → Prop}
theorem cutYW {c : Value} {i : Nat} {tb : WX → TS} {ts : Addr → Addr → TS} {Wout : WX} {m : Rs (Ctl S R)} {k : S → Rs β} {r : R → Rs β} (hm : Post (m.thn k r) P X) (I : S → Sg → Hp → Prop)
    (h1 : ∀ nx : Sg → Hp → Prop, (∀ s σ' H', I s σ' H' → Post (k s) P X → nx σ' H') → Post m (Ctl.on (fun s => Post (k s) P X) (fun s => Post (k s) P X) fun x => Post (r x) P X) X → tTryW K c i tb ts Wout { D with nx := nx } σ H)
    (h2 : ∀ s σ' H', I s σ' H' → Post (k s) P X → D.nx σ' H') : tTryW K c i tb ts Wout D σ H := cutS hm I h1 h2
theorem st_tryW {A : α → Prop} {c0 : Value} {i : Nat} {tb : WX → TS} {ts : Addr → Addr → TS} {Wout : WX} {m : Rs α} {g : Xc → Rs α} (hm : Post (tryR m fun c l => grd (l = none) (g c)) A X) (J : Unit → Hp → Sg → Hp → Prop)
    (hx : ∀ c : Xc, PySem.W.exmOne K (.ref (He.ga K c.nm)) c0 = some true)
    (hs : ∀ (c : Xc) (F' : Hp) (σ' : Sg) (H' : Hp) (a : Addr), J () F' σ' H' → Fre H' a → Post (g c) A X → ts a (He.ga K c.nm) (goneE i D) (σ'.set i (some (.ref a))) H')
    (hb : ∀ W : WX, (∀ (c : Xc) (l : Option Int) (F' : Hp) (σ' : Sg) (H' : Hp) (dx : Option Addr), J () F' σ' H' → ExD F' l dx → Post (grd (l = none) (g c)) A X → W (.ref (He.ga K c.nm)) dx σ' H') → Post m A (fun c l => Post (grd (l = none) (g c)) A X) → tb W D σ H) :
    tTryW K c0 i tb ts Wout D σ H := by
  refine hb _ (fun c l F' σ' H' dx j ex hf => ⟨true, hx c, fun _ a na => ?_, fun z => by cases z⟩) hm.tr
  obtain ⟨rfl, hf⟩ := hf.g
  obtain rfl : dx = none := ex
  exact ⟨_, rfl, rfl, hs c F' σ' H' a j na hf⟩
end
theorem sm_catTm {α : Type} {e : α → Dat} {xs ys : List α} {F H : Hp} {u w : V} {Q : VK} {K : PySem.W.Frag} (s : Same F H) (h1 : RD F (.tup (xs.map e)) u) (h2 : RD F (.tup (ys.map e)) w) (z0 : 0 < xs.length) (z : xs.length + ys.length ≤ 1000000)
    (k : ∀ x F' H', Stp [] F H F' H' → RD F' (.tup ((xs ++ ys).map e)) x → Q x H') : rAddU K u w H Q := by
  refine sm_catT s h1 h2 (fun q => ?_) (by rw [List.length_map, List.length_map]; exact z) (by rw [← List.map_append]; exact k)
  rw [List.map_eq_nil_iff] at q
  subst q
  exact absurd z0 (by simp)
end DK
set_option maxRecDepth 100000
set_option maxHeartbeats 2000000
/-! DK, eighteenth part: a list of ours whose rows are lists of ours. -/
namespace DK
open PySem PySem.Spec PyProof.Rows L2
def FreN (H : Hp) (R : List Addr) : Prop := ∀ q ∈ R, H q = none
def Dis (S R : List Addr) : Prop := ∀ q ∈ R, q ∉ S
structure OwnN {α : Type} (F H : Hp) (L : Addr) (rs : List Addr) (e : α → Dat) (xss : List (List α)) : Prop where
  own : Own F H L (.lst (rs.map V.ref))
  nd : (L :: rs).Nodup
  len : rs.length = xss.length
  row : ∀ (i : Nat) r xs, rs[i]? = some r → xss[i]? = some xs → ∃ ws, Own F H r (.lst ws) ∧ RDs F (xs.map e) ws
def rowSet {α : Type} (xss : List (List α)) (i : Int) (xs : List α) : List (List α) := match ixN xss.length i with
  | some n => xss.set n xs
  | none => xss
section
variable {α : Type} {F H F1 H1 : Hp} {L a r : Addr} {rs S S' R : List Addr} {e : α → Dat} {xss : List (List α)} {o : HO} {ws : List V} {xs : List α} {i : Int} {n : Nat}
theorem OwnN.mem (o : OwnN F H L rs e xss) {q : Addr} (h : q ∈ L :: rs) : ∃ vs, Own F H q (.lst vs) := by
  rcases List.mem_cons.mp h with rfl | h
  · exact ⟨_, o.own⟩
  · obtain ⟨i, hi⟩ := List.getElem?_of_mem h
    have hl := (List.getElem?_eq_some_iff.mp hi).1
    obtain ⟨ws, h1, _⟩ := o.row i q _ hi (List.getElem?_eq_getElem (by rw [← o.len]; exact hl))
    exact ⟨ws, h1⟩
theorem Stp.keepN (a : Stp S F H F1 H1) (d : Dis S (L :: rs)) (o : OwnN F H L rs e xss) : OwnN F1 H1 L rs e xss :=
  ⟨a.keep (d L List.mem_cons_self) o.own, o.nd, o.len, fun i r xs h1 h2 => by
    obtain ⟨ws, h3, h4⟩ := o.row i r xs h1 h2
    exact ⟨ws, a.keep (d r (List.mem_cons_of_mem _ (List.mem_of_getElem? h1))) h3, a.ups h4⟩⟩
theorem Stp.backN (a : Stp S F H F1 H1) (h : FreN H1 R) : FreN H R := fun q hq => a.dom q (h q hq)
theorem Dis.nil : Dis [] R := fun _ _ h => by cases h
theorem Dis.one (h : a ∉ R) (t : Dis S R) : Dis (a :: S) R := fun q hq z => by
  rcases List.mem_cons.mp z with rfl | z
  · exact h hq
  · exact t q hq z
theorem Dis.fre (o : OwnN F H L rs e xss) (f : FreN H S) : Dis S (L :: rs) := fun q hq z => by
  obtain ⟨vs, h⟩ := o.mem hq
  have h2 := h.h
  rw [f q z] at h2
  cases h2
theorem Dis.old {β : Type} {L2 : Addr} {rs2 : List Addr} {e2 : β → Dat} {yss : List (List β)} (o : OwnN F H L2 rs2 e2 yss) (f : FreN H R) : Dis (L2 :: rs2) R := fun q hq z => by
  obtain ⟨vs, h⟩ := o.mem z
  have := f q hq
  rw [h.h] at this
  cases this
theorem Dis.app (h : Dis S R) (t : Dis S' R) : Dis (S ++ S') R := fun q hq z => by
  rcases List.mem_append.mp z with z | z
  · exact h q hq z
  · exact t q hq z
theorem sub_self : ∀ q ∈ S, q ∈ S ∨ H q = none := fun q h => .inl h
theorem sub_fre (f : FreN H S') : ∀ q ∈ S', q ∈ S ∨ H q = none := fun q h => .inr (f q h)
theorem sub_app {S1 S2 : List Addr} (h : ∀ q ∈ S1, q ∈ S ∨ H q = none) (t : ∀ q ∈ S2, q ∈ S ∨ H q = none) : ∀ q ∈ S1 ++ S2, q ∈ S ∨ H q = none := fun q hq => by
  rcases List.mem_append.mp hq with z | z
  · exact h q z
  · exact t q z
theorem sub_appR {S1 : List Addr} : ∀ q ∈ S', q ∈ S1 ++ S' ∨ H q = none := fun q h => .inl (List.mem_append_right _ h)
theorem sub_appL {S2 : List Addr} : ∀ q ∈ S', q ∈ S' ++ S2 ∨ H q = none := fun q h => .inl (List.mem_append_left _ h)
theorem nm_fre (f : FreN H R) (h : Own F H a o) : a ∉ R := fun z => by
  have := f a z
  rw [h.h] at this
  cases this
theorem nm_own (o : OwnN F H L rs e xss) (f : Fre H a) : a ∉ L :: rs := fun z => by
  obtain ⟨vs, h⟩ := o.mem z
  have h2 := h.h
  rw [show H a = none from f] at h2
  cases h2
theorem nm_app (h : a ∉ S) (t : a ∉ S') : a ∉ S ++ S' := fun z => by
  rcases List.mem_append.mp z with z | z
  · exact h z
  · exact t z
theorem FreN.hd (f : FreN H (L :: rs)) : Fre H L := f L List.mem_cons_self
theorem Stp.wide (s : Stp S F H F1 H1) (h : ∀ q ∈ S, q ∈ S') : Stp S' F H F1 H1 := ⟨s.pre, s.ex, s.inn, fun p o n => s.own p o fun z => n (h p z), s.dom, s.tup⟩
theorem rowSet_of (h : ixN xss.length i = some n) : rowSet xss i xs = xss.set n xs := by unfold rowSet; rw [h]
/-- a row -/
theorem sm_rowN {K : PySem.W.Frag} {Q : VK} (o : OwnN F H L rs e xss) (h : atI xss i = some xs) (k : ∀ n r ws, ixN xss.length i = some n → rs[n]? = some r → Own F H r (.lst ws) → RDs F (xs.map e) ws → Q (.ref r) H) : rIxU K (.ref L) (.int i) H Q := by
  unfold atI at h
  cases q : ixN xss.length i with
  | none => rw [q] at h; cases h
  | some n =>
    rw [q] at h
    have hn := (List.getElem?_eq_some_iff.mp h).1
    obtain ⟨r, hr⟩ : ∃ r, rs[n]? = some r := ⟨_, List.getElem?_eq_getElem (by rw [o.len]; exact hn)⟩
    obtain ⟨ws, h1, h2⟩ := o.row n r xs hr h
    refine st_ixO o.own (v := .ref _) ?_ (k n _ ws q hr h1 h2)
    unfold atI
    rw [List.length_map, o.len, q]
    show (rs.map V.ref)[n]? = _
    rw [List.getElem?_map, hr]; rfl
/-- a row changed -/
theorem OwnN.chg {ws' : List V} {xs' : List α} (o : OwnN F H L rs e xss) (hn : ixN xss.length i = some n) (hr : rs[n]? = some r) (s : Stp [r] F H F1 H1) (oo : Own F1 H1 r (.lst ws')) (rr : RDs F1 (xs'.map e) ws') : Stp (L :: rs) F H F1 H1 ∧ OwnN F1 H1 L rs e (rowSet xss i xs') := by
  have rm := List.mem_of_getElem? hr
  refine ⟨s.wide fun q h => by rw [List.mem_singleton.mp h]; exact List.mem_cons_of_mem _ rm, ?_⟩
  rw [rowSet_of hn]
  have nL : L ∉ [r] := fun z => by
    have h := List.mem_singleton.mp z
    exact (List.nodup_cons.mp o.nd).1 (h ▸ rm)
  refine ⟨s.keep nL o.own, o.nd, by rw [List.length_set]; exact o.len, fun k q ys h1 h2 => ?_⟩
  by_cases z : k = n
  · subst z
    rw [hr] at h1; cases h1
    have hk : k < xss.length := by have := (List.getElem?_eq_some_iff.mp h2).1; rwa [List.length_set] at this
    rw [List.getElem?_set_self hk] at h2
    cases h2
    exact ⟨ws', oo, rr⟩
  · rw [List.getElem?_set_ne (Ne.symm z)] at h2
    obtain ⟨ws, h3, h4⟩ := o.row k q ys h1 h2
    have nq : q ∉ [r] := fun y => by
      have e := List.mem_singleton.mp y
      subst e
      have nd := (List.nodup_cons.mp o.nd).2
      obtain ⟨k1, e1⟩ := List.getElem?_eq_some_iff.mp h1
      obtain ⟨k2, e2⟩ := List.getElem?_eq_some_iff.mp hr
      have pw := List.pairwise_iff_getElem.mp nd
      rcases Nat.lt_or_ge k n with lt | ge
      · exact pw k n k1 k2 lt (e1.trans e2.symm)
      · exact pw n k k2 k1 (by omega) (e2.trans e1.symm)
    exact ⟨ws, s.keep nq h3, s.ups h4⟩
theorem sm_lenN {K : PySem.W.Frag} {Q : VK} (o : OwnN F H L rs e xss) (k : Q (.int (xss.length : Nat)) H) : rLenU K [.ref L] H Q := st_lenO o.own (by rw [List.length_map, o.len]; exact k)
/-- an end put to it: what is appended then is not looked at -/
theorem sm_appN {u : V} {Q : VK} (s : Same F H) (o : OwnN F H L rs e xss) (z : xss.length < 1000000) (k : ∀ F' H', Stp (L :: rs) F H F' H' → Q .non H') : rAppend (.ref L) [u] H Q :=
  st_app s o.own (by rw [List.length_map, o.len]; exact z) fun F' H' t _ => k F' H' (t.wide fun q h => by rw [List.mem_singleton.mp h]; exact List.mem_cons_self)
open Classical in
/-- all frozen -/
noncomputable def frzR (F H : Hp) (R : List Addr) : Hp := fun p => if p ∈ R then H p else F p
theorem frzR_in {p : Addr} (h : p ∈ R) : frzR F H R p = H p := if_pos h
theorem frzR_out {p : Addr} (h : p ∉ R) : frzR F H R p = F p := if_neg h
theorem OwnN.frz (s : Same F H) (o : OwnN F H L rs e xss) : Same F (frzR F H (L :: rs)) ∧ Same (frzR F H (L :: rs)) H ∧ RD (frzR F H (L :: rs)) (eL (eL e) xss) (.ref L) := by
  have ex : Same F (frzR F H (L :: rs)) := fun p u h => by
    by_cases z : p ∈ L :: rs
    · obtain ⟨vs, q⟩ := o.mem z
      rw [q.f] at h; cases h
    · rw [frzR_out z]; exact h
  refine ⟨ex, fun p u h => ?_, ⟨L, rs.map V.ref, rfl, by rw [frzR_in List.mem_cons_self]; exact o.own.h, ?_⟩⟩
  · by_cases z : p ∈ L :: rs
    · rw [frzR_in z] at h; exact h
    · rw [frzR_out z] at h; exact s p u h
  · have rows : ∀ (ys : List (List α)) (ts : List Addr), ts.length = ys.length → (∀ (i : Nat) r xs, ts[i]? = some r → ys[i]? = some xs → r ∈ L :: rs ∧ ∃ ws, Own F H r (.lst ws) ∧ RDs F (xs.map e) ws) → RDs (frzR F H (L :: rs)) (ys.map (eL e)) (ts.map V.ref) := by
      intro ys
      induction ys with
      | nil =>
        intro ts hl _
        rw [List.length_eq_zero_iff.mp hl]
        exact RDs.nil
      | cons y ys ih =>
        intro ts hl h
        cases ts with
        | nil => simp at hl
        | cons t ts =>
          obtain ⟨tm, ws, h1, h2⟩ := h 0 t y rfl rfl
          refine ⟨.ref t, ts.map V.ref, rfl, ⟨t, ws, rfl, by rw [frzR_in tm]; exact h1.h, h2.up ex⟩, ih ts (by simpa using hl) fun i r xs a b => h (i + 1) r xs a b⟩
    exact rows xss rs o.len fun i r xs a b => ⟨List.mem_cons_of_mem _ (List.mem_of_getElem? a), o.row i r xs a b⟩
theorem own_fzN (s : Same F H) (o : OwnN F H L rs e xss) : ∃ F2, Stp (L :: rs) F H F2 H ∧ RD F2 (eL (eL e) xss) (.ref L) := by
  obtain ⟨h1, h2, h3⟩ := o.frz s
  exact ⟨_, ⟨s, h1, h2, fun p u n f q _ => ⟨q, by rw [frzR_out n]; exact f⟩, fun p q => q, fun _ _ q => q⟩, h3⟩
theorem lendN (s : Same F H) (o : OwnN F H L rs e xss) : ∃ F1, Lent F H F1 ∧ RD F1 (eL (eL e) xss) (.ref L) ∧ ∀ p, F1 p ≠ none → F p = none → p ∈ L :: rs := by
  obtain ⟨h1, h2, h3⟩ := o.frz s
  refine ⟨_, ⟨h1, h2, fun p u q n => ?_⟩, h3, fun p q n => ?_⟩
  · by_cases z : p ∈ L :: rs
    · rw [frzR_in z] at q
      obtain ⟨vs, w⟩ := o.mem z
      rw [w.h] at q; cases q
      exact ⟨vs, rfl⟩
    · rw [frzR_out z, n] at q; cases q
  · by_cases z : p ∈ L :: rs
    · exact z
    · rw [frzR_out z] at q; exact absurd n q
end
/-! comprehensions whose items are new lists of ours -/
section
variable {α β γ : Type} {K : PySem.W.Frag} {F H : Hp} {σ : Sg} {Q : VK} {X : Xc → Option Int → Prop} {f : α → Rs (Option (List β))} {zs : List α} {g : TG} {tt : TT} {te : TE} {v : V} {e : α → Dat} {e2 : β → Dat} {L : Addr} {vs : List V} {ws : List Nat} {P : List (List β) → Prop}
abbrev LcTurnN (g : TG) (tt : TT) (te : TE) (ws : List Nat) (σ : Sg) (e2 : β → Dat) (F1 H1 : Hp) (m : Rs (Option (List β))) (X : Xc → Option Int → Prop) (u : V) : Prop :=
  ∀ (PN : Option (List β) → Prop) (NY : VK) (NN : Hp → Prop), (∀ r vs xs F4 H4, Stp [] F1 H1 F4 H4 → Fre H1 r → Own F4 H4 r (.lst vs) → RDs F4 (xs.map e2) vs → PN (some xs) → NY (.ref r) H4) → (∀ F4 H4, Stp [] F1 H1 F4 H4 → PN none → NN H4) → Post m PN X →
    g u (wipe σ ws) H1 fun σ2 H3 => wipe σ2 ws = wipe σ ws ∧ tt σ2 H3 fun b H4 => if b = true then te σ2 H4 NY else NN H4
abbrev HdN (F H : Hp) (e2 : β → Dat) (P : List (List β) → Prop) (Q : VK) : Prop := ∀ L rs r F' H', Stp [] F H F' H' → FreN H (L :: rs) → OwnN F' H' L rs e2 r → P r → Q (.ref L) H'
theorem lc_coreN {J : It} {n : Nat} {G : Hp → Prop} {Y : Nat → Hp → V → Hp → Prop} (w : Walk J n G Y) (hn : n = zs.length) (hz : zs.length ≤ 1000000) (s : Same F H) (hp : Post (mapR f zs) P X) (hG : ∀ F' H', Stp [] F H F' H' → G H')
    (hs : ∀ (i : Nat) (x : α) (u : V) F1 H1 H2, zs[i]? = some x → Stp [] F H F1 H1 → Y i H1 u H2 → H1 = H2 ∧ LcTurnN g tt te ws σ e2 F1 H2 (f x) X u)
    (hd : HdN F H e2 P Q) : LcOwes g tt te ws σ Q J H := by
  intro D nD
  refine lc_it w (fun i H' => ∃ F' rs r0, Stp [] F H F' H' ∧ FreN H (D :: rs) ∧ OwnN F' H' D rs e2 r0 ∧ rs.length ≤ i ∧ Post (mapR f (zs.drop i)) (fun r => P (r0 ++ r)) X) ?_ ?_ ?_ ?_
  · refine ⟨F, [], [], Stp.newO s nD, fun q hq => by rw [List.mem_singleton.mp hq]; exact nD, ⟨⟨s.free nD, upd_same, trivial⟩, by simp, rfl, fun i r xs h => by simp at h⟩, Nat.le_refl _, hp⟩
  · rintro i H' _ ⟨F', _, _, t, _⟩
    exact hG F' H' t
  · rintro i u H1 H2 hi ⟨F1, rs, r0, t, fr, o, hl, p⟩ y
    have hlt : i < zs.length := hn ▸ hi
    rw [List.drop_eq_getElem_cons hlt] at p
    obtain ⟨rfl, T⟩ := hs i zs[i] u F1 H1 H2 (List.getElem?_eq_getElem hlt) t y
    refine T _ _ _ ?_ ?_ p.mapc
    · rintro r vs xs F4 H4 t4 nr own hx q
      have o4 := t4.keepN Dis.nil o
      refine ⟨rs.map V.ref, o4.own.h, sz_lt (by rw [List.length_map]; omega), ?_⟩
      have tp := Stp.put (o' := .lst (rs.map V.ref ++ [.ref r])) t4.inn o4.own
      have rD : r ∉ D :: rs := nm_own o nr
      have rne : r ≠ D := fun z => rD (by rw [z]; exact List.mem_cons_self)
      have t2 : Stp [] F H F4 (upd H4 D (.lst (rs.map V.ref ++ [.ref r]))) := (t.trans t4 sub_nil).trans tp (sub_new nD sub_nil)
      refine ⟨F4, rs ++ [r], r0 ++ [xs], t2, fun q hq => ?_, ⟨⟨o4.own.f, by rw [List.map_append]; exact upd_same, trivial⟩, ?_, by rw [List.length_append, List.length_append, o.len]; rfl, fun k r' ys h1 h2 => ?_⟩, by rw [List.length_append]; simp; omega, ?_⟩
      · rcases List.mem_cons.mp hq with rfl | hq
        · exact nD
        · rcases List.mem_append.mp hq with hq | hq
          · exact fr q (List.mem_cons_of_mem _ hq)
          · rw [List.mem_singleton.mp hq]; exact t.dom r nr
      · have nd := o.nd
        rw [← List.cons_append]
        refine List.nodup_append.mpr ⟨nd, by simp, fun a ha b hb => ?_⟩
        rw [List.mem_singleton.mp hb]
        exact fun z => rD (z ▸ ha)
      · rcases snoc_at h1 with ⟨k1, k2⟩ | ⟨k1, k2⟩
        · rw [List.getElem?_append_left (by rw [← o.len]; exact k1)] at h2
          obtain ⟨ws', a, b⟩ := o4.row k r' ys k2 h2
          have ne : r' ∉ [D] := fun z => (List.nodup_cons.mp o.nd).1 ((List.mem_singleton.mp z) ▸ List.mem_of_getElem? k2)
          exact ⟨ws', tp.keep ne a, b⟩
        · subst k1 k2
          rw [o.len, List.getElem?_append_right (Nat.le_refl _), Nat.sub_self] at h2
          cases h2
          exact ⟨vs, tp.keep (fun z => rne (List.mem_singleton.mp z)) own, hx⟩
      · exact q.mono fun r z => by rw [List.append_assoc]; exact z
    · rintro F4 H4 t4 q
      exact ⟨F4, rs, r0, t.trans t4 sub_nil, fr, t4.keepN Dis.nil o, by omega, q⟩
  · rintro H' ⟨F', rs, r0, t, fr, o, _, p⟩
    rw [hn, List.drop_length] at p
    have p' : P (r0 ++ []) := p
    rw [List.append_nil] at p'
    exact hd D rs r0 F' H' t fr o p'
theorem lcN_L (h : RD F (.lst (zs.map e)) v) (s : Same F H) (hz : zs.length ≤ 1000000) (hp : Post (mapR f zs) P X)
    (hs : ∀ (x : α) (u : V) F1 H1, RD F1 (e x) u → Stp [] F H F1 H1 → LcTurnN g tt te ws σ e2 F1 H1 (f x) X u) (hd : HdN F H e2 P Q) : ∃ a, v = .ref a ∧ (∃ xs, SqL K H a xs) ∧ LcOwes g tt te ws σ Q (Itl K a) H := by
  obtain ⟨a, vs, rfl, h1, h2⟩ := h
  refine ⟨a, rfl, ⟨vs, same_l s h1⟩, lc_coreN (walk_list (xs := vs)) (by rw [h2.len, List.length_map]) hz s hp (fun F' H' t => same_l (t.ex.trans t.inn) h1) ?_ hd⟩
  rintro i x u F1 H1 H2 hx t ⟨rfl, hu⟩
  obtain ⟨d, hd, r⟩ := h2.of_at hu
  rw [List.getElem?_map, hx] at hd
  cases hd
  exact ⟨rfl, hs x u F1 _ (r.up t.ex) t⟩
theorem lcN_T (h : RD F (.tup (zs.map e)) v) (s : Same F H) (hz : zs.length ≤ 1000000) (hp : Post (mapR f zs) P X)
    (hs : ∀ (x : α) (u : V) F1 H1, RD F1 (e x) u → Stp [] F H F1 H1 → LcTurnN g tt te ws σ e2 F1 H1 (f x) X u) (hd : HdN F H e2 P Q) : ∃ a, v = .ref a ∧ (∃ xs, SqT K H a xs) ∧ LcOwes g tt te ws σ Q (Itt K a) H := by
  obtain ⟨a, vs, rfl, h1, h2⟩ := h
  refine ⟨a, rfl, ⟨vs, same_t s h1⟩, lc_coreN (walk_tup (xs := vs)) (by rw [h2.len, List.length_map]) hz s hp (fun F' H' t => same_t (t.ex.trans t.inn) h1) ?_ hd⟩
  rintro i x u F1 H1 H2 hx t ⟨rfl, hu⟩
  obtain ⟨d, hd, r⟩ := h2.of_at hu
  rw [List.getElem?_map, hx] at hd
  cases hd
  exact ⟨rfl, hs x u F1 _ (r.up t.ex) t⟩
theorem lcN_R {lo hi : Int} {f : Int → Rs (Option (List β))} (s : Same F H) (hz : (hi - lo).toNat ≤ 1000000) (hp : Post (mapR f (rngI lo hi)) P X)
    (hs : ∀ (x : Int) F1 H1, Stp [] F H F1 H1 → LcTurnN g tt te ws σ e2 F1 H1 (f x) X (.int x)) (hd : HdN F H e2 P Q) : LcOwes g tt te ws σ Q (Itr lo (hi - lo).toNat) H := by
  refine lc_coreN (walk_range (lo := lo) (n := (hi - lo).toNat)) (by simp [rngI]) (by simpa [rngI] using hz) s hp (fun _ _ _ => trivial) ?_ hd
  rintro i x u F1 H1 H2 hx t ⟨rfl, rfl⟩
  have := rngI_at hx
  subst this
  exact ⟨rfl, hs _ F1 _ t⟩
theorem lcN_R1 {hi : Int} {f : Int → Rs (Option (List β))} (hb : rngOk 0 hi = true) (s : Same F H) (hz : (hi - 0).toNat ≤ 1000000) (hp : Post (mapR f (rngI 0 hi)) P X)
    (hs : ∀ (x : Int) F1 H1, Stp [] F H F1 H1 → LcTurnN g tt te ws σ e2 F1 H1 (f x) X (.int x)) (hd : HdN F H e2 P Q) : ∃ j : Int, [V.int hi] = [.int j] ∧ -(2 ^ 62) ≤ j ∧ j < 2 ^ 62 ∧ LcOwes g tt te ws σ Q (Itr 0 j.toNat) H := by
  have hb := rngOk.b hb
  have := lcN_R (lo := 0) s hz hp hs hd
  rw [Int.sub_zero] at this
  exact ⟨hi, rfl, by omega, by omega, this⟩
end
/-! all cells set -/
def allS {α : Type} : List (Option α) → Option (List α)
  | [] => some []
  | some x :: xs => (allS xs).map (x :: ·)
  | none :: _ => none
def allSS {α : Type} : List (List (Option α)) → Option (List (List α))
  | [] => some []
  | x :: xs => (allS x).bind fun y => (allSS xs).map (y :: ·)
theorem allS_map {α : Type} {e : α → Dat} : ∀ {xs : List (Option α)} {ys : List α}, allS xs = some ys → xs.map (eO e) = ys.map e
  | [], ys, h => by cases h; rfl
  | some x :: xs, ys, h => by
    unfold allS at h
    cases q : allS xs with
    | none => rw [q] at h; cases h
    | some zs =>
      rw [q] at h
      cases h
      rw [List.map_cons, List.map_cons, allS_map q]; rfl
theorem allSS_map {α : Type} {e : α → Dat} : ∀ {xs : List (List (Option α))} {ys : List (List α)}, allSS xs = some ys → xs.map (eL (eO e)) = ys.map (eL e)
  | [], ys, h => by cases h; rfl
  | x :: xs, ys, h => by
    unfold allSS at h
    cases q : allS x with
    | none => rw [q] at h; cases h
    | some z =>
      rw [q] at h
      cases p : allSS xs with
      | none => rw [p] at h; cases h
      | some zs =>
        rw [p] at h
        cases h
        rw [List.map_cons, List.map_cons, allSS_map p]
        congr 1
        simp only [eL, allS_map q]
theorem sm_isNI {F H : Hp} {Q : VK} {o : Option Int} {u : V} (h : RD F (eO Dat.int o) u) (k : Q (.bl o.isNone) H) : rIsN u .non H Q := by
  cases o with
  | none => rw [show u = V.non from h]; exact st_isN1 k
  | some x => exact st_isN0 (by rw [show u = V.int x from h]; intro z; cases z) k
theorem sm_notNI {F H : Hp} {Q : VK} {o : Option Int} {u : V} (h : RD F (eO Dat.int o) u) (k : Q (.bl (!o.isNone)) H) : rNotN u .non H Q := by
  cases o with
  | none => rw [show u = V.non from h]; exact st_notN1 k
  | some x => exact st_notN0 (by rw [show u = V.int x from h]; intro z; cases z) k
/-- what is appended at the end of a list's life is not looked at -/
theorem sm_appX {F H : Hp} {L : Addr} {vs : List V} {u : V} {Q : VK} {α : Type} {e : α → Dat} {zs : List α} (s : Same F H) (o : Own F H L (.lst vs)) (hd : RDs F (zs.map e) vs) (z : zs.length < 1000000) (k : ∀ F' H', Stp [L] F H F' H' → Q .non H') : rAppend (.ref L) [u] H Q :=
  st_app s o (by rw [hd.len, List.length_map]; exact z) fun F' H' t _ => k F' H' t
/-! sum of a tuple -/
def rSumT (K : PySem.W.Frag) : List V → Hp → VK → Prop := fun vs H Q => ∃ (a : Addr) (ns : List Int), vs = [V.ref a] ∧ SqT K H a (ns.map V.int) ∧ Q (.int ns.sum) H
theorem cr_sumT {X : Cx} (hc : X.calm = true) : CallR X (.builtin "sum") (rSumT X.K) := by
  intro pins s σ H vs us Q I r h
  obtain ⟨a, ns, rfl, hs, q⟩ := h
  obtain ⟨its, rv, ht, _⟩ := I.tuple hs
  rw [Vals.ref1 r]
  have hi := rv.ints
  obtain ⟨xs, e⟩ := hi.allInts.items
  have hn : numsOf (intItems xs).toList = ns := by rw [← e]; exact hi.numsOf
  rw [nums_intItems] at hn
  rw [e] at ht
  refine PySem.W.ktm_sumG (I.ok.hd hc) ht fun h' tk t' hk => ?_
  rw [preSum_eq, List.take_of_length_le (by simp), hn]
  exact ⟨.int _, H, I.kept hk, ⟨_, rfl⟩, q⟩
def rSumU (K : PySem.W.Frag) : List V → Hp → VK → Prop := fun vs H Q => rSum K vs H Q ∨ rSumT K vs H Q
theorem cr_sumU {X : Cx} (hc : X.calm = true) : CallR X (.builtin "sum") (rSumU X.K) := CallR.or (cr_sum hc) (cr_sumT hc)
section
variable {K : PySem.W.Frag} {F H : Hp} {v : V} {Q : VK} {ns : List Int}
theorem sm_sumLU (s : Same F H) (h : RD F (.lst (ns.map Dat.int)) v) (k : Q (.int ns.sum) H) : rSumU K [v] H Q := .inl (sm_sumL s h k)
theorem sm_sumTU (s : Same F H) (h : RD F (.tup (ns.map Dat.int)) v) (k : Q (.int ns.sum) H) : rSumU K [v] H Q := by
  obtain ⟨a, vs, rfl, h1, h2⟩ := rd_tupV (K := K) s h
  rw [h2.ints] at h1
  exact .inr ⟨a, ns, rfl, h1, k⟩
end
end DK
set_option maxRecDepth 100000
set_option maxHeartbeats 2000000
/-! DK, nineteenth part: x in a list or tuple of data. -/
namespace DK
open PySem PySem.Spec PyProof.Rows L2
section
variable {X : Cx} {pins : List (Addr × Obj)} {σ : L2.St} {H : Hp} {s : Shared}
mutual
theorem dp_inj (I : Inv X pins σ H s) : ∀ (d d' : PyData) (v : V), Dp X.K H v d → Dp X.K H v d' → d = d'
  | .none, _, _, h, k => by cases h; cases k; rfl
  | .bool b, _, _, h, k => by cases h; cases k; rfl
  | .int i, _, _, h, k => by cases h; cases k; rfl
  | .str x, _, _, h, k => by cases h; cases k; rfl
  | .list ds, _, _, h, k => by
    cases h with
    | lst q1 a1 =>
      cases k with
      | lst q2 a2 =>
        cases I.list_inj q1 q2
        rw [dps_inj I ds _ _ a1 a2]
      | tup q2 a2 =>
        obtain ⟨its, _, ⟨o, n, ho, hc, _, _⟩, _⟩ := I.list q1
        obtain ⟨its', _, ⟨o', ho', hc', _⟩, _⟩ := I.tuple q2
        rw [ho] at ho'; cases ho'
        rw [hc] at hc'
        exact absurd hc' (by decide)
  | .tuple ds, _, _, h, k => by
    cases h with
    | tup q1 a1 =>
      cases k with
      | tup q2 a2 =>
        cases I.tuple_inj q1 q2
        rw [dps_inj I ds _ _ a1 a2]
      | lst q2 a2 =>
        obtain ⟨its', _, ⟨o', ho', hc', _⟩, _⟩ := I.tuple q1
        obtain ⟨its, _, ⟨o, n, ho, hc, _, _⟩, _⟩ := I.list q2
        rw [ho] at ho'; cases ho'
        rw [hc] at hc'
        exact absurd hc' (by decide)
  | .dict _, _, _, h, _ => by cases h
theorem dps_inj (I : Inv X pins σ H s) : ∀ (ds ds' : List PyData) (vs : List V), DpAll X.K H vs ds → DpAll X.K H vs ds' → ds = ds'
  | [], _, _, h, k => by cases h; cases k; rfl
  | d :: ds, _, _, h, k => by
    cases h with
    | cons h1 h2 =>
      cases k with
      | cons k1 k2 => rw [dp_inj I d _ _ h1 k1, dps_inj I ds _ _ h2 k2]
end
end
def rInD (K : PySem.W.Frag) (neg : Bool) : R2 := fun x y H Q => ∃ (p : Addr) (xs : List V) (d : PyData) (ds : List PyData), y = .ref p ∧ (SqL K H p xs ∨ SqT K H p xs) ∧ Dp K H x d ∧ DpAll K H xs ds ∧ SeqAt.shaped d = true ∧ d.depth ≤ 60 ∧ (∀ e ∈ ds, SeqAt.shaped e = true) ∧
  Q (.bl (if neg then !ds.any (fun e => PyData.eqv e d) else ds.any fun e => PyData.eqv e d)) H
section
variable {X : Cx} {pins : List (Addr × Obj)} {σ : L2.St} {H : Hp} {s : Shared}
theorem dps_at {K : PySem.W.Frag} : ∀ {vs : List V} {ds : List PyData} {us : List Value} {u : Value}, DpAll K H vs ds → Vals vs us → u ∈ us → ∃ v d, d ∈ ds ∧ Dp K H v d ∧ RelV v u
  | _, _, _, _, .nil, .nil, h => by cases h
  | _, _, _, u, .cons h1 h2, .cons r1 r2, h => by
    rcases List.mem_cons.mp h with rfl | h
    · exact ⟨_, _, List.mem_cons_self, h1, r1⟩
    · obtain ⟨v, d, m, a, b⟩ := dps_at h2 r2 h
      exact ⟨v, d, List.mem_cons_of_mem _ m, a, b⟩
open Classical in
/-- what == tells of a value that bears data -/
noncomputable def tells (K : PySem.W.Frag) (H : Hp) (d : PyData) (u : Value) : Bool := if ∃ v e, RelV v u ∧ Dp K H v e ∧ PyData.eqv e d = true then true else false
theorem tells_of (I : Inv X pins σ H s) {d e : PyData} {v : V} {u : Value} (r : RelV v u) (h : Dp X.K H v e) : tells X.K H d u = PyData.eqv e d := by
  unfold tells
  by_cases z : ∃ v e, RelV v u ∧ Dp X.K H v e ∧ PyData.eqv e d = true
  · rw [if_pos z]
    obtain ⟨v', e', r', h', q⟩ := z
    cases r.inj r'
    rw [dp_inj I _ _ _ h h', q]
  · rw [if_neg z]
    cases q : PyData.eqv e d with
    | false => rfl
    | true => exact absurd ⟨v, e, r, h, q⟩ z
theorem tells_any (I : Inv X pins σ H s) {d : PyData} : ∀ {vs : List V} {ds : List PyData} {us : List Value}, DpAll X.K H vs ds → Vals vs us → us.any (tells X.K H d) = ds.any fun e => PyData.eqv e d
  | _, _, _, .nil, .nil => rfl
  | _, _, _, .cons h1 h2, .cons r1 r2 => by rw [List.any_cons, List.any_cons, tells_of I r1 h1, tells_any I h2 r2]
theorem tells_eq (I : Inv X pins σ H s) (hu : X.A.units + 64 < cLine) {d : PyData} {x : V} {v : Value} (hx : Dp X.K H x d) (rx : RelV x v) (sd : SeqAt.shaped d = true) (dd : d.depth ≤ 60) {vs : List V} {ds : List PyData} {us : List Value} (h : DpAll X.K H vs ds) (r : Vals vs us) (sh : ∀ e ∈ ds, SeqAt.shaped e = true) :
    ∀ u ∈ us, SeqAt.EqAt X.A.in1 s u v (tells X.K H d u) := fun u hm => by
  obtain ⟨w, e, m, hw, rw_⟩ := dps_at h r hm
  rw [tells_of I rw_ hw]
  obtain ⟨as, r1⟩ := Dp.reads I e w u hw rw_
  obtain ⟨bs, r2⟩ := Dp.reads I d x v hx rx
  refine SeqAt.eqAt_reads e d X.A.in1 s u v as bs r1 r2 (SeqAt.canLay_of_shaped (sh e m)) (SeqAt.canLay_of_shaped sd) ?_
  have h2 : min e.depth d.depth ≤ d.depth := Nat.min_le_right _ _
  have h3 : X.A.in1.units ≤ X.A.units + 2 := by simp [Around.in1]
  omega
theorem op_inD (hu : X.A.units + 64 < cLine) : OpR X (compareOp .In) (rInD X.K false) := by
  intro pins s σ H x y v u Q I rx ry h
  obtain ⟨p, xs, d, ds, rfl, hq, hx, hds, sd, dd, sh, q⟩ := h
  cases ry
  rcases hq with hq | hq
  · obtain ⟨its, r, pl, hz⟩ := I.list hq
    refine SeqAt.in_listAt (tells X.K H d) pl.isList (fun w hw => tells_eq I hu hx rx sd dd hds r sh w (by simpa using hw)) ⟨.bl _, H, I, rfl, ?_⟩
    rw [show its.toArray.any (tells X.K H d) = its.any (tells X.K H d) by simp, tells_any I hds r]
    exact q
  · obtain ⟨its, r, pl, hz⟩ := I.tuple hq
    refine SeqAt.in_tupleAt (tells X.K H d) pl (fun w hw => tells_eq I hu hx rx sd dd hds r sh w (by simpa using hw)) ⟨.bl _, H, I, rfl, ?_⟩
    rw [show its.toArray.any (tells X.K H d) = its.any (tells X.K H d) by simp, tells_any I hds r]
    exact q
theorem op_notInD (hu : X.A.units + 64 < cLine) : OpR X (compareOp .NotIn) (rInD X.K true) := by
  intro pins s σ H x y v u Q I rx ry h
  obtain ⟨p, xs, d, ds, rfl, hq, hx, hds, sd, dd, sh, q⟩ := h
  cases ry
  rcases hq with hq | hq
  · obtain ⟨its, r, pl, hz⟩ := I.list hq
    refine SeqAt.notIn_listAt (tells X.K H d) pl.isList (fun w hw => tells_eq I hu hx rx sd dd hds r sh w (by simpa using hw)) ⟨.bl _, H, I, rfl, ?_⟩
    rw [show its.toArray.any (tells X.K H d) = its.any (tells X.K H d) by simp, tells_any I hds r]
    exact q
  · obtain ⟨its, r, pl, hz⟩ := I.tuple hq
    refine SeqAt.notIn_tupleAt (tells X.K H d) pl (fun w hw => tells_eq I hu hx rx sd dd hds r sh w (by simpa using hw)) ⟨.bl _, H, I, rfl, ?_⟩
    rw [show its.toArray.any (tells X.K H d) = its.any (tells X.K H d) by simp, tells_any I hds r]
    exact q
end
/-! the steps -/
def inD {α : Type} (e : α → Dat) (x : α) (xs : List α) : Bool := xs.any fun y => datEq (e y) (e x)
section
variable {α : Type} {K : PySem.W.Frag} {F H : Hp} {Q : VK} {u v : V} {e : α → Dat} {x : α} {xs : List α} {n : Nat}
theorem toPys_map : ∀ xs : List α, toPys (xs.map e) = xs.map fun y => toPy (e y)
  | [] => by simp only [List.map_nil, toPys]
  | x :: xs => by simp only [List.map_cons, toPys, toPys_map xs]
theorem in_data (s : Same F H) (p : PlE n e) (hn : n ≤ 60) (hx : RD F (e x) u) (h : RD F (.lst (xs.map e)) v ∨ RD F (.tup (xs.map e)) v) :
    ∃ (p : Addr) (vs : List V) (d : PyData) (ds : List PyData), v = .ref p ∧ (SqL K H p vs ∨ SqT K H p vs) ∧ Dp K H u d ∧ DpAll K H vs ds ∧ SeqAt.shaped d = true ∧ d.depth ≤ 60 ∧ (∀ e ∈ ds, SeqAt.shaped e = true) ∧ (ds.any fun e => PyData.eqv e d) = inD e x xs := by
  have pm := p.maps xs
  have sh : ∀ z ∈ toPys (xs.map e), SeqAt.shaped z = true := fun z hz => by
    rw [toPys_map] at hz
    obtain ⟨y, _, rfl⟩ := List.mem_map.mp hz
    exact (p.pl hn y).shaped
  have an : ((toPys (xs.map e)).any fun z => PyData.eqv z (toPy (e x))) = inD e x xs := by
    rw [toPys_map, List.any_map]; rfl
  have dx : Dp K H u (toPy (e x)) := RD.dp s hx (by have := (p x).2; omega)
  rcases h with h | h
  · obtain ⟨a, vs, rfl, h1, h2⟩ := rd_lstV (K := K) s h
    exact ⟨a, vs, _, _, rfl, .inl h1, dx, RDs.dp s h2 (by omega), (p.pl hn x).shaped, by have := py_depth (e x); have := (p x).2; omega, sh, an⟩
  · obtain ⟨a, vs, rfl, h1, h2⟩ := rd_tupV (K := K) s h
    exact ⟨a, vs, _, _, rfl, .inr h1, dx, RDs.dp s h2 (by omega), (p.pl hn x).shaped, by have := py_depth (e x); have := (p x).2; omega, sh, an⟩
theorem sm_inD (s : Same F H) (p : PlE n e) (hn : n ≤ 60) (hx : RD F (e x) u) (h : RD F (.lst (xs.map e)) v ∨ RD F (.tup (xs.map e)) v) (k : Q (.bl (inD e x xs)) H) : rInD K false u v H Q := by
  obtain ⟨p, vs, d, ds, h1, h2, h3, h4, h5, h0, h6, h7⟩ := in_data (K := K) s p hn hx h
  exact ⟨p, vs, d, ds, h1, h2, h3, h4, h5, h0, h6, by rw [if_neg (by decide), h7]; exact k⟩
theorem sm_ninD (s : Same F H) (p : PlE n e) (hn : n ≤ 60) (hx : RD F (e x) u) (h : RD F (.lst (xs.map e)) v ∨ RD F (.tup (xs.map e)) v) (k : Q (.bl (!inD e x xs)) H) : rInD K true u v H Q := by
  obtain ⟨p, vs, d, ds, h1, h2, h3, h4, h5, h0, h6, h7⟩ := in_data (K := K) s p hn hx h
  exact ⟨p, vs, d, ds, h1, h2, h3, h4, h5, h0, h6, by rw [if_pos rfl, h7]; exact k⟩
theorem inD_iff [DecidableEq α] (q : EqE e) : inD e x xs = decide (x ∈ xs) := by
  unfold inD
  rw [Bool.eq_iff_iff, List.any_eq_true, decide_eq_true_eq]
  constructor
  · rintro ⟨y, hy, h⟩
    rw [q.iff, decide_eq_true_eq] at h
    exact h ▸ hy
  · intro h
    exact ⟨x, h, by rw [q.iff, decide_eq_true rfl]⟩
end
def rInU (K : PySem.W.Frag) (neg : Bool) : R2 := fun x y H Q => rIn K neg x y H Q ∨ rInD K neg x y H Q
theorem op_inU {X : Cx} (hu : X.A.units + 64 < cLine) : OpR X (compareOp .In) (rInU X.K false) := by
  intro pins s σ H x y v u Q I rx ry h
  rcases h with h | h
  · exact op_in_seq pins s σ H x y v u Q I rx ry h
  · exact op_inD hu pins s σ H x y v u Q I rx ry h
theorem op_notInU {X : Cx} (hu : X.A.units + 64 < cLine) : OpR X (compareOp .NotIn) (rInU X.K true) := by
  intro pins s σ H x y v u Q I rx ry h
  rcases h with h | h
  · exact op_notIn_seq pins s σ H x y v u Q I rx ry h
  · exact op_notInD hu pins s σ H x y v u Q I rx ry h
theorem eQ_or {α : Type} {F : Hp} {b : Bool} {e : α → Dat} {xs : List α} {v : V} (h : RD F (eQ b e xs) v) : RD F (.lst (xs.map e)) v ∨ RD F (.tup (xs.map e)) v := by
  cases b with
  | true => exact .inr h
  | false => exact .inl h
end DK
set_option maxRecDepth 100000
set_option maxHeartbeats 2000000
/-! DK, twentieth part: lending within an expression; rows frozen alone. -/
namespace DK
open PySem PySem.Spec PyProof.Rows L2
section
variable {α : Type} {F H F1 H1 : Hp} {L a r : Addr} {rs S S' R : List Addr} {e : α → Dat} {xss : List (List α)} {o : HO} {vs ws : List V} {ds : List Dat} {xs : List α} {i : Int} {n : Nat}
theorem lendN2 (s : Same F H) (o : OwnN F H L rs e xss) : ∃ F1, Lent F H F1 ∧ Stp (L :: rs) F H F1 H ∧ RD F1 (eL (eL e) xss) (.ref L) := by
  obtain ⟨h1, h2, h3⟩ := o.frz s
  refine ⟨_, ⟨h1, h2, fun p u q n => ?_⟩, ⟨s, h1, h2, fun p u n f q _ => ⟨q, by rw [frzR_out n]; exact f⟩, fun p q => q, fun _ _ q => q⟩, h3⟩
  by_cases z : p ∈ L :: rs
  · rw [frzR_in z] at q
    obtain ⟨vs, w⟩ := o.mem z
    rw [w.h] at q; cases q
    exact ⟨vs, rfl⟩
  · rw [frzR_out z, n] at q; cases q
theorem lend1s (s : Same F H) (o : Own F H L (.lst vs)) (h : RDs F (xs.map e) vs) : ∃ F1, Lent F H F1 ∧ Stp [L] F H F1 H ∧ RD F1 (eL e xs) (.ref L) := by
  have l := (Lent.none s).one o
  exact ⟨_, l, Stp.frz s o, ⟨L, vs, rfl, upd_same, h.up l.old⟩⟩
/-- the rows alone are frozen -/
theorem own_fzR (s : Same F H) (o : OwnN F H L rs e xss) : ∃ F2, Stp (L :: rs) F H F2 H ∧ ∃ ws, Own F2 H L (.lst ws) ∧ RDs F2 (xss.map (eL e)) ws := by
  have nL : L ∉ rs := (List.nodup_cons.mp o.nd).1
  have ex : Same F (frzR F H rs) := fun p u h => by
    by_cases z : p ∈ rs
    · obtain ⟨vs, q⟩ := o.mem (List.mem_cons_of_mem _ z)
      rw [q.f] at h; cases h
    · rw [frzR_out z]; exact h
  have inn : Same (frzR F H rs) H := fun p u h => by
    by_cases z : p ∈ rs
    · rw [frzR_in z] at h; exact h
    · rw [frzR_out z] at h; exact s p u h
  refine ⟨_, ⟨s, ex, inn, fun p u n f q _ => ⟨q, by rw [frzR_out fun z => n (List.mem_cons_of_mem _ z)]; exact f⟩, fun p q => q, fun _ _ q => q⟩, rs.map V.ref, ⟨by rw [frzR_out nL]; exact o.own.f, o.own.h, trivial⟩, ?_⟩
  have rows : ∀ (ys : List (List α)) (ts : List Addr), ts.length = ys.length → (∀ (i : Nat) r xs, ts[i]? = some r → ys[i]? = some xs → r ∈ rs ∧ ∃ ws, Own F H r (.lst ws) ∧ RDs F (xs.map e) ws) → RDs (frzR F H rs) (ys.map (eL e)) (ts.map V.ref) := by
    intro ys
    induction ys with
    | nil =>
      intro ts hl _
      rw [List.length_eq_zero_iff.mp hl]
      exact RDs.nil
    | cons y ys ih =>
      intro ts hl h
      cases ts with
      | nil => simp at hl
      | cons t ts =>
        obtain ⟨tm, ws, h1, h2⟩ := h 0 t y rfl rfl
        refine ⟨.ref t, ts.map V.ref, rfl, ⟨t, ws, rfl, by rw [frzR_in tm]; exact h1.h, h2.up ex⟩, ih ts (by simpa using hl) fun i r xs a b => h (i + 1) r xs a b⟩
  exact rows xss rs o.len fun i r xs a b => ⟨List.mem_of_getElem? a, o.row i r xs a b⟩
end
end DK
set_option maxRecDepth 100000
set_option maxHeartbeats 2000000
/-! DK, twenty-first part: slices of tuples of few, pop of a place. -/
namespace DK
open PySem PySem.Spec PyProof.Rows L2
section
variable {α β : Type} {K : PySem.W.Frag} {F H : Hp} {Q : VK} {X : Xc → Option Int → Prop} {L : Addr} {vs : List V} {v : V} {ds : List Dat} {lo hi : Option Int} {e : α → Dat} {zs : List α} {i : Int} {z : α}
theorem sm_slD (s : Same F H) (h : RD F (.tup ds) v) (k : ∀ u F' H', Stp [] F H F' H' → RD F' (.tup (cutL ds lo hi)) u → Q u H') : rSlU K v lo hi H Q :=
  sm_slT (e := id) (zs := ds) s (by rw [List.map_id]; exact h) fun u F' H' t r => k u F' H' t (by rw [List.map_id] at r; exact r)
theorem sm_lenP {n : Int} (s : Same F H) (h : RD F (.tup ds) v) (e : (ds.length : Int) = n) (k : Q (.int n) H) : rLenU K [v] H Q := st_lenT s h (by rw [e]; exact k)
def popAtR (xs : List α) (i : Int) (k : α → List α → Rs β) : Rs β := if (decide (0 ≤ i) && decide (i.natAbs.log2 < 60)) = true then (match xs[i.toNat]? with
  | some x => k x (xs.eraseIdx i.toNat)
  | none => .bad) else .bad
theorem Post.popAt {P : β → Prop} {xs : List α} {i : Int} {k : α → List α → Rs β} (h : Post (popAtR xs i k) P X) : ∃ x, xs[i.toNat]? = some x ∧ 0 ≤ i ∧ i < 2 ^ 63 ∧ Post (k x (xs.eraseIdx i.toNat)) P X := by
  unfold popAtR at h
  split at h
  · rename_i c
    simp only [Bool.and_eq_true, decide_eq_true_eq] at c
    cases q : xs[i.toNat]? with
    | none => rw [q] at h; exact h.elim
    | some x =>
      rw [q] at h
      refine ⟨x, rfl, c.1, ?_, h⟩
      have h1 := Nat.lt_log2_self (n := i.natAbs)
      have h2 : 2 ^ (i.natAbs.log2 + 1) ≤ 2 ^ 60 := Nat.pow_le_pow_right (by decide) (by omega)
      omega
  · exact h.elim
theorem RDs.erase {ds : List Dat} (h : RDs F ds vs) (n : Nat) : RDs F (ds.eraseIdx n) (vs.eraseIdx n) := by
  induction ds generalizing vs n with
  | nil => rw [show vs = [] from h]; exact RDs.nil
  | cons d ds ih =>
    obtain ⟨v, r, rfl, h1, h2⟩ := h
    cases n with
    | zero => exact h2
    | succ n => exact ⟨v, r.eraseIdx n, rfl, h1, ih h2 n⟩
theorem map_erase (f : α → Dat) (xs : List α) (n : Nat) : (xs.eraseIdx n).map f = (xs.map f).eraseIdx n := by
  induction xs generalizing n with
  | nil => rfl
  | cons x xs ih => cases n with
    | zero => rfl
    | succ n => simp [ih]
theorem sm_popAt (s : Same F H) (o : Own F H L (.lst vs)) (h : RDs F (zs.map e) vs) (hz : zs[i.toNat]? = some z) (h0 : 0 ≤ i) (h1 : i < 2 ^ 63) (k : ∀ u ws F' H', Stp [L] F H F' H' → Own F' H' L (.lst ws) → RDs F' ((zs.eraseIdx i.toNat).map e) ws → RD F' (e z) u → Q u H') : rPopAt (.ref L) [.int i] H Q := by
  have hl : vs.length = zs.length := by rw [h.len, List.length_map]
  obtain ⟨u, hu, r⟩ := h.at (i := i.toNat) (d := e z) (by rw [List.getElem?_map, hz]; rfl)
  have il := (List.getElem?_eq_some_iff.mp hz).1
  refine ⟨L, vs, i, i.toNat, u, rfl, rfl, o.h, by omega, h1, ?_, hu, ?_⟩
  · unfold seqIndex?
    simp only [show ¬ i < 0 by omega, if_false]
    rw [if_pos]
    rw [Bool.and_eq_true, decide_eq_true_eq, decide_eq_true_eq]; omega
  · have t : Stp [L] F H F (upd H L (.lst (vs.eraseIdx i.toNat))) := Stp.put s o
    exact k u _ F _ t ⟨o.f, upd_same, trivial⟩ (by rw [map_erase]; exact h.erase _) r
/-- a written number, kept from being reckoned with -/
@[irreducible] def nI (i : Int) : Int := i
theorem nI_eq (i : Int) : nI i = i := by unfold nI; rfl
theorem nI_v (i : Int) : V.int i = V.int (nI i) := by rw [nI_eq]
/-- no object itself -/
def nob : Dat → Bool
  | .obj _ _ _ => false
  | .exc _ _ => false
  | .dct _ => false
  | _ => true
theorem RD.tyN (s : Same F H) {d : Dat} {u : V} (h : RD F d u) (z : nob d = true) : TyX K H u (.type (tyN d)) := by
  cases d with
  | non => rw [show u = V.non from h]; exact .base .non
  | bl b => rw [show u = V.bl b from h]; exact .base (.bl b)
  | int i => rw [show u = V.int i from h]; exact .base (.int i)
  | str x => rw [show u = V.str x from h]; exact .base (.str x)
  | lst ds => obtain ⟨a, vs, rfl, h1, h2⟩ := h; exact .base (.lst (s a _ h1))
  | tup ds => obtain ⟨a, vs, rfl, h1, h2⟩ := h; exact .base (.tup (s a _ h1))
  | obj C ns ds => cases z
  | exc C l => cases z
  | dct kvs => cases z
theorem sm_isbN {T : String} {b : Bool} {d : Dat} {u : V} (s : Same F H) (h : RD F d u) (z : nob d = true) (e : kitB (DK.tyN d) T = some b) (k : Q (.bl b) H) : rIsi K [u, .ty T] H Q :=
  ⟨u, .ty T, _, _, b, rfl, .ty T, RD.tyN s h z, kit_ty e, k⟩
end
end DK
set_option maxRecDepth 100000
set_option maxHeartbeats 2000000
/-! DK, twenty-second part: methods of own classes, classes without __init__. -/
namespace DK
open PySem PySem.Spec PyProof.Rows L2
/-! ### C() of a class without __init__ -/
structure MkP (K : PySem.W.Frag) (C : Addr) : Prop where
  makes : PySem.W.makesIn K C = true
  ini : PySem.W.findIn K (.ref C) "__init__" = some (some (.builtin "object.__init__"))
  kp : PySem.W.keepIn K (.ref C) = true
  top : PySem.W.mroIn K C (.type "object") = some true
def tMakePlain (C : Addr) : TE := fun _ H Q => ∀ x dx, H x = none → H dx = none → dx ≠ x → Q (.ref x) (upd (upd H dx (.own x)) x (.ins C dx []))
section
variable {X : Cx} {C : Addr} {x : Str} {p pos : Pos}
theorem run_plain {pins : List (Addr × Obj)} {σ : L2.St} {H : Hp} {s : Shared} {Q : VK} (M : MkP X.K C) (I : Inv X pins σ H s) (h : tMakePlain C σ H Q) : wpAny (model X.prog X.w) X.A (call (.ref C) []) (EP X pins σ Q) X.xe s := by
  have hq := h (s.heap.objs.size + 1) s.heap.objs.size (I.hok.fresh (Nat.le_succ _)) (I.hok.fresh (Nat.le_refl _)) (Nat.ne_of_lt (Nat.lt_succ_self _))
  have J := Inv.made (C := C) I
  refine wpAny_call (make_map0 I.kIn M.makes M.ini (fun self => PySem.W.Looks.of_pure (PySem.W.oi_bind _)) ?_)
  have ho : ((s.heap.push PySem.W.emptyDict).push (PySem.W.instObj C s.heap.objs.size)).get? (s.heap.objs.size + 1) = some (PySem.W.instObj C s.heap.objs.size) := by
    have h1 := Heap.get?_push_size (s.heap.push PySem.W.emptyDict) (o := PySem.W.instObj C s.heap.objs.size) rfl
    rw [Heap.size_push] at h1
    exact h1
  have t1 : PySem.W.Looks (model X.prog X.w) ((s.heap.push PySem.W.emptyDict).push (PySem.W.instObj C s.heap.objs.size)) (typeOf (.ref (s.heap.objs.size + 1))) (.ref C) := (PySem.W.Looks.ld ho).andThen .now
  have t2 : PySem.W.Looks (model X.prog X.w) ((s.heap.push PySem.W.emptyDict).push (PySem.W.instObj C s.heap.objs.size)) (isInstance (.ref (s.heap.objs.size + 1)) (.type "object")) true := t1.andThen (PySem.W.looks_mroIn J.kIn M.top)
  refine codeAny_call_builtin PySem.W.oi_plain PySem.W.entry_oi (@PySem.W.check_slot (model X.prog X.w) _ _ _ "object.__init__" "object" "__init__" (.ref (s.heap.objs.size + 1)) [] [] _ PySem.W.oi_kind PySem.W.oi_split t2 (PySem.W.oi_args (.ref (s.heap.objs.size + 1))) ?_)
  rw [PySem.W.oi_run]
  exact wpAny_pure (And.intro rfl ⟨V.ref (s.heap.objs.size + 1), _, J, rfl, hq⟩)
theorem pe_makePlain (M : MkP X.K C) (hg : Gl X x) (hm : X.mg x = some (.ref C)) (hdb : (x == ("__debug__" : Str)) = false := by decide) : PE X (.Call (.Name x p) [] [] pos) (tMakePlain C) := by
  refine ⟨fun pins s σ H Q I h => ?_⟩
  refine wpAny_Call_Name_kw (ld_glob I hg hm ?_ hdb)
  exact PySem.W.callWith_K0 I.kIn M.kp (run_plain M I h)
end
section
variable {fa : List He.Fa} {fb : List Fb} {fn : List He.DefD} {K : PySem.W.Frag} {mg : Str → Option Value}
theorem FactsB.mko (T : FactsB fa fb fn K mg) (i j : Nat) {x : Str} (h : fb[i]? = some (.mko x) := by rfl) (h' : fb[j]? = some (.ins x) := by rfl) : MkP K (He.ga K x) := by
  obtain ⟨h1, h2⟩ := He.ba (T.more i _ h)
  obtain ⟨h2, h3⟩ := He.ba h2
  exact ⟨h1, of_decide_eq_true h2, h3, (T.ins j h').hm⟩
end
/-! ### methods -/
def MetOk (P : Program) (w : World) (K : PySem.W.Frag) (mg : Str → Option Value) (base : Heap) (C m : Str) (k : Nat) (ps : List Str) (sp : Sp) : Prop :=
  ∃ (f : Addr) (fd : FuncData), Cls K (He.ga K C) ∧ Meth K (He.ga K C) m f ∧ FnOk P w K mg base (L2N.CX P w) k f fd ps sp ∧ Binds K fd ps []
/-- a method that is one of several, by the class of its instance -/
def MetA (P : Program) (w : World) (K : PySem.W.Frag) (mg : Str → Option Value) (base : Heap) (m : Str) (k : Nat) (al : List (Str × Sp)) : Prop :=
  ∀ a ∈ al, ∃ ps k', k' ≤ k ∧ MetOk P w K mg base a.1 m k' ps a.2
theorem MetA.nil {P : Program} {w : World} {K : PySem.W.Frag} {mg : Str → Option Value} {base : Heap} {m : Str} {k : Nat} : MetA P w K mg base m k [] := fun _ h => by cases h
theorem MetA.cons {P : Program} {w : World} {K : PySem.W.Frag} {mg : Str → Option Value} {base : Heap} {C m : Str} {k k' : Nat} {ps : List Str} {sp : Sp} {al : List (Str × Sp)} (h : MetOk P w K mg base C m k' ps sp) (l : k' ≤ k) (t : MetA P w K mg base m k al) : MetA P w K mg base m k ((C, sp) :: al) := fun a ha => by
  rcases List.mem_cons.mp ha with rfl | ha
  · exact ⟨ps, k', l, h⟩
  · exact t a ha
def tMethA (K : PySem.W.Frag) (m : Str) (al : List (Str × Sp)) (E : XK) (ta : TE) (t : TA) : TE := fun σ H Q => ta σ H fun x H1 => ∃ a dx fs p, p ∈ al ∧ x = .ref a ∧ H1 a = some (.ins (He.ga K p.1) dx fs) ∧ fs.lookup m = none ∧
  t σ H1 fun vs H2 => p.2 (x :: (vs ++ [])) H2 Q E
def tMethX (K : PySem.W.Frag) (m : Str) (al : List (Str × Sp)) (E : L2.St → XK) (ta : TE) (t : TA) : TE := fun σ H Q => ta σ H fun x H1 => ∃ a dx fs p, p ∈ al ∧ x = .ref a ∧ H1 a = some (.ins (He.ga K p.1) dx fs) ∧ fs.lookup m = none ∧
  t σ H1 fun vs H2 => p.2 (x :: (vs ++ [])) H2 Q (E σ)
section
variable {X : Cx} {k : Nat} {al : List (Str × Sp)} {m : Str} {pos apos : Pos} {e o : Expr} {es : List Expr} {ta : TE} {t : TA}
theorem pe_methX {E : L2.St → XK} {pl : Sem Bool} (c : MetA X.prog X.w X.K X.mg X.base m k al) (hr : Room k X.A) (hx : ∀ σ, PassesAt (L2N.CX X.prog X.w) X σ (E σ)) (he : PE X o ta) (ha : PA X (e :: es) t)
    (hst : starEach (e :: es) X.env = (false, eval e X.env) :: starEach es X.env := by rfl) (hpl : (backTo pos (starEach es X.env)).any (·.1) = false := by rfl)
    (ht : eval (.Call (.Attribute o m apos) (e :: es) [] pos) X.env = (do
      let ov ← eval o X.env
      standAt apos.atName
      let (f, first) ← holding [ov] (getMethod ov m pl)
      callWith pos f first (backTo pos (starEach (e :: es) X.env)) (backToKw pos (keywordEach [] X.env))) := by rfl) :
    PE X (.Call (.Attribute o m apos) (e :: es) [] pos) (tMethX X.K m al E ta t) := by
  refine ⟨fun pins s σ H Q I h => ?_⟩
  refine PySem.W.methodCall_KW (pl := pl) (thn (he.run pins s σ H _ I h) fun u s1 ⟨x, H1, I1, rx, a, dx, fs, q, hq, ex, ea, l, z⟩ => ?_) ht
  subst ex
  obtain rfl : u = Value.ref a := rx
  obtain ⟨ps, k', lk, f, fd, cl, hm, F, hb⟩ := c q hq
  refine getmeth_ok I1 ea cl hm l ?_
  refine PySem.W.callWith_K (first := [.ref a]) (h₀ := X.base) I.ok.mod.kin hm.kp (thn (ha.run pos pins s1 σ H1 _ I1 z) fun us s2 ⟨vs, H2, I2, r, q2⟩ => ⟨I2.kIn, ?_⟩) hst hpl
  exact run_fnSD (us := .ref a :: us) (vs := .ref a :: vs) F (hr.mono lk) hb .nil (hx σ) I2 (.cons rfl r) q2
theorem pe_methX0 {E : L2.St → XK} {pl : Sem Bool} (c : MetA X.prog X.w X.K X.mg X.base m k al) (hr : Room k X.A) (hx : ∀ σ, PassesAt (L2N.CX X.prog X.w) X σ (E σ)) (he : PE X o ta)
    (ht : eval (.Call (.Attribute o m apos) [] [] pos) X.env = (do
      let ov ← eval o X.env
      standAt apos.atName
      let (f, first) ← holding [ov] (getMethod ov m pl)
      callWith pos f first (backTo pos (starEach [] X.env)) (backToKw pos (keywordEach [] X.env))) := by rfl) :
    PE X (.Call (.Attribute o m apos) [] [] pos) (tMethX X.K m al E ta tNil) := by
  refine ⟨fun pins s σ H Q I h => ?_⟩
  refine PySem.W.methodCall_KW (pl := pl) (thn (he.run pins s σ H _ I h) fun u s1 ⟨x, H1, I1, rx, a, dx, fs, q, hq, ex, ea, l, z⟩ => ?_) ht
  subst ex
  obtain rfl : u = Value.ref a := rx
  obtain ⟨ps, k', lk, f, fd, cl, hm, F, hb⟩ := c q hq
  refine getmeth_ok I1 ea cl hm l ?_
  exact PySem.W.callWith_K0 (first := [.ref a]) I1.kIn hm.kp (run_fnSD (us := [.ref a]) (vs := [.ref a]) F (hr.mono lk) hb .nil (hx σ) I1 (.cons rfl .nil) z)
theorem pe_methA {E : XK} {pl : Sem Bool} (c : MetA X.prog X.w X.K X.mg X.base m k al) (hr : Room k X.A) (hx : Passes (L2N.CX X.prog X.w) X E) (he : PE X o ta) (ha : PA X (e :: es) t)
    (hst : starEach (e :: es) X.env = (false, eval e X.env) :: starEach es X.env := by rfl) (hpl : (backTo pos (starEach es X.env)).any (·.1) = false := by rfl)
    (ht : eval (.Call (.Attribute o m apos) (e :: es) [] pos) X.env = (do
      let ov ← eval o X.env
      standAt apos.atName
      let (f, first) ← holding [ov] (getMethod ov m pl)
      callWith pos f first (backTo pos (starEach (e :: es) X.env)) (backToKw pos (keywordEach [] X.env))) := by rfl) :
    PE X (.Call (.Attribute o m apos) (e :: es) [] pos) (tMethA X.K m al E ta t) := by
  refine ⟨fun pins s σ H Q I h => ?_⟩
  refine PySem.W.methodCall_KW (pl := pl) (thn (he.run pins s σ H _ I h) fun u s1 ⟨x, H1, I1, rx, a, dx, fs, q, hq, ex, ea, l, z⟩ => ?_) ht
  subst ex
  obtain rfl : u = Value.ref a := rx
  obtain ⟨ps, k', lk, f, fd, cl, hm, F, hb⟩ := c q hq
  refine getmeth_ok I1 ea cl hm l ?_
  refine PySem.W.callWith_K (first := [.ref a]) (h₀ := X.base) I.ok.mod.kin hm.kp (thn (ha.run pos pins s1 σ H1 _ I1 z) fun us s2 ⟨vs, H2, I2, r, q2⟩ => ⟨I2.kIn, ?_⟩) hst hpl
  exact run_fn (us := .ref a :: us) (vs := .ref a :: vs) F (hr.mono lk) hb .nil hx I2 (.cons rfl r) q2
theorem pe_methA0 {E : XK} {pl : Sem Bool} (c : MetA X.prog X.w X.K X.mg X.base m k al) (hr : Room k X.A) (hx : Passes (L2N.CX X.prog X.w) X E) (he : PE X o ta)
    (ht : eval (.Call (.Attribute o m apos) [] [] pos) X.env = (do
      let ov ← eval o X.env
      standAt apos.atName
      let (f, first) ← holding [ov] (getMethod ov m pl)
      callWith pos f first (backTo pos (starEach [] X.env)) (backToKw pos (keywordEach [] X.env))) := by rfl) :
    PE X (.Call (.Attribute o m apos) [] [] pos) (tMethA X.K m al E ta tNil) := by
  refine ⟨fun pins s σ H Q I h => ?_⟩
  refine PySem.W.methodCall_KW (pl := pl) (thn (he.run pins s σ H _ I h) fun u s1 ⟨x, H1, I1, rx, a, dx, fs, q, hq, ex, ea, l, z⟩ => ?_) ht
  subst ex
  obtain rfl : u = Value.ref a := rx
  obtain ⟨ps, k', lk, f, fd, cl, hm, F, hb⟩ := c q hq
  refine getmeth_ok I1 ea cl hm l ?_
  exact PySem.W.callWith_K0 (first := [.ref a]) I1.kIn hm.kp (run_fn (us := [.ref a]) (vs := [.ref a]) F (hr.mono lk) hb .nil hx I1 (.cons rfl .nil) z)
end
section
variable {fa : List He.Fa} {fn : List He.DefD} {K : PySem.W.Frag} {mg : Str → Option Value}
/-- a method -/
theorem Facts.met (T : Facts fa fn K mg) {P : Program} {w : World} {base : Heap} {k : Nat} {N ps : List Str} {sp : Sp} (i j l : Nat) {d : He.DefD} {x m : Str} (hi : fn[i]? = some d) (hd : d.at_ = (x, some m)) (hdf : d.dfl = []) (hkw : d.kwd = []) (hj : fa[j]? = some (.cls x)) (hl : fa[l]? = some (.meth x m))
    (S : FnScope N ps d.scope) (len : ∀ vs H Q E, sp vs H Q E → vs.length = ps.length)
    (hb : ∀ (dV kV doc pm : Value) (an : Option Addr) (cdv ct : Value) (us : List Value), us.length = ps.length → bindArgs (PySem.W.fnOf d.name d.qual d.params d.body d.scope .none kV doc pm an cdv ct) ⟨us, []⟩ = pure (ps.zip us))
    (hbody : ∀ (cdv : Value) (A : Around) (outer : List Env) (s : Shared) (H : Hp) (vs : List V) (Q : VK) (E : XK), Room k (A.deeper (envOfC d.qual d.scope s.heap.objs.size (He.fAd K d.at_) cdv)) → sp vs H Q E →
      ∃ t, PSs (cxOf (L2N.CX P w) P w K mg base N d.qual d.scope (He.fAd K d.at_) cdv A outer s H E) d.body t ∧ t { nx := fun _ H' => Q .non H', rt := Q } (start N vs) H) :
    MetOk P w K mg base x m (k + 1) ps sp := by
  obtain ⟨fd, F⟩ := T.says.def_ i hi
  have F2 : FunD K d.name d.qual d.params d.body d.scope [] [] (He.fAd K d.at_) fd := by
    have z1 : d.dvs K = [] := by unfold He.DefD.dvs; rw [hdf]; rfl
    have z2 : d.kws K = [] := by unfold He.DefD.kws; rw [hkw]; rfl
    rw [z1, z2] at F
    exact F
  have M := T.meth l hl
  have e1 : He.fAd K d.at_ = He.ma K (He.ga K x) m := by rw [hd]; rfl
  exact ⟨He.fAd K d.at_, fd, T.cls j hj, by rw [e1]; exact M, FunD.ok F S len hbody, F2.bindsN fun kV doc pm an cdv ct us hl => hb .none kV doc pm an cdv ct us hl⟩
end
section
variable {K : PySem.W.Frag} {F H : Hp} {σ : Sg} {Q : VK} {m : Str} {al : List (Str × Sp)} {ta : TE} {t : TA}
theorem st_methA {E : XK} (k : ta σ H fun x H1 => ∃ a dx fs p, p ∈ al ∧ x = .ref a ∧ H1 a = some (.ins (He.ga K p.1) dx fs) ∧ fs.lookup m = none ∧ t σ H1 fun vs H2 => p.2 (x :: (vs ++ [])) H2 Q E) : tMethA K m al E ta t σ H Q := k
theorem st_methX {E : L2.St → XK} (k : ta σ H fun x H1 => ∃ a dx fs p, p ∈ al ∧ x = .ref a ∧ H1 a = some (.ins (He.ga K p.1) dx fs) ∧ fs.lookup m = none ∧ t σ H1 fun vs H2 => p.2 (x :: (vs ++ [])) H2 Q (E σ)) : tMethX K m al E ta t σ H Q := k
theorem st_makePlain {C : Addr} (k : ∀ x dx, H x = none → H dx = none → dx ≠ x → Q (.ref x) (upd (upd H dx (.own x)) x (.ins C dx []))) : tMakePlain C σ H Q := k
/-- a new instance without attributes, frozen -/
theorem sm_makePlain {C : Addr} (s : Same F H) (k : ∀ u F' H', Stp [] F H F' H' → RD F' (.obj C [] []) u → Q u H') : ∀ x dx, H x = none → H dx = none → dx ≠ x → Q (.ref x) (upd (upd H dx (.own x)) x (.ins C dx [])) := fun x dx h1 h2 h3 => by
  have t1 : Stp [] F H F (upd H dx (.own x)) := Stp.newO s h2
  have h4 : upd H dx (.own x) x = none := by rw [upd_ne (Ne.symm h3)]; exact h1
  have t2 : Stp [] F (upd H dx (.own x)) (upd F x (.ins C dx [])) (upd (upd H dx (.own x)) x (.ins C dx [])) := Stp.new t1.inn h4
  exact k _ _ _ (t1.trans t2 sub_nil) ⟨x, dx, [], rfl, upd_same, RDs.nil⟩
end
theorem sm_mkPlain {F H : Hp} {σ : Sg} {Q : VK} {C : Addr} (s : Same F H) (k : ∀ u F' H', Stp [] F H F' H' → RD F' (.obj C [] []) u → Q u H') : tMakePlain C σ H Q := sm_makePlain s k
/-! ### dicts whose keys are cells -/
def kP (p : Int × Int) : List Key := [.inl p.1, .inl p.2]
theorem kP_inj {p q : Int × Int} : kP p = kP q ↔ p = q := by
  obtain ⟨a, b⟩ := p
  obtain ⟨c, d⟩ := q
  unfold kP
  simp
abbrev dTK {α : Type} (vv : α → V) (zs : List ((Int × Int) × α)) : List (List Key × V) := zs.map fun p => (kP p.1, vv p.2)
def putD {α : Type} (zs : List ((Int × Int) × α)) (k : Int × Int) (v : α) : List ((Int × Int) × α) := if zs.any (fun p => decide (p.1 = k)) = true then zs.map (fun p => if p.1 = k then (p.1, v) else p) else zs ++ [(k, v)]
def lookD {α : Type} (zs : List ((Int × Int) × α)) (k : Int × Int) : Option α := (zs.find? fun p => decide (p.1 = k)).map (·.2)
def eD {α : Type} (vv : α → V) (zs : List ((Int × Int) × α)) : Dat := .dct (dTK vv zs)
section
variable {α : Type} {vv : α → V} {zs : List ((Int × Int) × α)} {k : Int × Int} {v : α}
theorem dec_kP (p q : Int × Int) : decide (kP p = kP q) = decide (p = q) := by
  by_cases h : p = q
  · rw [decide_eq_true h, decide_eq_true (kP_inj.mpr h)]
  · rw [decide_eq_false h, decide_eq_false fun z => h (kP_inj.mp z)]
theorem putK_d : putK (dTK vv zs) (kP k) (vv v) = dTK vv (putD zs k v) := by
  unfold putK putD
  have e : ((dTK vv zs).any fun kv => decide (kv.1 = kP k)) = zs.any fun p => decide (p.1 = k) := by
    rw [List.any_map]
    congr 1
    funext p
    exact dec_kP p.1 k
  rw [e]
  split
  · show List.map _ (List.map _ zs) = List.map _ (List.map _ zs)
    rw [List.map_map, List.map_map]
    refine List.map_congr_left fun p _ => ?_
    show (if kP p.1 = kP k then _ else _) = (fun q : (Int × Int) × α => (kP q.1, vv q.2)) (if p.1 = k then (p.1, v) else p)
    by_cases h : p.1 = k
    · rw [if_pos (by rw [h]), if_pos h]
    · rw [if_neg fun z => h (kP_inj.mp z), if_neg h]
  · show List.map _ zs ++ _ = List.map _ (zs ++ [(k, v)])
    rw [List.map_append]; rfl
theorem valV_d : valV (dTK vv zs) (kP k) = (lookD zs k).map vv := by
  unfold valV lookD
  rw [List.find?_map]
  have e : ((fun kv : List Key × V => decide (kv.1 = kP k)) ∘ fun p : (Int × Int) × α => (kP p.1, vv p.2)) = fun p : (Int × Int) × α => decide (p.1 = k) := by
    funext p
    exact dec_kP p.1 k
  rw [e]
  cases zs.find? fun p => decide (p.1 = k) <;> rfl
end
section
variable {α : Type} {vv : α → V} {K : PySem.W.Frag} {F H : Hp} {σ : Sg} {Q : VK} {D : Ends} {zs : List ((Int × Int) × α)} {k : Int × Int} {v : α} {u x : V} {L : Addr}
theorem rd_key (s : Same F H) (h : RD F (eP Dat.int Dat.int k) u) : ∃ b, u = .ref b ∧ H b = some (.tup ((kP k).map kV)) := by
  obtain ⟨a, vs, rfl, h1, h2⟩ := h
  obtain ⟨y, r, rfl, e1, z, r2, rfl, e2, e3⟩ := h2
  cases (show y = V.int k.1 from e1)
  cases (show z = V.int k.2 from e2)
  cases (show r2 = [] from e3)
  exact ⟨a, rfl, s a _ h1⟩
/-- a new dict -/
theorem sm_dnewT (s : Same F H) (k : ∀ L F' H', Stp [] F H F' H' → Fre H L → Own F' H' L (.dT (dTK vv [])) → Q (.ref L) H') : tDNewT σ H Q := nw_own s (k := k)
theorem own_fzD (s : Same F H) (o : Own F H L (.dT (dTK vv zs))) : ∃ F2, Stp [L] F H F2 H ∧ RD F2 (eD vv zs) (.ref L) := by
  have t := Stp.frz s o
  exact ⟨_, t, L, rfl, upd_same⟩
theorem sm_dputT {P : Hp → Prop} (s : Same F H) (o : Own F H L (.dT (dTK vv zs))) (hk : RD F (eP Dat.int Dat.int k) u) (hl : zs.length < 1000000) (kk : ∀ F' H', Stp [L] F H F' H' → Own F' H' L (.dT (dTK vv (putD zs k v))) → P H') :
    ∃ a H4, V.ref L = .ref a ∧ DPut H a u (vv v) H4 ∧ P H4 := by
  obtain ⟨b, rfl, hb⟩ := rd_key s hk
  exact ⟨L, _, rfl, DPut.t o.h hb (sz_lt (by rw [List.length_map]; exact hl)), kk _ _ (Stp.put s o) ⟨o.f, by rw [upd_same, putK_d], trivial⟩⟩
theorem dget_of (s : Same F H) (h : H L = some (.dT (dTK vv zs))) (hk : RD F (eP Dat.int Dat.int k) u) : DGet H L u ((lookD zs k).map vv) := by
  obtain ⟨b, rfl, hb⟩ := rd_key s hk
  rw [← valV_d]
  exact DGet.t h hb
theorem rd_dct (s : Same F H) (h : RD F (eD vv zs) x) : ∃ L, x = .ref L ∧ H L = some (.dT (dTK vv zs)) := by
  obtain ⟨a, rfl, h1⟩ := h
  exact ⟨a, rfl, s a _ h1⟩
theorem sm_dinO (s : Same F H) (o : Own F H L (.dT (dTK vv zs))) (hk : RD F (eP Dat.int Dat.int k) u) (kk : Q (.bl (lookD zs k).isSome) H) : ∃ a o, V.ref L = .ref a ∧ DGet H a u o ∧ Q (.bl o.isSome) H :=
  ⟨L, _, rfl, dget_of s o.h hk, by rw [Option.isSome_map]; exact kk⟩
theorem sm_dninO (s : Same F H) (o : Own F H L (.dT (dTK vv zs))) (hk : RD F (eP Dat.int Dat.int k) u) (kk : Q (.bl (!(lookD zs k).isSome)) H) : ∃ a o, V.ref L = .ref a ∧ DGet H a u o ∧ Q (.bl (!o.isSome)) H :=
  ⟨L, _, rfl, dget_of s o.h hk, by rw [Option.isSome_map]; exact kk⟩
theorem sm_dinF (s : Same F H) (h : RD F (eD vv zs) x) (hk : RD F (eP Dat.int Dat.int k) u) (kk : Q (.bl (lookD zs k).isSome) H) : ∃ a o, x = .ref a ∧ DGet H a u o ∧ Q (.bl o.isSome) H := by
  obtain ⟨L, rfl, hL⟩ := rd_dct s h
  exact ⟨L, _, rfl, dget_of s hL hk, by rw [Option.isSome_map]; exact kk⟩
theorem sm_dninF (s : Same F H) (h : RD F (eD vv zs) x) (hk : RD F (eP Dat.int Dat.int k) u) (kk : Q (.bl (!(lookD zs k).isSome)) H) : ∃ a o, x = .ref a ∧ DGet H a u o ∧ Q (.bl (!o.isSome)) H := by
  obtain ⟨L, rfl, hL⟩ := rd_dct s h
  exact ⟨L, _, rfl, dget_of s hL hk, by rw [Option.isSome_map]; exact kk⟩
theorem isD_of (h : H L = some (.dT (dTK vv zs))) : IsD H L := .inr ⟨_, .inl h⟩
/-- d.get(k, x) -/
theorem st_dget2 {td ty tx : TE} (k : td σ H fun x H1 => ∃ a, x = .ref a ∧ IsD H1 a ∧ ty σ H1 fun y H2 => tx σ H2 fun z H3 => ∃ o, DGet H3 a y o ∧ Q (o.getD z) H3) : tDGet2 td ty tx σ H Q := k
theorem sm_isDO (o : Own F H L (.dT (dTK vv zs))) {P : Addr → Prop} (k : P L) : ∃ a, V.ref L = .ref a ∧ IsD H a ∧ P a := ⟨L, rfl, isD_of o.h, k⟩
theorem sm_isDF (s : Same F H) (h : RD F (eD vv zs) x) {P : Addr → Prop} (k : ∀ L, x = .ref L → P L) : ∃ a, x = .ref a ∧ IsD H a ∧ P a := by
  obtain ⟨L, rfl, hL⟩ := rd_dct s h
  exact ⟨L, rfl, isD_of hL, k L rfl⟩
theorem sm_getO {d : α} (s : Same F H) (o : Own F H L (.dT (dTK vv zs))) (hk : RD F (eP Dat.int Dat.int k) u) (kk : Q (vv ((lookD zs k).getD d)) H) : ∃ o, DGet H L u o ∧ Q (o.getD (vv d)) H :=
  ⟨_, dget_of s o.h hk, by cases q : lookD zs k <;> rw [q] at kk <;> exact kk⟩
theorem sm_getF {d : α} (s : Same F H) (h : RD F (eD vv zs) (.ref L)) (hk : RD F (eP Dat.int Dat.int k) u) (kk : Q (vv ((lookD zs k).getD d)) H) : ∃ o, DGet H L u o ∧ Q (o.getD (vv d)) H := by
  obtain ⟨L', e, hL⟩ := rd_dct s h
  cases e
  exact ⟨_, dget_of s hL hk, by cases q : lookD zs k <;> rw [q] at kk <;> exact kk⟩
theorem st_din {ty td : TE} (k : ty σ H fun y H1 => td σ H1 fun x H2 => ∃ a o, x = .ref a ∧ DGet H2 a y o ∧ Q (.bl o.isSome) H2) : tDIn ty td σ H Q := k
theorem st_dnin {ty td : TE} (k : ty σ H fun y H1 => td σ H1 fun x H2 => ∃ a o, x = .ref a ∧ DGet H2 a y o ∧ Q (.bl (!o.isSome)) H2) : tDNotIn ty td σ H Q := k
end
theorem sm_addS {K : PySem.W.Frag} {H : Hp} {Q : VK} {a b : Str} (g : Str.length a + Str.length b ≤ 1000000) (k : Q (.str (a ++ b)) H) : rAddU K (.str a) (.str b) H Q :=
  .inr (.inr (.inr ⟨a, b, rfl, rfl, sz_le g, k⟩))
/-- a field of our own instance -/
theorem sm_ofld {K : PySem.W.Frag} {F H : Hp} {L C dx : Addr} {fs : List (Str × V)} {f : Str} {v : V} {Q : VK} (o : Own F H L (.ins C dx fs)) (cl : Cls K C) (na : NoAttr K C f) (hl : fs.lookup f = some v) (k : Q v H) :
    ∃ a C dx fs v, V.ref L = .ref a ∧ H a = some (.ins C dx fs) ∧ Cls K C ∧ NoAttr K C f ∧ fs.lookup f = some v ∧ Q v H := ⟨L, C, dx, fs, v, rfl, o.h, cl, na, hl, k⟩
end DK
set_option maxRecDepth 100000
set_option maxHeartbeats 2000000
/-! DK, twenty-third part: instances of ours, changed in place; tuples of one. -/
namespace DK
open PySem PySem.Spec PyProof.Rows L2
def OwnI (F H : Hp) (C L : Addr) (ns : List Str) (ds : List Dat) : Prop := ∃ dx ws, Own F H L (.ins C dx (ns.zip ws)) ∧ RDs F ds ws
theorem zip_lookup {ns : List Str} {ws : List V} {f : Str} {n : Nat} {u : V} (hf : ns.idxOf f = n) (hl : n < ns.length) (hu : ws[n]? = some u) : (ns.zip ws).lookup f = some u := by
  induction ns generalizing n ws with
  | nil => simp at hl
  | cons m ms ih =>
    cases ws with
    | nil => simp at hu
    | cons w ws =>
      rw [List.zip_cons_cons, List.lookup_cons]
      by_cases z : f = m
      · have zb : (f == m) = true := by simpa using z
        rw [zb]
        have hn : n = 0 := by rw [← hf, List.idxOf_cons]; simp [z]
        subst hn
        simpa using hu
      · have zb : (f == m) = false := by simpa using z
        rw [zb]
        have hm : (m == f) = false := by simpa using fun q => z q.symm
        have hn : n = ms.idxOf f + 1 := by rw [← hf, List.idxOf_cons, hm]; rfl
        subst hn
        exact ih rfl (by simpa using hl) (by simpa using hu)
theorem zip_none {ns : List Str} {ws : List V} {f : Str} (h : f ∉ ns) : (ns.zip ws).lookup f = none := by
  induction ns generalizing ws with
  | nil => simp
  | cons m ms ih =>
    cases ws with
    | nil => simp
    | cons w ws =>
      rw [List.mem_cons, not_or] at h
      rw [List.zip_cons_cons, List.lookup_cons]
      have zb : (f == m) = false := by simpa using h.1
      rw [zb]
      exact ih h.2
theorem putF_zip {ns : List Str} {ws : List V} {f : Str} {n : Nat} {u : V} (hf : ns.idxOf f = n) (hl : n < ns.length) (hw : ws.length = ns.length) : putF f u (ns.zip ws) = ns.zip (ws.set n u) := by
  induction ns generalizing n ws with
  | nil => simp at hl
  | cons m ms ih =>
    cases ws with
    | nil => simp at hw
    | cons w ws =>
      rw [List.zip_cons_cons]
      unfold putF
      by_cases z : m = f
      · have hn : n = 0 := by rw [← hf, List.idxOf_cons]; simp [z]
        subst hn
        rw [if_pos z]
        rfl
      · have hm : (m == f) = false := by simpa using z
        have hn : n = ms.idxOf f + 1 := by rw [← hf, List.idxOf_cons, hm]; rfl
        subst hn
        rw [if_neg z, ih rfl (by simpa using hl) (by simpa using hw)]
        rfl
section
variable {K : PySem.W.Frag} {S : List Addr} {F H F1 H1 : Hp} {C L M : Addr} {ns : List Str} {ds : List Dat} {d : Dat} {f : Str} {n : Nat} {u : V}
theorem Stp.keepI (a : Stp S F H F1 H1) (h : L ∉ S) (o : OwnI F H C L ns ds) : OwnI F1 H1 C L ns ds := by
  obtain ⟨dx, ws, o, r⟩ := o
  exact ⟨dx, ws, a.keep h o, a.ups r⟩
theorem OwnI.ne (o : OwnI F H C L ns ds) (h : Fre H M) : L ≠ M := by
  obtain ⟨dx, ws, o, r⟩ := o
  exact o.ne h
theorem own_fzO (s : Same F H) (o : OwnI F H C L ns ds) : ∃ F2, Stp [L] F H F2 H ∧ RD F2 (.obj C ns ds) (.ref L) := by
  obtain ⟨dx, ws, o, r⟩ := o
  exact own_fzI s o r
/-- o.f of ours -/
theorem sm_fldI {P : V → Prop} (o : OwnI F H C L ns ds) (cl : Cls K C) (na : NoAttr K C f) (hf : ns.idxOf f = n) (hl : n < ns.length) (hd : ds[n]? = some d) (k : ∀ u, RD F d u → P u) :
    ∃ a C dx fs u, V.ref L = .ref a ∧ H a = some (.ins C dx fs) ∧ Cls K C ∧ NoAttr K C f ∧ fs.lookup f = some u ∧ P u := by
  obtain ⟨dx, ws, o, r⟩ := o
  obtain ⟨u, hu, ru⟩ := r.at hd
  exact ⟨L, C, dx, _, u, rfl, o.h, cl, na, zip_lookup hf hl hu, k u ru⟩
/-- o.f = x of ours -/
theorem sm_setI {P : Hp → Prop} (s : Same F H) (o : OwnI F H C L ns ds) (hy : RD F d u) (cl : Cls K C) (na : NoAttr K C f) (hf : ns.idxOf f = n) (hl : n < ns.length) (hs : ns.length < 1000) (hn : ds.length = ns.length) (k : ∀ F' H', Stp [L] F H F' H' → OwnI F' H' C L ns (ds.set n d) → P H') :
    ∃ a C dx fs, V.ref L = .ref a ∧ H a = some (.ins C dx fs) ∧ Cls K C ∧ NoAttr K C f ∧ fs.length < 1000 ∧ P (upd H a (.ins C dx (putF f u fs))) := by
  obtain ⟨dx, ws, o, r⟩ := o
  have hw : ws.length = ns.length := r.len.trans hn
  refine ⟨L, C, dx, _, rfl, o.h, cl, na, ?_, ?_⟩
  · rw [List.length_zip]; omega
  · rw [putF_zip hf hl hw]
    have t : Stp [L] F H F (upd H L (.ins C dx (ns.zip (ws.set n u)))) := Stp.put s o
    exact k F _ t ⟨dx, _, ⟨o.f, upd_same, trivial⟩, RDs.set n r hy⟩
/-- the instance whose method is called -/
theorem sm_metI {m : Str} {Cn : Str} {sp : Sp} {al : List (Str × Sp)} {R : Sp → Prop} (o : OwnI F H (He.ga K Cn) L ns ds) (hm : m ∉ ns) (ha : (Cn, sp) ∈ al) (k : R sp) :
    ∃ a dx fs p, p ∈ al ∧ V.ref L = .ref a ∧ H a = some (.ins (He.ga K p.1) dx fs) ∧ fs.lookup m = none ∧ R p.2 := by
  obtain ⟨dx, ws, o, r⟩ := o
  exact ⟨L, dx, _, (Cn, sp), ha, rfl, o.h, zip_none hm, k⟩
end
/-- a tuple of one -/
abbrev eP1 {α : Type} (e : α → Dat) (p : α) : Dat := .tup [e p]
section
variable {α : Type} {e : α → Dat}
theorem NlE.eP1 (h : NlE e) : NlE (eP1 e) := fun p => by simp only [DK.eP1, noL, noLs, h p, Bool.and_self]
theorem SamE.eP1 (h : SamE e) : SamE (eP1 e) := fun x y => by simp only [DK.eP1, sameD, samesD, Bool.and_true]; exact h x y
end
theorem NlE.eD {α} {vv : α → V} : NlE (eD vv) := fun _ => by simp only [DK.eD, DK.noL]
section
variable {H F : Hp} {L : Addr} {α : Type} {vv : α → V} {zs : List ((Int × Int) × α)} {k : Int × Int} {u x : V} {G : Option V → Prop}
theorem sm_dinO' (s : Same F H) (o : Own F H L (.dT (dTK vv zs))) (hk : RD F (eP Dat.int Dat.int k) u) (kk : ∀ o : Option V, o.isSome = (lookD zs k).isSome → G o) : ∃ a o, V.ref L = .ref a ∧ DGet H a u o ∧ G o :=
  ⟨L, _, rfl, dget_of s o.h hk, kk _ (by rw [Option.isSome_map])⟩
theorem sm_dinF' (s : Same F H) (h : RD F (eD vv zs) x) (hk : RD F (eP Dat.int Dat.int k) u) (kk : ∀ o : Option V, o.isSome = (lookD zs k).isSome → G o) : ∃ a o, x = .ref a ∧ DGet H a u o ∧ G o := by
  obtain ⟨L, rfl, hL⟩ := rd_dct s h
  exact ⟨L, _, rfl, dget_of s hL hk, kk _ (by rw [Option.isSome_map])⟩
end
end DK
set_option maxRecDepth 100000
set_option maxHeartbeats 2000000
/-! DK, twenty-fourth part: rows of ours that grow; reading dicts with a choice. -/
namespace DK
open PySem PySem.Spec PyProof.Rows L2
section
variable {α : Type} {F H : Hp} {L r : Addr} {rs : List Addr} {e : α → Dat} {xss : List (List α)} {ws : List V} {xs : List α}
theorem OwnN.nil (o : Own F H L (.lst [])) : OwnN F H L [] e [] := ⟨o, by simp, rfl, fun i r xs h => by simp at h⟩
theorem FreN.one (h : Fre H L) : FreN H [L] := fun q hq => by rw [List.mem_singleton.mp hq]; exact h
theorem FreN.snoc (h : FreN H (L :: rs)) (f : Fre H r) : FreN H (L :: (rs ++ [r])) := fun q hq => by
  rcases List.mem_cons.mp hq with rfl | hq
  · exact h _ List.mem_cons_self
  · rcases List.mem_append.mp hq with hq | hq
    · exact h _ (List.mem_cons_of_mem _ hq)
    · rw [List.mem_singleton.mp hq]; exact f
theorem sm_appR {Q : VK} (s : Same F H) (o : OwnN F H L rs e xss) (h : Own F H r (.lst ws)) (rr : RDs F (xs.map e) ws) (hr : r ∉ L :: rs) (z : xss.length < 1000000) (k : ∀ F' H', Stp [L] F H F' H' → OwnN F' H' L (rs ++ [r]) e (xss ++ [xs]) → Q .non H') : rAppend (.ref L) [.ref r] H Q :=
  st_app s o.own (by rw [List.length_map, o.len]; exact z) fun F' H' t o' => k F' H' t ⟨by rw [List.map_append]; exact o', by
    have nd := o.nd
    rw [List.nodup_cons] at nd ⊢
    rw [List.mem_cons, not_or] at hr
    refine ⟨fun q => ?_, ?_⟩
    · rcases List.mem_append.mp q with q | q
      · exact nd.1 q
      · exact hr.1 (List.mem_singleton.mp q).symm
    · rw [List.nodup_append]
      refine ⟨nd.2, by simp, fun a ha b hb q => ?_⟩
      rw [List.mem_singleton.mp hb] at q
      exact hr.2 (q ▸ ha), by simp [o.len], fun i r' xs' h1 h2 => by
    have nd := List.nodup_cons.mp o.nd
    by_cases z : i < rs.length
    · rw [List.getElem?_append_left z] at h1
      rw [List.getElem?_append_left (by rw [← o.len]; exact z)] at h2
      obtain ⟨ws, a, b⟩ := o.row i r' xs' h1 h2
      refine ⟨ws, t.keep (fun q => nd.1 ?_) a, t.ups b⟩
      rw [← List.mem_singleton.mp q]; exact List.mem_of_getElem? h1
    · have e1 : i = rs.length := by
        have := (List.getElem?_eq_some_iff.mp h1).1
        rw [List.length_append] at this
        simp at this
        omega
      subst e1
      rw [List.getElem?_append_right (Nat.le_refl _)] at h1
      rw [List.getElem?_append_right (by rw [o.len]; exact Nat.le_refl _)] at h2
      simp [o.len] at h1 h2
      subst h1 h2
      refine ⟨ws, t.keep (fun q => hr ?_) h, t.ups rr⟩
      rw [List.mem_singleton.mp q]; exact List.mem_cons_self⟩
end
section
variable {H F : Hp} {L : Addr} {α : Type} {vv : α → V} {zs : List ((Int × Int) × α)} {k : Int × Int} {u x : V} {G : Option V → Prop}
theorem sm_getO' {d : α} (s : Same F H) (o : Own F H L (.dT (dTK vv zs))) (hk : RD F (eP Dat.int Dat.int k) u) (kk : ∀ o : Option V, o.getD (vv d) = vv ((lookD zs k).getD d) → G o) : ∃ o, DGet H L u o ∧ G o :=
  ⟨_, dget_of s o.h hk, kk _ (by cases lookD zs k <;> rfl)⟩
theorem sm_getF' {d : α} (s : Same F H) (h : RD F (eD vv zs) (.ref L)) (hk : RD F (eP Dat.int Dat.int k) u) (kk : ∀ o : Option V, o.getD (vv d) = vv ((lookD zs k).getD d) → G o) : ∃ o, DGet H L u o ∧ G o := by
  obtain ⟨L', e, hL⟩ := rd_dct s h
  cases e
  exact ⟨_, dget_of s hL hk, kk _ (by cases lookD zs k <;> rfl)⟩
end
end DK
set_option maxRecDepth 100000
set_option maxHeartbeats 2000000
/-! DK, twenty-fifth part: least and greatest of a tuple; a written tuple unpacked at once. -/
namespace PySem
open PySem.Spec PyProof.Rows
section
variable {prog : Program} {w : World} {A : Around} {E : Value → Shared → Prop} {s : Shared} {l : Addr} {xs : Array (Int × Tok)}
theorem dk_iter_tup {vs : Array Value} {Q : Value → Shared → Prop} (hl : s.heap.IsTuple l vs)
    (h : ∀ s₂ : Shared, s₂ = { s with heap := s.heap.push { cls := .type "tuple_iterator", data := .fields #[.ref l, .int 0 0] } } → l ≠ s.heap.objs.size → (s₂.heap.IsTupleIter s.heap.objs.size l 0 ∧ s₂.heap.IsTuple l vs) → (∀ b ∈ [s.heap.objs.size, l], b < s₂.heap.objs.size) → (∀ b o, s.heap.get? b = some o → s₂.heap.get? b = some o) → (∀ b o, s.heap.get? b = some o → b ∉ [s.heap.objs.size]) → Q (.ref s.heap.objs.size) s₂) :
    wpAny (model prog w) A (pyIter (.ref l)) Q E s := by
  obtain ⟨o, ho, hc, n, hd⟩ := id hl
  have hne : l ≠ s.heap.objs.size := Nat.ne_of_lt (Heap.lt_size ho)
  refine wpAny_pyIter_tuple hl (h _ rfl hne ⟨⟨_, Heap.get?_push_size _ rfl, rfl, rfl⟩, hl.at fun o e => Heap.get?_push_of_some _ e⟩ (fun b hb => ?_) (fun b o e => Heap.get?_push_of_some _ e) fun b o e hb => ?_)
  · rcases List.mem_cons.mp hb with rfl | hb
    · exact Heap.lt_size (Heap.get?_push_size _ rfl)
    · obtain rfl := List.mem_singleton.mp hb
      exact Heap.lt_size (Heap.get?_push_of_some _ ho)
  · rw [List.mem_singleton.mp hb] at e
    exact Nat.lt_irrefl _ (Heap.lt_size e)
theorem dk_min_intTup {Q : Value → Shared → Prop} (hh : A.handled = none) (hl : s.heap.IsTuple l (intItems xs)) (hne : 0 < xs.size)
    (h : ∀ v h' tk, (intItems xs)[argBest (fun i j => decide (numAt xs i < numAt xs j)) (xs.size - 1)]? = some v → (∀ b o, s.heap.get? b = some o → h'.get? b = some o) → Q v { s with heap := h', toks := tk }) :
    wpAny (model prog w) A (call (.builtin "min") [.ref l]) Q E s := by
  refine call_min_walk (dk_iter_tup hl fun s₂ e nl st hfp hold hnew => ?_)
  subst e
  refine ⟨_, _, _, _, _, _, _, rfl, Walks.tuple (A := A.in1) hh _ l nl (intItems xs), st, hfp, by simpa [intItems] using hne, CmpOf.ints_lt (numAt xs) (fun _ _ => intItems_at), fun v h' tk hP hk => ?_⟩
  exact h v h' tk (by simpa [intItems] using hP) fun b o e => hk b o (hnew b o e) (hold b o e)
theorem dk_max_intTup {Q : Value → Shared → Prop} (hh : A.handled = none) (hl : s.heap.IsTuple l (intItems xs)) (hne : 0 < xs.size)
    (h : ∀ v h' tk, (intItems xs)[argBest (fun i j => decide (numAt xs i > numAt xs j)) (xs.size - 1)]? = some v → (∀ b o, s.heap.get? b = some o → h'.get? b = some o) → Q v { s with heap := h', toks := tk }) :
    wpAny (model prog w) A (call (.builtin "max") [.ref l]) Q E s := by
  refine call_max_walk (dk_iter_tup hl fun s₂ e nl st hfp hold hnew => ?_)
  subst e
  refine ⟨_, _, _, _, _, _, _, rfl, Walks.tuple (A := A.in1) hh _ l nl (intItems xs), st, hfp, by simpa [intItems] using hne, CmpOf.ints_gt (numAt xs) (fun _ _ => intItems_at), fun v h' tk hP hk => ?_⟩
  exact h v h' tk (by simpa [intItems] using hP) fun b o e => hk b o (hnew b o e) (hold b o e)
end
end PySem
namespace DK
open PySem PySem.Spec PyProof.Rows L2
def rMaxT (K : PySem.W.Frag) : List V → Hp → VK → Prop := fun vs H Q => ∃ (a : Addr) (ns : List Int), vs = [V.ref a] ∧ SqT K H a (ns.map V.int) ∧ 0 < ns.length ∧ ∀ m, m ∈ ns → (∀ y, y ∈ ns → y ≤ m) → Q (.int m) H
def rMinT (K : PySem.W.Frag) : List V → Hp → VK → Prop := fun vs H Q => ∃ (a : Addr) (ns : List Int), vs = [V.ref a] ∧ SqT K H a (ns.map V.int) ∧ 0 < ns.length ∧ ∀ m, m ∈ ns → (∀ y, y ∈ ns → m ≤ y) → Q (.int m) H
theorem cr_minT {X : Cx} (hc : X.calm = true) : CallR X (.builtin "min") (rMinT X.K) := by
  intro pins s σ H vs us Q I r h
  obtain ⟨a, ns, rfl, hs, hne, q⟩ := h
  obtain ⟨its, rv, ht, _⟩ := I.tuple hs
  rw [Vals.ref1 r]
  have hi := rv.ints
  obtain ⟨xs, e⟩ := hi.allInts.items
  have hn : numsOf (intItems xs).toList = ns := by rw [← e]; exact hi.numsOf
  rw [nums_intItems] at hn
  subst hn
  rw [e] at ht
  have hsz : 0 < xs.size := by simpa using hne
  refine PySem.dk_min_intTup (I.ok.hd hc) ht hsz fun v h' tk hv hk => ?_
  obtain ⟨t, rfl⟩ := intItems_at hv
  obtain ⟨h1, h2⟩ := argBest_lt (numAt xs) (xs.size - 1)
  refine ⟨.int _, H, I.kept hk, ⟨_, rfl⟩, q _ ?_ fun a ha => ?_⟩
  · rw [numAt_eq]; exact PySem.getD_mem (by rw [List.length_map, Array.length_toList]; omega)
  · obtain ⟨j, hj, rfl⟩ := mem_getD ha
    rw [List.length_map, Array.length_toList] at hj
    rw [← numAt_eq]; exact h2 j (by omega)
theorem cr_maxT {X : Cx} (hc : X.calm = true) : CallR X (.builtin "max") (rMaxT X.K) := by
  intro pins s σ H vs us Q I r h
  obtain ⟨a, ns, rfl, hs, hne, q⟩ := h
  obtain ⟨its, rv, ht, _⟩ := I.tuple hs
  rw [Vals.ref1 r]
  have hi := rv.ints
  obtain ⟨xs, e⟩ := hi.allInts.items
  have hn : numsOf (intItems xs).toList = ns := by rw [← e]; exact hi.numsOf
  rw [nums_intItems] at hn
  subst hn
  rw [e] at ht
  have hsz : 0 < xs.size := by simpa using hne
  refine PySem.dk_max_intTup (I.ok.hd hc) ht hsz fun v h' tk hv hk => ?_
  obtain ⟨t, rfl⟩ := intItems_at hv
  obtain ⟨h1, h2⟩ := argBest_gt (numAt xs) (xs.size - 1)
  refine ⟨.int _, H, I.kept hk, ⟨_, rfl⟩, q _ ?_ fun a ha => ?_⟩
  · rw [numAt_eq]; exact PySem.getD_mem (by rw [List.length_map, Array.length_toList]; omega)
  · obtain ⟨j, hj, rfl⟩ := mem_getD ha
    rw [List.length_map, Array.length_toList] at hj
    rw [← numAt_eq]; exact h2 j (by omega)
def rMaxU (K : PySem.W.Frag) : List V → Hp → VK → Prop := fun vs H Q => rMax K vs H Q ∨ rMaxT K vs H Q
def rMinU (K : PySem.W.Frag) : List V → Hp → VK → Prop := fun vs H Q => rMin K vs H Q ∨ rMinT K vs H Q
theorem cr_maxU {X : Cx} (hc : X.calm = true) : CallR X (.builtin "max") (rMaxU X.K) := CallR.or (cr_max hc) (cr_maxT hc)
theorem cr_minU {X : Cx} (hc : X.calm = true) : CallR X (.builtin "min") (rMinU X.K) := CallR.or (cr_min hc) (cr_minT hc)
section
variable {K : PySem.W.Frag} {F H : Hp} {v : V} {Q : VK} {ns : List Int} {m : Int} {b : Bool}
theorem ints_pos (h : m ∈ ns) : 0 < ns.length := List.length_pos_of_mem h
theorem sm_maxLU (s : Same F H) (h : RD F (.lst (ns.map Dat.int)) v) (h1 : m ∈ ns) (h2 : ∀ y ∈ ns, y ≤ m) (k : Q (.int m) H) : rMaxU K [v] H Q := .inl (sm_maxL s h h1 h2 k)
theorem sm_minLU (s : Same F H) (h : RD F (.lst (ns.map Dat.int)) v) (h1 : m ∈ ns) (h2 : ∀ y ∈ ns, m ≤ y) (k : Q (.int m) H) : rMinU K [v] H Q := .inl (sm_minL s h h1 h2 k)
theorem sm_maxTU (s : Same F H) (h : RD F (.tup (ns.map Dat.int)) v) (h1 : m ∈ ns) (h2 : ∀ y ∈ ns, y ≤ m) (k : Q (.int m) H) : rMaxU K [v] H Q := by
  obtain ⟨a, vs, rfl, h3, h4⟩ := rd_tupV (K := K) s h
  rw [h4.ints] at h3
  refine .inr ⟨a, ns, rfl, h3, ints_pos h1, fun m' a1 a2 => ?_⟩
  have : m' = m := Int.le_antisymm (h2 m' a1) (a2 m h1)
  rw [this]; exact k
theorem sm_minTU (s : Same F H) (h : RD F (.tup (ns.map Dat.int)) v) (h1 : m ∈ ns) (h2 : ∀ y ∈ ns, m ≤ y) (k : Q (.int m) H) : rMinU K [v] H Q := by
  obtain ⟨a, vs, rfl, h3, h4⟩ := rd_tupV (K := K) s h
  rw [h4.ints] at h3
  refine .inr ⟨a, ns, rfl, h3, ints_pos h1, fun m' a1 a2 => ?_⟩
  have : m' = m := Int.le_antisymm (a2 m h1) (h2 m' a1)
  rw [this]; exact k
theorem sm_maxQU (s : Same F H) (h : RD F (eQ b Dat.int ns) v) (h1 : m ∈ ns) (h2 : ∀ y ∈ ns, y ≤ m) (k : Q (.int m) H) : rMaxU K [v] H Q := by
  cases b
  · exact sm_maxLU s h h1 h2 k
  · exact sm_maxTU s h h1 h2 k
theorem sm_minQU (s : Same F H) (h : RD F (eQ b Dat.int ns) v) (h1 : m ∈ ns) (h2 : ∀ y ∈ ns, m ≤ y) (k : Q (.int m) H) : rMinU K [v] H Q := by
  cases b
  · exact sm_minLU s h h1 h2 k
  · exact sm_minTU s h h1 h2 k
theorem sm_sumQU (s : Same F H) (h : RD F (eQ b Dat.int ns) v) (k : Q (.int ns.sum) H) : rSumU K [v] H Q := by
  cases b
  · exact sm_sumLU s h k
  · exact sm_sumTU s h k
end
section
variable {K : PySem.W.Frag} {F H : Hp} {vs : List V} {Q : VK} {x y : V} {p : Addr} {σ : L2.St}
theorem newTo (z : vs.length ≤ 1000000) (e : Same F H) (k : ∀ p F' H', Stp [] F H F' H' → F' p = some (.tup vs) → Q (.ref p) H') : NewT vs H Q := ⟨sz_le z, fun p n => k p _ _ (Stp.new e n) upd_same⟩
theorem sm_g2V {t : TGs} {R : Sg → Hp → Prop} (s : Same F H) (h : F p = some (.tup [x, y])) (k : t [x, y] σ H R) : gTupU K 2 t (.ref p) σ H R :=
  .inl ⟨p, [x, y], rfl, same_t s h, rfl, k⟩
end
theorem sm_sumO {K : PySem.W.Frag} {F H : Hp} {L : Addr} {vs : List V} {ns : List Int} {Q : VK} (o : Own F H L (.lst vs)) (r : RDs F (ns.map Dat.int) vs) (k : Q (.int ns.sum) H) : rSumU K [.ref L] H Q :=
  .inl ⟨L, ns, rfl, by rw [← r.ints]; exact SqL.of o.h, k⟩
theorem NnE.eP5 {α β γ δ ε : Type} {e : α → Dat} {g : β → Dat} {f : γ → Dat} {k : δ → Dat} {l : ε → Dat} (h : NnE e) (h' : NnE g) (h'' : NnE f) (h3 : NnE k) (h4 : NnE l) : NnE (eP5 e g f k l) := fun p => by simp only [DK.eP5, nn, nns, h p.1, h' p.2.1, h'' p.2.2.1, h3 p.2.2.2.1, h4 p.2.2.2.2, Bool.and_self]
end DK
set_option maxRecDepth 100000
set_option maxHeartbeats 2000000
/-! DK, twenty-sixth part: what is a list or a tuple, sliced and zipped. -/
namespace DK
open PySem PySem.Spec PyProof.Rows L2
theorem sm_slQ {K : PySem.W.Frag} {F H : Hp} {α : Type} {e : α → Dat} {zs : List α} {v : V} {Q : VK} {lo hi : Option Int} {b : Bool} (s : Same F H) (h : RD F (eQ b e zs) v) (k : ∀ u F' H', Stp [] F H F' H' → RD F' (eQ b e (cutL zs lo hi)) u → Q u H') : rSlU K v lo hi H Q := by
  cases b
  · exact sm_slL s h k
  · exact sm_slT s h k
section
variable {α β γ : Type} {K : PySem.W.Frag} {F H : Hp} {σ : Sg} {Q : VK} {X : Xc → Option Int → Prop} {f : α → Rs (Option β)} {zs : List α} {g : TG} {tt : TT} {te : TE} {v : V} {e : α → Dat} {e2 : β → Dat} {L : Addr} {vs : List V} {ws : List Nat}
theorem lc_R3 {lo hi c : Int} {P : List β → Prop} {f : Int → Rs (Option β)} (hb : rngSOk lo hi c = true) (s : Same F H) (hz : (rngS lo hi c).length ≤ 1000000) (hp : Post (mapR f (rngS lo hi c)) P X)
    (hs : ∀ (x : Int) F1 H1, Stp [] F H F1 H1 → LcTurn g tt te ws σ e2 F1 H1 F1 H1 (f x) X (.int x))
    (hd : ∀ L vs r F' H', Stp [] F H F' H' → Fre H L → Own F' H' L (.lst vs) → RDs F' (r.map e2) vs → P r → Q (.ref L) H') : ∃ (i j c' : Int) (n : Nat), [V.int lo, V.int hi, V.int c] = [.int i, .int j, .int c'] ∧ RgC i j c' n ∧ LcOwes g tt te ws σ Q (Itc i c' n) H := by
  simp only [rngSOk, Bool.and_eq_true, decide_eq_true_eq] at hb
  refine ⟨lo, hi, c, (Builtin.Range.rangeSize lo hi c).toNat, rfl, ⟨hb.1.1, hb.1.2, hb.2, ?_⟩, ?_⟩
  · have := size_nn (lo := lo) (hi := hi) hb.1.1; omega
  · refine lc_core2 (walk_rangeC (lo := lo) (c := c) (n := (Builtin.Range.rangeSize lo hi c).toNat)) (by simp [rngS]) (by simpa [rngS] using hz) s hp (fun _ _ _ => trivial) ?_ hd
    rintro i x u F1 H1 H2 hx t ⟨rfl, rfl⟩
    have := rngS_at hx
    subst this
    exact ⟨F1, Stp.refl t.inn, hs _ F1 _ t⟩
end
end DK
set_option maxRecDepth 100000
set_option maxHeartbeats 2000000
/-! DK, twenty-seventh part: an instance of ours with lists, rows and a dict of ours in it (Setting). -/
namespace DK
open PySem PySem.Spec PyProof.Rows L2
abbrev SetZ := Int × List (List Int) × List (Int × Int) × List Int × List Int × List (List Int × Int) × List ((Int × Int) × Int)
abbrev setF (z : SetZ) (Lst Ld Ls : Addr) (vc vs vi : V) : List (Str × V) := [("most", .int z.1), ("shades", .ref Ls), ("cells", vc), ("shares", vs), ("inks", vi), ("states", .ref Lst), ("set_inks", .ref Ld)]
structure OwnP (C : Addr) (F H : Hp) (a : Addr) (z : SetZ) (dx Lst Ld Ls : Addr) (rss : List Addr) (vc vs vi : V) (ws : List V) : Prop where
  ins : Own F H a (.ins C dx (setF z Lst Ld Ls vc vs vi))
  shades : OwnN F H Ls rss Dat.int z.2.1
  cells : RD F (eL (eP Dat.int Dat.int) z.2.2.1) vc
  shares : RD F (eL Dat.int z.2.2.2.1) vs
  inks : RD F (eL Dat.int z.2.2.2.2.1) vi
  states : Own F H Lst (.lst ws)
  rstates : RDs F (z.2.2.2.2.2.1.map (eP (eT Dat.int) Dat.int)) ws
  dict : Own F H Ld (.dT (dTK V.int z.2.2.2.2.2.2))
  ap : Lst ∉ Ls :: rss
def OwnS (C : Addr) (F H : Hp) (a : Addr) (rs : List Addr) (z : SetZ) : Prop :=
  ∃ dx Lst Ld Ls rss vc vs vi ws, rs = Lst :: Ld :: Ls :: rss ∧ OwnP C F H a z dx Lst Ld Ls rss vc vs vi ws
section
variable {α : Type} {C : Addr} {F H F1 H1 : Hp} {L L2 a b r dx Lst Ld Ls : Addr} {rs rss S S' R : List Addr} {z : SetZ} {o : HO} {vc vs vi : V} {ws : List V} {e : α → Dat} {xss : List (List α)}
/-- what the parts are, all apart -/
theorem OwnS.opn (o : OwnS C F H a rs z) : ∃ dx Lst Ld Ls rss vc vs vi ws, rs = Lst :: Ld :: Ls :: rss ∧ Own F H a (.ins C dx [("most", .int z.1), ("shades", .ref Ls), ("cells", vc), ("shares", vs), ("inks", vi), ("states", .ref Lst), ("set_inks", .ref Ld)]) ∧ OwnN F H Ls rss Dat.int z.2.1 ∧ RD F (eL (eP Dat.int Dat.int) z.2.2.1) vc ∧ RD F (eL Dat.int z.2.2.2.1) vs ∧ RD F (eL Dat.int z.2.2.2.2.1) vi ∧ Own F H Lst (.lst ws) ∧ RDs F (z.2.2.2.2.2.1.map (eP (eT Dat.int) Dat.int)) ws ∧ Own F H Ld (.dT (dTK V.int z.2.2.2.2.2.2)) ∧ Lst ∉ Ls :: rss ∧ a ∉ Ls :: rss ∧ Ld ∉ Ls :: rss ∧ a ≠ Lst ∧ a ≠ Ld ∧ Lst ≠ Ld := by
  obtain ⟨dx, Lst, Ld, Ls, rss, vc, vs, vi, ws, e, p⟩ := o
  have n1 : ∀ {x : Addr} {o : HO}, Own F H x o → (∀ vs, o ≠ .lst vs) → x ∉ Ls :: rss := fun h n q => by
    obtain ⟨vs, w⟩ := p.shades.mem q
    have := h.h.symm.trans w.h
    exact n vs (Option.some.inj this)
  refine ⟨dx, Lst, Ld, Ls, rss, vc, vs, vi, ws, e, p.ins, p.shades, p.cells, p.shares, p.inks, p.states, p.rstates, p.dict, p.ap, n1 p.ins (fun _ q => by cases q), n1 p.dict (fun _ q => by cases q), ?_, ?_, ?_⟩
  · rintro rfl; have := p.ins.h.symm.trans p.states.h; cases this
  · rintro rfl; have := p.ins.h.symm.trans p.dict.h; cases this
  · rintro rfl; have := p.states.h.symm.trans p.dict.h; cases this
/-- .. at the addresses known -/
theorem OwnS.opn2 (o : OwnS C F H a (Lst :: Ld :: Ls :: rss) z) : ∃ dx vc vs vi ws, Own F H a (.ins C dx [("most", .int z.1), ("shades", .ref Ls), ("cells", vc), ("shares", vs), ("inks", vi), ("states", .ref Lst), ("set_inks", .ref Ld)]) ∧ OwnN F H Ls rss Dat.int z.2.1 ∧ RD F (eL (eP Dat.int Dat.int) z.2.2.1) vc ∧ RD F (eL Dat.int z.2.2.2.1) vs ∧ RD F (eL Dat.int z.2.2.2.2.1) vi ∧ Own F H Lst (.lst ws) ∧ RDs F (z.2.2.2.2.2.1.map (eP (eT Dat.int) Dat.int)) ws ∧ Own F H Ld (.dT (dTK V.int z.2.2.2.2.2.2)) := by
  obtain ⟨dx, Lst', Ld', Ls', rss', vc, vs, vi, ws, e, p⟩ := o
  simp only [List.cons.injEq] at e
  obtain ⟨rfl, rfl, rfl, rfl⟩ := e
  exact ⟨dx, vc, vs, vi, ws, p.ins, p.shades, p.cells, p.shares, p.inks, p.states, p.rstates, p.dict⟩
theorem OwnS.mk {most : Int} {shades : List (List Int)} {cells : List (Int × Int)} {shares inks : List Int} {states : List (List Int × Int)} {dict : List ((Int × Int) × Int)} (h1 : Own F H a (.ins C dx [("most", .int most), ("shades", .ref Ls), ("cells", vc), ("shares", vs), ("inks", vi), ("states", .ref Lst), ("set_inks", .ref Ld)])) (h2 : OwnN F H Ls rss Dat.int shades) (h3 : RD F (eL (eP Dat.int Dat.int) cells) vc) (h4 : RD F (eL Dat.int shares) vs) (h5 : RD F (eL Dat.int inks) vi) (h6 : Own F H Lst (.lst ws)) (h7 : RDs F (states.map (eP (eT Dat.int) Dat.int)) ws) (h8 : Own F H Ld (.dT (dTK V.int dict))) (h9 : Lst ∉ Ls :: rss) : OwnS C F H a (Lst :: Ld :: Ls :: rss) (most, shades, cells, shares, inks, states, dict) :=
  ⟨dx, Lst, Ld, Ls, rss, vc, vs, vi, ws, rfl, ⟨h1, h2, h3, h4, h5, h6, h7, h8, h9⟩⟩
theorem OwnS.insI (o : OwnS C F H a rs z) : ∃ dx fs, H a = some (.ins C dx fs) ∧ ∀ m : Str, m ∉ (["most", "shades", "cells", "shares", "inks", "states", "set_inks"] : List Str) → fs.lookup m = none := by
  obtain ⟨dx, Lst, Ld, Ls, rss, vc, vs, vi, ws, e, p⟩ := o
  refine ⟨dx, _, p.ins.h, fun m hm => ?_⟩
  exact zip_none (ns := (["most", "shades", "cells", "shares", "inks", "states", "set_inks"] : List Str)) (ws := [.int z.1, .ref Ls, vc, vs, vi, .ref Lst, .ref Ld]) hm
theorem OwnS.mem (o : OwnS C F H a rs z) {q : Addr} (h : q ∈ a :: rs) : ∃ x, Own F H q x := by
  obtain ⟨dx, Lst, Ld, Ls, rss, vc, vs, vi, ws, rfl, p⟩ := o
  rcases List.mem_cons.mp h with rfl | h
  · exact ⟨_, p.ins⟩
  rcases List.mem_cons.mp h with rfl | h
  · exact ⟨_, p.states⟩
  rcases List.mem_cons.mp h with rfl | h
  · exact ⟨_, p.dict⟩
  obtain ⟨vs, w⟩ := p.shades.mem h
  exact ⟨_, w⟩
theorem Stp.keepS (s : Stp S F H F1 H1) (d : Dis S (a :: rs)) (o : OwnS C F H a rs z) : OwnS C F1 H1 a rs z := by
  obtain ⟨dx, Lst, Ld, Ls, rss, vc, vs, vi, ws, rfl, p⟩ := o
  have dm : ∀ q, q ∈ a :: Lst :: Ld :: Ls :: rss → q ∉ S := d
  exact ⟨dx, Lst, Ld, Ls, rss, vc, vs, vi, ws, rfl, ⟨s.keep (dm _ (by simp)) p.ins, s.keepN (fun q hq => dm q (List.mem_cons_of_mem _ (List.mem_cons_of_mem _ (List.mem_cons_of_mem _ hq)))) p.shades, s.up p.cells, s.up p.shares, s.up p.inks, s.keep (dm _ (by simp)) p.states, s.ups p.rstates, s.keep (dm _ (by simp)) p.dict, p.ap⟩⟩
theorem Dis.freS (o : OwnS C F H a rs z) (f : FreN H S) : Dis S (a :: rs) := fun q hq y => by
  obtain ⟨x, h⟩ := o.mem hq
  have h2 := h.h
  rw [f q y] at h2
  cases h2
theorem Dis.oldS (o : OwnS C F H a rs z) (f : FreN H R) : Dis (a :: rs) R := fun q hq y => by
  obtain ⟨x, h⟩ := o.mem y
  have := f q hq
  rw [h.h] at this
  cases this
theorem nm_ownS (o : OwnS C F H a rs z) (f : Fre H b) : b ∉ a :: rs := fun y => by
  obtain ⟨x, h⟩ := o.mem y
  have h2 := h.h
  rw [show H b = none from f] at h2
  cases h2
theorem FreN.cons (h : Fre H a) (t : FreN H rs) : FreN H (a :: rs) := fun q hq => by
  rcases List.mem_cons.mp hq with rfl | hq
  · exact h
  · exact t q hq
theorem sub_tl1 {x : Addr} : ∀ q ∈ S', q ∈ x :: S' ∨ H q = none := fun q h => .inl (List.mem_cons_of_mem _ h)
theorem sub_tl3 {x y w : Addr} : ∀ q ∈ S', q ∈ x :: y :: w :: S' ∨ H q = none := fun q h => .inl (List.mem_cons_of_mem _ (List.mem_cons_of_mem _ (List.mem_cons_of_mem _ h)))
/-- rows made while others are lent -/
theorem Lent.keepN {F0 H0 F5 H5 : Hp} (l : Lent F0 H0 F1) (s : Stp S F1 H0 F5 H5) (o5 : OwnN F5 H5 L rs e xss) (h0 : FreN H0 (L :: rs)) (hn : ∀ xs : List α, noLs (xs.map e) = true) : OwnN (thaw F0 F5) H5 L rs e xss :=
  ⟨l.keep s o5.own (h0 _ List.mem_cons_self), o5.nd, o5.len, fun i r xs h1 h2 => by
    obtain ⟨ws, h3, h4⟩ := o5.row i r xs h1 h2
    exact ⟨ws, l.keep s h3 (h0 r (List.mem_cons_of_mem _ (List.mem_of_getElem? h1))), l.rds s h4 (hn xs)⟩⟩
end
end DK
set_option maxRecDepth 100000
set_option maxHeartbeats 2000000
/-! DK, twenty-eighth part: isinstance with a tuple of classes, of a caught error. -/
namespace DK
open PySem PySem.Spec PyProof.Rows L2
/-- one of some classes -/
def AnyC (K : PySem.W.Frag) (D : Addr) : List V → Bool → Prop
  | [], b => b = false
  | v :: vs, b => ∃ C b1 b2, v = .ref C ∧ PySem.W.kitOne K (.ref D) (.ref C) = some b1 ∧ AnyC K D vs b2 ∧ b = (b1 || b2)
theorem AnyC.kit {K : PySem.W.Frag} {D : Addr} : ∀ {vs : List V} {us : List Value} {b : Bool}, AnyC K D vs b → Vals vs us → PySem.W.kitAny K (.ref D) us = some b
  | [], _, b, h, r => by cases r; cases h; rfl
  | v :: vs, _, b, h, r => by
    cases r with
    | cons r1 r2 =>
      obtain ⟨C, b1, b2, rfl, e1, h2, rfl⟩ := h
      cases (show _ = Value.ref C from r1)
      have e2 := AnyC.kit h2 r2
      show (match PySem.W.kitOne K (.ref D) (.ref C) with | some true => some true | some false => PySem.W.kitAny K (.ref D) _ | none => none) = _
      rw [e1]
      cases b1 with
      | true => rfl
      | false => exact e2
def rIsT (K : PySem.W.Frag) : List V → Hp → VK → Prop := fun xs H Q => ∃ (a D tp : Addr) (cs : List V) (b : Bool), xs = [.ref a, .ref tp] ∧ H tp = some (.tup cs) ∧ H a = some (ExK (.ref D) none a) ∧ ExcC K D ∧ AnyC K D cs b ∧ Q (.bl b) H
theorem call_isT {X : Cx} : CallR X (.builtin "isinstance") (rIsT X.K) := by
  intro pins s σ H xs us Q I r h
  obtain ⟨a, D, tp, cs, b, rfl, ht, ha, C, e, q⟩ := h
  obtain ⟨u1, u2, rfl, r1, r2⟩ := vals2 r
  cases (show u1 = Value.ref a from r1)
  cases (show u2 = Value.ref tp from r2)
  obtain ⟨⟨oe, vs, ho, hz, hd⟩, _⟩ := (show ObjOk X.prog X.w H s.heap a (ExK (.ref D) none a) from I.hok a _ ha)
  have J : PySem.W.InstAt s.heap a oe D none := by
    obtain ⟨oc, od, oda, osl⟩ := oe
    obtain ⟨h1, h2⟩ := hz
    dsimp only at h1 h2 hd
    subst h1 h2 hd
    exact ⟨ho, rfl, rfl, trivial⟩
  obtain ⟨_, its, rv, T⟩ := (show ObjOk X.prog X.w H s.heap tp (.tup cs) from I.hok tp _ ht)
  obtain ⟨⟨oc, od, oda, osl⟩, T1, T2, n, T3⟩ := T
  dsimp only at T2 T3
  subst T2 T3
  exact PySem.W.kia_tup (PySem.W.handS_kitx_exc C.hg C.hk C.hs C.hd C.ha C.hn C.ht C.hm) I.kIn J T1 (e.kit rv) (fun z => nomatch z) fun tk => ⟨.bl b, H, I.tok tk, rfl, q⟩
section
variable {K : PySem.W.Frag} {F H : Hp} {Q : VK}
theorem sm_isT {p : Xc} {v : V} {tp : Addr} {cs : List V} {b : Bool} (s : Same F H) (h : RD F (eX K p) v) (ht : H tp = some (.tup cs)) (C : ExcC K (He.ga K p.nm)) (e : AnyC K (He.ga K p.nm) cs b) (k : Q (.bl b) H) : rIsT K [v, .ref tp] H Q := by
  obtain ⟨a, d, rfl, h1, h2⟩ := h
  obtain rfl : d = none := h2
  exact ⟨a, _, tp, cs, b, rfl, ht, s a _ h1, C, e, k⟩
theorem AnyC.nil {D : Addr} : AnyC K D [] false := rfl
theorem AnyC.cons {D C : Addr} {b1 b2 : Bool} {vs : List V} (h : PySem.W.kitOne K (.ref D) (.ref C) = some b1) (t : AnyC K D vs b2) : AnyC K D (.ref C :: vs) (b1 || b2) := ⟨C, b1, b2, rfl, h, t, rfl⟩
/-- a tuple that is made to be looked at -/
theorem newT_any {vs : List V} (z : vs.length ≤ 1000000) (e : Same F H) (k : ∀ p F' H', Stp [] F H F' H' → H' p = some (.tup vs) → Q (.ref p) H') : NewT vs H Q :=
  ⟨sz_le z, fun p n => k p _ _ (Stp.new e n) upd_same⟩
end
end DK
set_option maxRecDepth 100000
set_option maxHeartbeats 2000000
/-! DK, twenty-ninth part: a setting whose shares and inks are lists of ours, too. -/
namespace DK
open PySem PySem.Spec PyProof.Rows L2
structure OwnU (C : Addr) (F H : Hp) (a : Addr) (z : SetZ) (dx Lst Ld La Lb Ls : Addr) (rss : List Addr) (vc : V) (ws wa wb : List V) : Prop where
  ins : Own F H a (.ins C dx [("most", .int z.1), ("shades", .ref Ls), ("cells", vc), ("shares", .ref La), ("inks", .ref Lb), ("states", .ref Lst), ("set_inks", .ref Ld)])
  shades : OwnN F H Ls rss Dat.int z.2.1
  cells : RD F (eL (eP Dat.int Dat.int) z.2.2.1) vc
  shares : Own F H La (.lst wa)
  rshares : RDs F (z.2.2.2.1.map Dat.int) wa
  inks : Own F H Lb (.lst wb)
  rinks : RDs F (z.2.2.2.2.1.map Dat.int) wb
  states : Own F H Lst (.lst ws)
  rstates : RDs F (z.2.2.2.2.2.1.map (eP (eT Dat.int) Dat.int)) ws
  dict : Own F H Ld (.dT (dTK V.int z.2.2.2.2.2.2))
  ap : Lst ∉ Ls :: rss
  ap1 : La ∉ Ls :: rss
  ap2 : Lb ∉ Ls :: rss
  ap3 : La ≠ Lst
  ap4 : Lb ≠ Lst
  ap5 : La ≠ Lb
def OwnT (C : Addr) (F H : Hp) (a : Addr) (rs : List Addr) (z : SetZ) : Prop :=
  ∃ dx Lst Ld La Lb Ls rss vc ws wa wb, rs = Lst :: Ld :: La :: Lb :: Ls :: rss ∧ OwnU C F H a z dx Lst Ld La Lb Ls rss vc ws wa wb
section
variable {C : Addr} {F H F1 H1 : Hp} {a b dx Lst Ld La Lb Ls : Addr} {rs rss S S' R : List Addr} {z : SetZ} {vc : V} {ws wa wb : List V}
theorem OwnT.opn (o : OwnT C F H a rs z) : ∃ dx Lst Ld La Lb Ls rss vc ws wa wb, rs = Lst :: Ld :: La :: Lb :: Ls :: rss ∧ Own F H a (.ins C dx [("most", .int z.1), ("shades", .ref Ls), ("cells", vc), ("shares", .ref La), ("inks", .ref Lb), ("states", .ref Lst), ("set_inks", .ref Ld)]) ∧ OwnN F H Ls rss Dat.int z.2.1 ∧ RD F (eL (eP Dat.int Dat.int) z.2.2.1) vc ∧ Own F H La (.lst wa) ∧ RDs F (z.2.2.2.1.map Dat.int) wa ∧ Own F H Lb (.lst wb) ∧ RDs F (z.2.2.2.2.1.map Dat.int) wb ∧ Own F H Lst (.lst ws) ∧ RDs F (z.2.2.2.2.2.1.map (eP (eT Dat.int) Dat.int)) ws ∧ Own F H Ld (.dT (dTK V.int z.2.2.2.2.2.2)) ∧ Lst ∉ Ls :: rss ∧ a ∉ Ls :: rss ∧ Ld ∉ Ls :: rss ∧ a ≠ Lst ∧ a ≠ Ld ∧ Lst ≠ Ld ∧ La ∉ Ls :: rss ∧ Lb ∉ Ls :: rss ∧ La ≠ Lst ∧ Lb ≠ Lst ∧ La ≠ Lb ∧ a ≠ La ∧ a ≠ Lb ∧ La ≠ Ld ∧ Lb ≠ Ld := by
  obtain ⟨dx, Lst, Ld, La, Lb, Ls, rss, vc, ws, wa, wb, e, p⟩ := o
  have n1 : ∀ {x : Addr} {o : HO}, Own F H x o → (∀ vs, o ≠ .lst vs) → x ∉ Ls :: rss := fun h n q => by
    obtain ⟨vs, w⟩ := p.shades.mem q
    have := h.h.symm.trans w.h
    exact n vs (Option.some.inj this)
  refine ⟨dx, Lst, Ld, La, Lb, Ls, rss, vc, ws, wa, wb, e, p.ins, p.shades, p.cells, p.shares, p.rshares, p.inks, p.rinks, p.states, p.rstates, p.dict, p.ap, n1 p.ins (fun _ q => by cases q), n1 p.dict (fun _ q => by cases q), ?_, ?_, ?_, p.ap1, p.ap2, p.ap3, p.ap4, p.ap5, ?_, ?_, ?_, ?_⟩
  · rintro rfl; have := p.ins.h.symm.trans p.states.h; cases this
  · rintro rfl; have := p.ins.h.symm.trans p.dict.h; cases this
  · rintro rfl; have := p.states.h.symm.trans p.dict.h; cases this
  · rintro rfl; have := p.ins.h.symm.trans p.shares.h; cases this
  · rintro rfl; have := p.ins.h.symm.trans p.inks.h; cases this
  · rintro rfl; have := p.shares.h.symm.trans p.dict.h; cases this
  · rintro rfl; have := p.inks.h.symm.trans p.dict.h; cases this
theorem OwnT.opn2 (o : OwnT C F H a (Lst :: Ld :: La :: Lb :: Ls :: rss) z) : ∃ dx vc ws wa wb, Own F H a (.ins C dx [("most", .int z.1), ("shades", .ref Ls), ("cells", vc), ("shares", .ref La), ("inks", .ref Lb), ("states", .ref Lst), ("set_inks", .ref Ld)]) ∧ OwnN F H Ls rss Dat.int z.2.1 ∧ RD F (eL (eP Dat.int Dat.int) z.2.2.1) vc ∧ Own F H La (.lst wa) ∧ RDs F (z.2.2.2.1.map Dat.int) wa ∧ Own F H Lb (.lst wb) ∧ RDs F (z.2.2.2.2.1.map Dat.int) wb ∧ Own F H Lst (.lst ws) ∧ RDs F (z.2.2.2.2.2.1.map (eP (eT Dat.int) Dat.int)) ws ∧ Own F H Ld (.dT (dTK V.int z.2.2.2.2.2.2)) := by
  obtain ⟨dx, Lst', Ld', La', Lb', Ls', rss', vc, ws, wa, wb, e, p⟩ := o
  simp only [List.cons.injEq] at e
  obtain ⟨rfl, rfl, rfl, rfl, rfl, rfl⟩ := e
  exact ⟨dx, vc, ws, wa, wb, p.ins, p.shades, p.cells, p.shares, p.rshares, p.inks, p.rinks, p.states, p.rstates, p.dict⟩
theorem OwnT.mk {most : Int} {shades : List (List Int)} {cells : List (Int × Int)} {shares inks : List Int} {states : List (List Int × Int)} {dict : List ((Int × Int) × Int)} (h1 : Own F H a (.ins C dx [("most", .int most), ("shades", .ref Ls), ("cells", vc), ("shares", .ref La), ("inks", .ref Lb), ("states", .ref Lst), ("set_inks", .ref Ld)])) (h2 : OwnN F H Ls rss Dat.int shades) (h3 : RD F (eL (eP Dat.int Dat.int) cells) vc) (h4 : Own F H La (.lst wa)) (h4' : RDs F (shares.map Dat.int) wa) (h5 : Own F H Lb (.lst wb)) (h5' : RDs F (inks.map Dat.int) wb) (h6 : Own F H Lst (.lst ws)) (h7 : RDs F (states.map (eP (eT Dat.int) Dat.int)) ws) (h8 : Own F H Ld (.dT (dTK V.int dict))) (h9 : Lst ∉ Ls :: rss) (k1 : La ∉ Ls :: rss) (k2 : Lb ∉ Ls :: rss) (k3 : La ≠ Lst) (k4 : Lb ≠ Lst) (k5 : La ≠ Lb) : OwnT C F H a (Lst :: Ld :: La :: Lb :: Ls :: rss) (most, shades, cells, shares, inks, states, dict) :=
  ⟨dx, Lst, Ld, La, Lb, Ls, rss, vc, ws, wa, wb, rfl, ⟨h1, h2, h3, h4, h4', h5, h5', h6, h7, h8, h9, k1, k2, k3, k4, k5⟩⟩
theorem OwnT.insI (o : OwnT C F H a rs z) : ∃ dx fs, H a = some (.ins C dx fs) ∧ ∀ m : Str, m ∉ (["most", "shades", "cells", "shares", "inks", "states", "set_inks"] : List Str) → fs.lookup m = none := by
  obtain ⟨dx, Lst, Ld, La, Lb, Ls, rss, vc, ws, wa, wb, e, p⟩ := o
  refine ⟨dx, _, p.ins.h, fun m hm => ?_⟩
  exact zip_none (ns := (["most", "shades", "cells", "shares", "inks", "states", "set_inks"] : List Str)) (ws := [.int z.1, .ref Ls, vc, .ref La, .ref Lb, .ref Lst, .ref Ld]) hm
theorem OwnT.mem (o : OwnT C F H a rs z) {q : Addr} (h : q ∈ a :: rs) : ∃ x, Own F H q x := by
  obtain ⟨dx, Lst, Ld, La, Lb, Ls, rss, vc, ws, wa, wb, rfl, p⟩ := o
  rcases List.mem_cons.mp h with rfl | h
  · exact ⟨_, p.ins⟩
  rcases List.mem_cons.mp h with rfl | h
  · exact ⟨_, p.states⟩
  rcases List.mem_cons.mp h with rfl | h
  · exact ⟨_, p.dict⟩
  rcases List.mem_cons.mp h with rfl | h
  · exact ⟨_, p.shares⟩
  rcases List.mem_cons.mp h with rfl | h
  · exact ⟨_, p.inks⟩
  obtain ⟨vs, w⟩ := p.shades.mem h
  exact ⟨_, w⟩
theorem Stp.keepT (s : Stp S F H F1 H1) (d : Dis S (a :: rs)) (o : OwnT C F H a rs z) : OwnT C F1 H1 a rs z := by
  obtain ⟨dx, Lst, Ld, La, Lb, Ls, rss, vc, ws, wa, wb, rfl, p⟩ := o
  have dm : ∀ q, q ∈ a :: Lst :: Ld :: La :: Lb :: Ls :: rss → q ∉ S := d
  exact ⟨dx, Lst, Ld, La, Lb, Ls, rss, vc, ws, wa, wb, rfl, ⟨s.keep (dm _ (by simp)) p.ins, s.keepN (fun q hq => dm q (List.mem_cons_of_mem _ (List.mem_cons_of_mem _ (List.mem_cons_of_mem _ (List.mem_cons_of_mem _ (List.mem_cons_of_mem _ hq)))))) p.shades, s.up p.cells, s.keep (dm _ (by simp)) p.shares, s.ups p.rshares, s.keep (dm _ (by simp)) p.inks, s.ups p.rinks, s.keep (dm _ (by simp)) p.states, s.ups p.rstates, s.keep (dm _ (by simp)) p.dict, p.ap, p.ap1, p.ap2, p.ap3, p.ap4, p.ap5⟩⟩
theorem Dis.freT (o : OwnT C F H a rs z) (f : FreN H S) : Dis S (a :: rs) := fun q hq y => by
  obtain ⟨x, h⟩ := o.mem hq
  have h2 := h.h
  rw [f q y] at h2
  cases h2
theorem Dis.oldT (o : OwnT C F H a rs z) (f : FreN H R) : Dis (a :: rs) R := fun q hq y => by
  obtain ⟨x, h⟩ := o.mem y
  have := f q hq
  rw [h.h] at this
  cases this
theorem nm_ownT (o : OwnT C F H a rs z) (f : Fre H b) : b ∉ a :: rs := fun y => by
  obtain ⟨x, h⟩ := o.mem y
  have h2 := h.h
  rw [show H b = none from f] at h2
  cases h2
theorem sub_tl5 {x y w u v : Addr} : ∀ q ∈ S', q ∈ x :: y :: w :: u :: v :: S' ∨ H q = none := fun q h => .inl (List.mem_cons_of_mem _ (List.mem_cons_of_mem _ (List.mem_cons_of_mem _ (List.mem_cons_of_mem _ (List.mem_cons_of_mem _ h)))))
end
end DK
namespace DK
open PySem PySem.Spec PyProof.Rows L2
section
variable {α β : Type} {P : β → Prop} {X : Xc → Option Int → Prop} {σ : Sg} {H : Hp}
theorem cutTS {c : TT} {m : Rs (Bool × α)} {k : Bool × α → Rs β} {Q : Bool → Hp → Prop} (J : α → Hp → Hp → Prop) (S : List Addr) (F H : Hp) (hm : Post (m.bnd k) P X)
    (h1 : ∀ Q' : Bool → Hp → Prop, (∀ b z F' H', Stp S F H F' H' → J z F' H' → Post (k (b, z)) P X → Q' b H') → Post m (fun b => Post (k b) P X) X → c σ H Q')
    (h2 : ∀ b z F' H', Stp S F H F' H' → J z F' H' → Post (k (b, z)) P X → Q b H') : c σ H Q := h1 Q h2 hm.b
end
end DK
set_option maxRecDepth 100000
set_option maxHeartbeats 2000000
/-! DK, thirtieth part: a, b, c = x, y, z. -/
namespace DK
open PySem PySem.Spec PyProof.Rows L2
def tPar3 (i j k : Nat) (ta : TA) : TS := fun D σ H => ta σ H fun vs H1 => ∃ v w t, vs = [v, w, t] ∧ D.nx (((σ.set k (some t)).set j (some w)).set i (some v)) H1
theorem vals3 {v w t : V} {us : List Value} (r : Vals [v, w, t] us) : ∃ u1 u2 u3, us = [u1, u2, u3] ∧ RelV v u1 ∧ RelV w u2 ∧ RelV t u3 := by
  cases r with
  | cons p q =>
    cases q with
    | cons p' q' =>
      cases q' with
      | cons p2 q2 =>
        cases q2 with
        | nil => exact ⟨_, _, _, rfl, p, p', p2⟩
theorem ps_par3 {X : Cx} {pos : Pos} {i j k : Nat} {x y z : Str} {a b c : Expr} {ta : TA} {px py pz pt : Pos} {kt k2 : Nat} {pt2 : Pos} (hc : X.calm = true) (hN : X.N.Nodup) (hi : X.N[i]? = some x) (hj : X.N[j]? = some y) (hk : X.N[k]? = some z)
    (hx : X.env.scope.names.lookup x = some NameKind.local) (hy : X.env.scope.names.lookup y = some NameKind.local) (hz : X.env.scope.names.lookup z = some NameKind.local) (ha : PA X [a, b, c] ta)
    (hw : swappedStores [Expr.Tuple [Expr.Name x px, Expr.Name y py, Expr.Name z pz] kt pt] (Expr.Tuple [a, b, c] k2 pt2) X.env = pure (some [x, y, z]))
    (hs : swapsWithSole [Expr.Tuple [Expr.Name x px, Expr.Name y py, Expr.Name z pz] kt pt] (Expr.Tuple [a, b, c] k2 pt2) pos.line X.env = pure false := by rfl) :
    PS X (Stmt.Assign [Expr.Tuple [Expr.Name x px, Expr.Name y py, Expr.Name z pz] kt pt] (Expr.Tuple [a, b, c] k2 pt2) pos) (tPar3 i j k ta) := ⟨fun pins s σ H D I h => by
  refine PyProof.Rows.Assign_Tuple_swapped (names := [x, y, z]) ?_ hs hw
  refine PyProof.Rows.Tuple_ (thn (ha.run pt2 pins s σ H _ I h) ?_)
  rintro us s1 ⟨vs, H1, I1, r1, v, w, t, rfl, q1⟩
  obtain ⟨u1, u2, u3, rfl, rv, rw', rt⟩ := vals3 r1
  refine wpAny_newObj_type ?_ (show (#[u1, u2, u3] : Array Value).size ≤ sizeLine by show 3 ≤ sizeLine; decide)
  have I2 := Inv.kept (t' := s1.toks) I1 fun b o e => Heap.get?_push_of_some { cls := Value.type "tuple", data := Data.seq #[u1, u2, u3] } e
  refine PyProof.Rows.unpackItems_tuple (items := #[u1, u2, u3]) (I.ok.hd hc) (PyProof.Rows.IsTup.new s1.heap #[u1, u2, u3]) fun h' hx' => ?_
  have I3 := Inv.kept (t' := s1.toks) I2 fun b o e => hx' b o (Nat.ne_of_lt (Heap.lt_size e)) e
  refine PyProof.Rows.assignInOrder_cons (wpAny_bindName (store_ok I3 hN hk (Or.inl hz) rt (fun s2 I4 => ?_) (Or.inr hz)))
  refine PyProof.Rows.assignInOrder_cons (wpAny_bindName (store_ok I4 hN hj (Or.inl hy) rw' (fun s3 I5 => ?_) (Or.inr hy)))
  refine PyProof.Rows.assignInOrder_cons (wpAny_bindName (store_ok I5 hN hi (Or.inl hx) rv (fun s4 I6 => ?_) (Or.inr hx)))
  exact PyProof.Rows.assignInOrder_nil ⟨_, _, I6, q1⟩⟩
theorem st_par3 {i j k : Nat} {t : TA} {D : Ends} {σ : Sg} {H : Hp} (k' : t σ H fun vs H1 => ∃ x y z, vs = [x, y, z] ∧ D.nx (((σ.set k (some z)).set j (some y)).set i (some x)) H1) : tPar3 i j k t D σ H := k'
theorem st_parx3 {i j k : Nat} {x y z : V} {σ σ' : Sg} {H : Hp} {N : Sg → Hp → Prop} (e : (((σ.set k (some z)).set j (some y)).set i (some x)) = σ') (h : N σ' H) : ∃ x' y' z', [x, y, z] = [x', y', z'] ∧ N (((σ.set k (some z')).set j (some y')).set i (some x')) H := ⟨x, y, z, rfl, by rw [e]; exact h⟩
end DK
set_option maxRecDepth 100000
set_option maxHeartbeats 2000000
/-! DK, thirty-first part: loops over the cells of a dict of ours; reading it. -/
namespace DK
open PySem PySem.Spec PyProof.Rows L2
/-- the ends of a loop over a dict that is held fast -/
def lockE (D : Ends) (L : Addr) (od : Obj) (u : HO) : Ends where
  nx := fun σ' H' => H' L = some (.frz od u) ∧ D.nx σ' (upd H' L u)
  rt := fun v H' => H' L = some (.frz od u) ∧ D.rt v (upd H' L u)
  bk := fun σ' H' => H' L = some (.frz od u) ∧ D.bk σ' (upd H' L u)
  ct := fun σ' H' => H' L = some (.frz od u) ∧ D.ct σ' (upd H' L u)
section
variable {K : PySem.W.Frag} {S : List Addr} {F H F1 H1 : Hp} {σ : Sg} {D : Ends} {Q : VK} {L : Addr} {u : HO} {od : Obj} {α : Type} {vv : α → V} {zs : List ((Int × Int) × α)} {k : Int × Int} {w : V} {y : α}
theorem unlock (s : Same F H) (o : Own F H L u) (t : Stp S F (upd H L (.frz od u)) F1 H1) (n : L ∉ S) : Stp S F H F1 (upd H1 L u) := by
  obtain ⟨h1, h2⟩ := t.own L _ n o.f upd_same trivial
  refine ⟨s, t.ex, fun b x e => ?_, fun p x np f e nt => ?_, fun p e => ?_, fun p xs e => ?_⟩
  · rw [upd_ne (ne_of_none e h2)]; exact t.inn b x e
  · by_cases z : p = L
    · subst z
      rw [o.h] at e; cases e
      exact ⟨upd_same, h2⟩
    · obtain ⟨a, b⟩ := t.own p x np f (by rw [upd_ne z]; exact e) nt
      exact ⟨by rw [upd_ne z]; exact a, b⟩
  · by_cases z : p = L
    · subst z; rw [upd_same] at e; cases e
    · rw [upd_ne z] at e
      have := t.dom p e
      rw [upd_ne z] at this
      exact this
  · have z : p ≠ L := by
      rintro rfl
      have q := o.nt
      rw [o.h] at e
      cases e
      exact q
    rw [upd_ne z]
    exact t.tup p xs (by rw [upd_ne z]; exact e)
theorem unlk {F0 H0 : Hp} (s : Same F H) (o : Own F H L (.frz od u)) (t : Stp S F0 H0 F (upd H L u)) : ∃ F2, Stp [L] F H F2 (upd H L u) ∧ Stp S F0 H0 F2 (upd H L u) := ⟨F, Stp.put s o, t⟩
theorem st_lockO {t : TS} (s : Same F H) (o : Own F H L u) (hu : Mut (some u)) (k : ∀ od Fl Hl, Stp [L] F H Fl Hl → Own Fl Hl L (.frz od u) → (∀ S F' H', Stp S Fl Hl F' H' → L ∉ S → Stp S F H F' (upd H' L u)) → t (lockE D L od u) σ Hl) : tLock t D σ H :=
  ⟨L, u, o.h, hu, fun od => k od F _ (Stp.put s o) ⟨o.f, upd_same, trivial⟩ fun S F' H' t n => unlock s o t n⟩
variable {S' R : Type} {X : Xc → Option Int → Prop} {P : Ctl S' R → Prop} {f : S' → Int × Int → Rs (Ctl S' R)} {s0 : S'} {g : TG} {tl : TS} {td : TE}
/-- over its cells -/
theorem fr_D (o : Own F H L (.frz od (.dT (dTK vv zs)))) (hv : ∀ Q : VK, Q (.ref L) H → td σ H Q) (hp : Post (forR f (zs.map (·.1)) s0) P X) (I : S' → Sg → Hp → Prop) (h0 : I s0 σ H) (hG : ∀ s σ H', I s σ H' → ∃ F', Own F' H' L (.frz od (.dT (dTK vv zs))))
    (hs : ∀ (x : Int × Int) (rest : List (Int × Int)) (s : S') (q : Addr) σ' H1, H1 q = some (.tup [.int x.1, .int x.2]) → I s σ' H1 → Post (f s x) (Turn f P rest X) X → g (.ref q) σ' H1 fun σ2 H3 => tl { D with nx := NxF I f P rest X, ct := NxF I f P rest X, bk := D.nx } σ2 H3)
    (hd : ∀ s σ H, I s σ H → P (.nx s) → D.nx σ H) : iKeys td σ H fun J H => LoopOwes g tl D σ J H := by
  refine hv _ ⟨L, od, rfl, .inr ⟨_, o.h, fr_core walk_keysT (by rw [List.length_map, List.length_map]) I hp h0 (fun s σ H' q => (hG s σ H' q).choose_spec.h) ?_ hd⟩⟩
  rintro i x rest s u σ' H1 H2 hx q ⟨rfl, kk, v, p, e1, rfl, e2⟩ pp
  rw [List.getElem?_map] at hx e1
  obtain ⟨z, hz, rfl⟩ := Option.map_eq_some_iff.mp hx
  rw [hz] at e1
  cases e1
  exact hs z.1 rest s p σ' _ e2 q pp
theorem sm_g2H {t : TGs} {R : Sg → Hp → Prop} {p : Addr} {x y : V} (h : H p = some (.tup [x, y])) (k : t [x, y] σ H R) : gTupU K 2 t (.ref p) σ H R := .inl ⟨p, [x, y], rfl, SqT.of h, rfl, k⟩

variable {G : V → Prop}
theorem sm_dgO (s : Same F H) (o : Own F H L (.dT (dTK vv zs))) (hk : RD F (eP Dat.int Dat.int k) w) (e : lookD zs k = some y) (kk : G (vv y)) : ∃ a v, V.ref L = .ref a ∧ DGet H a w (some v) ∧ G v :=
  ⟨L, vv y, rfl, by have := dget_of (vv := vv) s o.h hk; rw [e] at this; exact this, kk⟩
theorem sm_dgL (s : Same F H) (o : Own F H L (.frz od (.dT (dTK vv zs)))) (hk : RD F (eP Dat.int Dat.int k) w) (e : lookD zs k = some y) (kk : G (vv y)) : ∃ a v, V.ref L = .ref a ∧ DGet H a w (some v) ∧ G v := by
  obtain ⟨b, rfl, hb⟩ := rd_key s hk
  refine ⟨L, vv y, rfl, .inr ⟨_, kP k, b, .inr ⟨od, o.h⟩, rfl, hb, ?_⟩, kk⟩
  rw [valV_d, e]; rfl
theorem sm_dgF {x : V} (s : Same F H) (h : RD F (eD vv zs) x) (hk : RD F (eP Dat.int Dat.int k) w) (e : lookD zs k = some y) (kk : G (vv y)) : ∃ a v, x = .ref a ∧ DGet H a w (some v) ∧ G v := by
  obtain ⟨L, rfl, hL⟩ := rd_dct s h
  exact ⟨L, vv y, rfl, by have := dget_of (vv := vv) s hL hk; rw [e] at this; exact this, kk⟩
theorem cutFL {t : TS} {S2 R2 β : Type} {m : Rs (Ctl S2 R2)} {k : S2 → Rs β} {r : R2 → Rs β} {P2 : β → Prop} (hm : Post (m.thn k r) P2 X) (I : S2 → Sg → Hp → Prop)
    (h1 : ∀ nx : Sg → Hp → Prop, (∀ s σ' H', I s σ' H' → Post (k s) P2 X → nx σ' H') → Post m (Ctl.on (fun s => Post (k s) P2 X) (fun s => Post (k s) P2 X) fun x => Post (r x) P2 X) X → tLock t { D with nx := nx } σ H)
    (h2 : ∀ s σ' H', I s σ' H' → Post (k s) P2 X → D.nx σ' H') : tLock t D σ H := cutS (t := tLock t) hm I h1 h2
theorem st_dget {td ty : TE} (k : td σ H fun x H1 => ty σ H1 fun y H2 => ∃ a v, x = .ref a ∧ DGet H2 a y (some v) ∧ Q v H2) : tDGet td ty σ H Q := k
end
end DK
set_option maxRecDepth 100000
set_option maxHeartbeats 2000000
/-! DK, thirty-second part: a box of ours: a truth, the script, a list of one number, a number. -/
namespace DK
open PySem PySem.Spec PyProof.Rows L2
abbrev BoxZ := Bool × List Int × List Int × Int
/-- the box at a, its inner list: rs -/
def OwnB (K : PySem.W.Frag) (F H : Hp) (a : Addr) (rs : List Addr) (z : BoxZ) : Prop :=
  ∃ (La : Addr) (vs : V) (ws : List V), rs = [La] ∧ Own F H a (.lst [.bl z.1, vs, .ref La, .int z.2.2.2]) ∧ Scr K F vs z.2.1 ∧ Own F H La (.lst ws) ∧ RDs F (z.2.2.1.map Dat.int) ws ∧ a ≠ La
section
variable {K : PySem.W.Frag} {F H F1 H1 : Hp} {a b La : Addr} {rs S S' R : List Addr} {z : BoxZ} {vs : V} {ws : List V} {Q : VK} {i : Int}
theorem OwnB.opn (o : OwnB K F H a rs z) : ∃ La vs ws, rs = [La] ∧ Own F H a (.lst [.bl z.1, vs, .ref La, .int z.2.2.2]) ∧ Scr K F vs z.2.1 ∧ Own F H La (.lst ws) ∧ RDs F (z.2.2.1.map Dat.int) ws ∧ a ≠ La := o
theorem OwnB.mk {c : Bool} {ns k : List Int} {n : Int} (h1 : Own F H a (.lst [.bl c, vs, .ref La, .int n])) (h2 : Scr K F vs ns) (h3 : Own F H La (.lst ws)) (h4 : RDs F (k.map Dat.int) ws) (h5 : a ≠ La) : OwnB K F H a [La] (c, ns, k, n) := ⟨La, vs, ws, rfl, h1, h2, h3, h4, h5⟩
theorem OwnB.mem (o : OwnB K F H a rs z) {q : Addr} (h : q ∈ a :: rs) : ∃ x, Own F H q x := by
  obtain ⟨La, vs, ws, rfl, h1, h2, h3, h4, h5⟩ := o
  rcases List.mem_cons.mp h with rfl | h
  · exact ⟨_, h1⟩
  · rw [List.mem_singleton.mp h]; exact ⟨_, h3⟩
theorem Stp.keepB (s : Stp S F H F1 H1) (d : Dis S (a :: rs)) (o : OwnB K F H a rs z) : OwnB K F1 H1 a rs z := by
  obtain ⟨La, vs, ws, rfl, h1, h2, h3, h4, h5⟩ := o
  exact ⟨La, vs, ws, rfl, s.keep (d a (by simp)) h1, h2.up s, s.keep (d La (by simp)) h3, s.ups h4, h5⟩
theorem Dis.freB (o : OwnB K F H a rs z) (f : FreN H S) : Dis S (a :: rs) := fun q hq y => by
  obtain ⟨x, h⟩ := o.mem hq
  have h2 := h.h
  rw [f q y] at h2
  cases h2
theorem Dis.oldB (o : OwnB K F H a rs z) (f : FreN H R) : Dis (a :: rs) R := fun q hq y => by
  obtain ⟨x, h⟩ := o.mem y
  have := f q hq
  rw [h.h] at this
  cases this
theorem nm_ownB (o : OwnB K F H a rs z) (f : Fre H b) : b ∉ a :: rs := fun y => by
  obtain ⟨x, h⟩ := o.mem y
  have h2 := h.h
  rw [show H b = none from f] at h2
  cases h2
/-- box[3] = x -/
theorem sm_setB {P : Hp → Prop} (e : Same F H) (o : OwnB K F H a rs z) (k : ∀ F' H', Stp (a :: rs) F H F' H' → OwnB K F' H' a rs (z.1, z.2.1, z.2.2.1, i) → P H') : rSetL (.ref a) (.int 3) (.int i) H P := by
  obtain ⟨La, vs, ws, rfl, h1, h2, h3, h4, h5⟩ := o
  refine st_setO e h1 (n := 3) (by rfl) fun F' H' s o' => k F' H' (s.wide fun q hq => by rw [List.mem_singleton.mp hq]; simp) ⟨La, vs, ws, rfl, o', h2.up s, s.keep (by simpa using h5.symm) h3, s.ups h4, h5⟩
/-- box[..] -/
theorem sm_ixB {v : V} {xs : List V} (o : Own F H a (.lst xs)) (hi : atI xs i = some v) (k : Q v H) : rIxU K (.ref a) (.int i) H Q := st_ixO o hi k
theorem sub_tlB {x y : Addr} : ∀ q ∈ [y], q ∈ [x, y] ∨ H q = none := fun q h => .inl (List.mem_cons_of_mem _ h)
end
/-! ### comprehensions that change a thing of ours -/
section
variable {α β T : Type} {K : PySem.W.Frag} {F H : Hp} {σ : Sg} {Q : VK} {X : Xc → Option Int → Prop} {f : T → α → Rs (Option β × T)} {zs : List α} {s0 : T} {g : TG} {tt : TT} {te : TE} {v : V} {e : α → Dat} {e2 : β → Dat} {B : T → Hp → Hp → Prop} {R : List Addr} {ws : List Nat}
theorem Post.mapx {x : α} {xs : List α} {s : T} {P : List β × T → Prop} (h : Post (mapS f (x :: xs) s) P X) : Post (f s x) (fun o => Post (mapS f xs o.2) (fun r => P (match o.1 with | some y => (y :: r.1, r.2) | none => r)) X) X := by
  unfold mapS at h
  exact h.b.mono fun a p => p.b
abbrev LcTurnX (g : TG) (tt : TT) (te : TE) (ws : List Nat) (σ : Sg) (e2 : β → Dat) (B : T → Hp → Hp → Prop) (R : List Addr) (F1 H1 : Hp) (m : Rs (Option β × T)) (X : Xc → Option Int → Prop) (u : V) : Prop :=
  ∀ (PN : Option β × T → Prop) (NY : VK) (NN : Hp → Prop), (∀ y b s F4 H4, Stp R F1 H1 F4 H4 → B s F4 H4 → RD F4 (e2 b) y → PN (some b, s) → NY y H4) → (∀ s F4 H4, Stp R F1 H1 F4 H4 → B s F4 H4 → PN (none, s) → NN H4) → Post m PN X →
    g u (wipe σ ws) H1 fun σ2 H3 => wipe σ2 ws = wipe σ ws ∧ tt σ2 H3 fun b H4 => if b = true then te σ2 H4 NY else NN H4
/-- B is of the region R alone -/
structure Framed (B : T → Hp → Hp → Prop) (R : List Addr) : Prop where
  ne : ∀ s F H D, B s F H → H D = none → D ∉ R
  keep : ∀ s F H F' H' D, B s F H → Stp [D] F H F' H' → D ∉ R → B s F' H'
theorem framedB {a : Addr} {rs : List Addr} : Framed (fun z F H => OwnB K F H a rs z) (a :: rs) :=
  ⟨fun s F H D o h => nm_ownB o h, fun s F H F' H' D o t n => t.keepB (fun q hq y => n (by rw [List.mem_singleton.mp y] at hq; exact hq)) o⟩
theorem lcx_core {J : It} {n : Nat} {G : Hp → Prop} {Y : Nat → Hp → V → Hp → Prop} {P : List β × T → Prop} (fr : Framed B R) (w : Walk J n G Y) (hn : n = zs.length) (hz : zs.length ≤ 1000000) (s : Same F H) (b0 : B s0 F H) (hp : Post (mapS f zs s0) P X) (hG : ∀ F' H', Stp R F H F' H' → G H')
    (hs : ∀ (i : Nat) (x : α) (u : V) s F1 H1 H2, zs[i]? = some x → Stp R F H F1 H1 → B s F1 H1 → Y i H1 u H2 → H2 = H1 ∧ LcTurnX g tt te ws σ e2 B R F1 H1 (f s x) X u)
    (hd : ∀ L vs r s' F' H', Stp R F H F' H' → B s' F' H' → Fre H L → Own F' H' L (.lst vs) → RDs F' (r.map e2) vs → P (r, s') → Q (.ref L) H') : LcOwes g tt te ws σ Q J H := by
  intro D nD
  have aD : D ∉ R := fr.ne _ _ _ _ b0 nD
  refine lc_it w (fun i H' => ∃ F' acc rr s1, Stp R F H F' H' ∧ Own F' H' D (.lst acc) ∧ RDs F' (rr.map e2) acc ∧ B s1 F' H' ∧ acc.length ≤ i ∧ Post (mapS f (zs.drop i) s1) (fun r => P (rr ++ r.1, r.2)) X) ?_ ?_ ?_ ?_
  · have t0 : Stp R F H F (upd H D (.lst [])) := Stp.newO (S := R) (o := .lst []) s nD
    have t1 : Stp [D] F H F (upd H D (.lst [])) := Stp.newO (S := [D]) (o := .lst []) s nD
    exact ⟨F, [], [], s0, t0, ⟨s.free nD, upd_same, trivial⟩, RDs.nil, fr.keep _ _ _ _ _ _ b0 t1 aD, Nat.le_refl _, hp⟩
  · rintro i H' _ ⟨F', _, _, _, t, _⟩
    exact hG F' H' t
  · rintro i u H1 H2 hi ⟨F1, acc, rr, s1, t, o, hr, hB, hl, p⟩ y
    have hlt : i < zs.length := hn ▸ hi
    rw [List.drop_eq_getElem_cons hlt] at p
    obtain ⟨rfl, T⟩ := hs i zs[i] u s1 F1 H1 H2 (List.getElem?_eq_getElem hlt) t hB y
    refine T _ _ _ ?_ ?_ p.mapx
    · rintro y b s2 F4 H4 t4 oB hy q
      have o4 := t4.keep aD o
      refine ⟨acc, o4.h, sz_lt (by omega), ?_⟩
      have tp : Stp [D] F4 H4 F4 (upd H4 D (.lst (acc ++ [y]))) := Stp.put t4.inn o4
      refine ⟨F4, acc ++ [y], rr ++ [b], s2, (t.trans t4 (fun q hq => .inl hq)).trans tp (sub_new nD sub_nil), ⟨o4.f, upd_same, trivial⟩, ?_, fr.keep _ _ _ _ _ _ oB tp aD, ?_, ?_⟩
      · rw [List.map_append]
        exact (t4.ups hr).snoc hy
      · rw [List.length_append]; simp; omega
      · exact q.mono fun r z => by rw [List.append_assoc]; exact z
    · rintro s2 F4 H4 t4 oB q
      exact ⟨F4, acc, rr, s2, t.trans t4 (fun q hq => .inl hq), t4.keep aD o, t4.ups hr, oB, by omega, q⟩
  · rintro H' ⟨F', acc, rr, s1, t, o, hr, hB, _, p⟩
    rw [hn, List.drop_length] at p
    have p' : P (rr ++ [], s1) := p
    rw [List.append_nil] at p'
    exact hd D acc rr s1 F' H' t hB nD o hr p'
theorem lcx_R1 {hi : Int} {P : List β × T → Prop} {f : T → Int → Rs (Option β × T)} (fr : Framed B R) (hb : rngOk 0 hi = true) (s : Same F H) (hz : (hi - 0).toNat ≤ 1000000) (b0 : B s0 F H) (hp : Post (mapS f (rngI 0 hi) s0) P X)
    (hs : ∀ (x : Int) s F1 H1, Stp R F H F1 H1 → B s F1 H1 → LcTurnX g tt te ws σ e2 B R F1 H1 (f s x) X (.int x))
    (hd : ∀ L vs r s' F' H', Stp R F H F' H' → B s' F' H' → Fre H L → Own F' H' L (.lst vs) → RDs F' (r.map e2) vs → P (r, s') → Q (.ref L) H') : ∃ j : Int, [V.int hi] = [.int j] ∧ -(2 ^ 62) ≤ j ∧ j < 2 ^ 62 ∧ LcOwes g tt te ws σ Q (Itr 0 j.toNat) H := by
  have hb := rngOk.b hb
  refine ⟨hi, rfl, by omega, by omega, lcx_core (zs := rngI 0 hi) fr (walk_range (lo := 0) (n := hi.toNat)) (by simp [rngI]) (by simpa [rngI] using hz) s b0 hp (fun _ _ _ => trivial) ?_ hd⟩
  rintro i x u s1 F1 H1 H2 hx t hB ⟨rfl, rfl⟩
  have := rngI_at hx
  subst this
  exact ⟨rfl, hs _ s1 F1 _ t hB⟩
end
end DK
set_option maxRecDepth 100000
set_option maxHeartbeats 2000000
/-! DK, thirty-third part: pairs of a word and one of two things. -/
namespace DK
open PySem PySem.Spec PyProof.Rows L2
abbrev eE {α β : Type} (s1 : Str) (e1 : α → Dat) (s2 : Str) (e2 : β → Dat) : α ⊕ β → Dat
  | .inl x => .tup [.str s1, e1 x]
  | .inr y => .tup [.str s2, e2 y]
def eE0 {α β : Type} (s1 s2 : Str) : α ⊕ β → Str
  | .inl _ => s1
  | .inr _ => s2
def eEl {α β : Type} : α ⊕ β → Option α
  | .inl x => some x
  | .inr _ => none
def eEr {α β : Type} : α ⊕ β → Option β
  | .inl _ => none
  | .inr y => some y
theorem eEl_of {α β : Type} {t : α ⊕ β} {x : α} (h : eEl t = some x) : t = .inl x := by
  cases t with
  | inl y => cases h; rfl
  | inr y => cases h
theorem eEr_of {α β : Type} {t : α ⊕ β} {x : β} (h : eEr t = some x) : t = .inr x := by
  cases t with
  | inl y => cases h
  | inr y => cases h; rfl
theorem rd_eEl {α β : Type} {s1 s2 : Str} {e1 : α → Dat} {e2 : β → Dat} {F : Hp} {t : α ⊕ β} {v : V} {x : α} (h : eEl t = some x) (r : RD F (eE s1 e1 s2 e2 t) v) : RD F (eP Dat.str e1 (s1, x)) v := by
  cases eEl_of h; exact r
theorem rd_eEr {α β : Type} {s1 s2 : Str} {e1 : α → Dat} {e2 : β → Dat} {F : Hp} {t : α ⊕ β} {v : V} {y : β} (h : eEr t = some y) (r : RD F (eE s1 e1 s2 e2 t) v) : RD F (eP Dat.str e2 (s2, y)) v := by
  cases eEr_of h; exact r
def wordEq (a b c d : Str) : Bool := PyData.eqv (.tuple [.str a, .str b]) (.tuple [.str c, .str d])
section
variable {α β : Type} {K : PySem.W.Frag} {F H : Hp} {Q : VK} {s1 s2 : Str} {e1 : α → Dat} {e2 : β → Dat} {t : α ⊕ β} {u v : V} {a b c d : Str}
theorem sm_ixE0 (s : Same F H) (h : RD F (eE s1 e1 s2 e2 t) v) (k : Q (.str (eE0 s1 s2 t)) H) : rIxU K v (.int 0) H Q := by
  cases t with
  | inl x => exact st_ixT (d := .str s1) s h rfl fun u r => by rw [show u = V.str s1 from r]; exact k
  | inr x => exact st_ixT (d := .str s2) s h rfl fun u r => by rw [show u = V.str s2 from r]; exact k
theorem word_dp (s : Same F H) (h : RD F (.tup [.str a, .str b]) u) : Dp K H u (.tuple [.str a, .str b]) := by
  have := RD.dp (K := K) s h (by simp only [dep, deps]; omega)
  simpa only [toPy, toPys] using this
theorem word_sh (h1 : PyData.strOk a = true) (h2 : PyData.strOk b = true) : SeqAt.shaped (.tuple [.str a, .str b]) = true := by
  unfold SeqAt.shaped
  simp [PyData.canLay0, PyData.canLayAll0, h1, h2, PyData.depth, PyData.depthAll]
theorem sm_neW (s : Same F H) (h1 : RD F (.tup [.str a, .str b]) u) (h2 : RD F (.tup [.str c, .str d]) v) (p1 : PyData.strOk a = true) (p2 : PyData.strOk b = true) (p3 : PyData.strOk c = true) (p4 : PyData.strOk d = true) (k : Q (.bl (!wordEq a b c d)) H) : rNeU K u v H Q :=
  .inr ⟨_, _, word_dp s h1, word_dp s h2, word_sh p1 p2, word_sh p3 p4, k⟩
theorem wordEq_iff : wordEq a b c d = true ↔ a = c ∧ b = d := by
  unfold wordEq
  simp only [PyData.eqv, PyData.eqvAll, Bool.and_eq_true, Bool.and_true, beq_iff_eq, decide_eq_true_eq]
example : PyData.strOk "no" = true := by decide +kernel
end
end DK
set_option maxRecDepth 100000
set_option maxHeartbeats 2000000
/-! DK, thirty-fourth part: loops from a range's end; xs[i] += e; == of lists of the same instances. -/
namespace L2
open PySem PySem.Spec PyProof.Rows
theorem get_list {X : Cx} : PGet X (rIxL X.K) := by
  intro pins s σ H x y v u Q I rx ry h
  obtain ⟨p, xs, i, z, rfl, rfl, hq, he, q⟩ := h
  cases rx
  obtain ⟨t, rfl⟩ := ry
  obtain ⟨its, r, pl, hz⟩ := I.list hq
  obtain ⟨j, h1, h2, h3, h4, h5⟩ := atI_get he
  obtain ⟨w, ew, rw'⟩ := r.get h2
  have hl := r.length
  have hn := line63
  have fin : EP X pins σ Q w s := ⟨z, H, I, rw', q⟩
  by_cases h0 : 0 ≤ i
  · have hj : i.toNat = j := by
      rw [seqIndex_of h0 h5] at h1
      exact Option.some.inj h1
    exact wpAny_getItem_list pl.isList h0 (by omega) (by rw [hj]; simpa using ew) fin
  · have hj : (i + (its.toArray.size : Int)).toNat = j := by
      rw [seqIndex_neg (by omega) h4] at h1
      rw [List.size_toArray, ← hl]
      exact Option.some.inj h1
    exact wpAny_getItem_list_neg pl.isList (by omega) (by rw [List.size_toArray] <;> omega) (by omega) (by rw [hj]; simpa using ew) fin
end L2
namespace DK
open PySem PySem.Spec PyProof.Rows L2
section
variable {α β : Type} {K : PySem.W.Frag} {F H : Hp} {σ : Sg} {Q : VK} {D : Ends} {u v : V} {L : Addr} {vs : List V} {e : α → Dat} {zs : List α}
theorem st_augS {to ti te : TE} {tget : V → V → Hp → VK → Prop} {tip : TIp} {tset : TSet} (k : to σ H fun o H1 => ti σ H1 fun i H2 => tget o i H2 fun x H3 => te σ H3 fun y H4 => tip x y H4 fun z H5 => tset o i z H5 fun H6 => D.nx σ H6) : tAugS to ti te tget tip tset D σ H := k
theorem ints_of {ns : List Int} (hd : RDs F (ns.map Dat.int) vs) : vs = ns.map V.int := by
  induction ns generalizing vs with
  | nil => exact hd
  | cons a l ih =>
    obtain ⟨v, r, rfl, h1, h2⟩ := hd
    rw [show v = V.int a from h1, ih h2]; rfl
theorem sm_ixLO {i : Int} {ns : List Int} (o : Own F H L (.lst vs)) (hd : RDs F (ns.map Dat.int) vs) {n : Int} (hi : atI ns i = some n) (k : Q (.int n) H) : rIxL K (.ref L) (.int i) H Q := by
  cases ints_of hd
  refine ⟨L, _, i, .int n, rfl, rfl, SqL.of o.h, ?_, k⟩
  unfold atI at *
  rw [List.length_map]
  cases hn : ixN ns.length i with
  | none => rw [hn] at hi; cases hi
  | some j =>
    rw [hn] at hi
    show (ns.map V.int)[j]? = _
    rw [List.getElem?_map, show ns[j]? = some n from hi]; rfl
/-! a range from its end -/
def revI (n : Int) : List Int := (rngI 0 n).reverse
theorem revI_at {n : Int} {i : Nat} {x : Int} (h : (revI n)[i]? = some x) : x = 0 + ((((n - 0).toNat : Nat) : Int)) - 1 + (i : Nat) * (-1) := by
  unfold revI at h
  have hl : i < (rngI 0 n).length := by
    have := (List.getElem?_eq_some_iff.mp h).1
    rw [List.length_reverse] at this
    exact this
  rw [List.getElem?_reverse hl] at h
  have e := rngI_at h
  have l : (rngI 0 n).length = (n - 0).toNat := by simp [rngI]
  rw [l] at e hl
  rw [e]
  omega
theorem st_rev1 {ta : TE} {R : It → Hp → Prop} (k : ta σ H fun x H1 => ∃ n, x = .int n ∧ (-(2 ^ 62) ≤ (0 : Int) ∧ (0 : Int) < 2 ^ 62 ∧ -(2 ^ 62) ≤ n ∧ n < 2 ^ 62 ∧ R (Itc (0 + (((n - 0).toNat : Nat) : Int) - 1) (-1) (n - 0).toNat) H1)) : iRevR (tRg1 ta) σ H R := k
end
section
variable {α S R : Type} {K : PySem.W.Frag} {F H : Hp} {σ : Sg} {Q : VK} {D : Ends} {g : TG} {tl : TS} {P : Ctl S R → Prop} {X : Xc → Option Int → Prop} {s0 : S}
theorem fr_V1 {hi : Int} {f : S → Int → Rs (Ctl S R)} (hb : rngOk 0 hi = true) (hp : Post (forR f (revI hi) s0) P X) (I : S → Sg → Hp → Prop) (h0 : I s0 σ H)
    (hs : ∀ (x : Int) (rest : List Int) (s : S) σ' H1, I s σ' H1 → Post (f s x) (Turn f P rest X) X → g (.int x) σ' H1 fun σ2 H3 => tl { D with nx := NxF I f P rest X, ct := NxF I f P rest X, bk := D.nx } σ2 H3)
    (hd : ∀ s σ H, I s σ H → P (.nx s) → D.nx σ H) : -(2 ^ 62) ≤ (0 : Int) ∧ (0 : Int) < 2 ^ 62 ∧ -(2 ^ 62) ≤ hi ∧ hi < 2 ^ 62 ∧ LoopOwes g tl D σ (Itc (0 + (((hi - 0).toNat : Nat) : Int) - 1) (-1) (hi - 0).toNat) H := by
  have hb := rngOk.b hb
  refine ⟨by decide, by decide, by omega, by omega, ?_⟩
  refine fr_core (walk_rangeC (lo := 0 + (((hi - 0).toNat : Nat) : Int) - 1) (c := -1) (n := (hi - 0).toNat)) (by simp [revI, rngI]) I hp h0 (fun _ _ _ _ => trivial) ?_ hd
  rintro i x rest s u σ' H1 H2 hx q ⟨rfl, rfl⟩ p
  have := revI_at hx
  subst this
  exact hs _ rest s σ' _ q p
end
/-! lists of the same instances -/
def Alike (F : Hp) (u v : V) : Prop := ∃ a b vs, u = .ref a ∧ v = .ref b ∧ F a = some (.lst vs) ∧ F b = some (.lst vs) ∧ ∀ x ∈ vs, ∃ c, x = .ref c
def RefE {α : Type} (e : α → Dat) : Prop := ∀ x F v, RD F (e x) v → ∃ c, v = .ref c
section
variable {α : Type} {K : PySem.W.Frag} {F H : Hp} {σ : Sg} {Q : VK} {u v : V} {e : α → Dat} {zs : List α}
theorem Alike.up {Ls : List Addr} {F' H' : Hp} (t : Stp Ls F H F' H') (h : Alike F u v) : Alike F' u v := by
  obtain ⟨a, b, vs, h1, h2, h3, h4, h5⟩ := h
  exact ⟨a, b, vs, h1, h2, t.ex _ _ h3, t.ex _ _ h4, h5⟩
theorem refs_of {vs : List V} (r : RefE e) (h : RDs F (zs.map e) vs) : ∀ x ∈ vs, ∃ c, x = .ref c := by
  induction zs generalizing vs with
  | nil => intro x hx; rw [show vs = [] from h] at hx; cases hx
  | cons z l ih =>
    obtain ⟨v, w, rfl, h1, h2⟩ := h
    intro x hx
    rcases List.mem_cons.mp hx with rfl | hx
    · exact r z F _ h1
    · exact ih h2 x hx
/-- a copy of a list of instances -/
theorem sm_cpA (r : RefE e) (s : Same F H) (h : RD F (eL e zs) u) (k : ∀ v F' H', Stp [] F H F' H' → RD F' (eL e zs) v → Alike F' u v → Q v H') : rListU K [u] H Q := by
  obtain ⟨a, vs, rfl, h1, h2⟩ := id h
  refine ⟨a, vs, rfl, .inl (same_l s h1), fun p n => ?_⟩
  have t : Stp [] F H F (upd H p (.lst vs)) := Stp.newO s n
  have o : Own F (upd H p (.lst vs)) p (.lst vs) := ⟨s.free n, upd_same, trivial⟩
  have t2 := Stp.frz t.inn o
  exact k _ _ _ (t.trans t2 (sub_new n sub_nil)) ⟨p, vs, rfl, upd_same, h2.up t2.ex⟩ ⟨a, p, vs, rfl, rfl, t2.ex _ _ h1, upd_same, refs_of r h2⟩
/-- == that may be of lists of instances -/
def rEqW (K : PySem.W.Frag) : R2 := fun x y H Q => rEqU K x y H Q ∨ rEqV K x y H Q
theorem op_eqW {X : Cx} (hu : X.A.units + 64 < cLine) : OpR X (compareOp .Eq) (rEqW X.K) := OpR.or (op_eqU hu) (op_eqV hu)
theorem paired_refs {E : V → V → Prop} (hE : ∀ c, E (.ref c) (.ref c)) : ∀ vs : List V, (∀ x ∈ vs, ∃ c, x = .ref c) → Paired E vs vs
  | [], _ => .nil
  | v :: vs, h => by
    obtain ⟨c, rfl⟩ := h v List.mem_cons_self
    exact .cons (hE c) (paired_refs hE vs fun x hx => h x (List.mem_cons_of_mem _ hx))
theorem sm_eqA (s : Same F H) (h : Alike F u v) (k : Q (.bl true) H) : rEqW K u v H Q := by
  obtain ⟨a, b, vs, rfl, rfl, h3, h4, h5⟩ := h
  exact .inr ⟨1, by decide, .inl ⟨a, b, vs, vs, rfl, rfl, same_l s h3, same_l s h4, paired_refs (fun c => .inr (.inl ⟨c, rfl, rfl⟩)) vs h5⟩, k⟩
end
end DK
set_option maxRecDepth 100000
set_option maxHeartbeats 2000000
/-! DK, thirty-fifth part: texts; an exception made with a number. -/
namespace DK
open PySem PySem.Spec PyProof.Rows L2
/-! ### texts -/
abbrev strI (i : Int) : Str := toString i
abbrev rSplitT : V → List V → Hp → VK → Prop := fun x xs H Q => ∃ a b, x = .str a ∧ xs = [.str b] ∧ (b.length == 0) = false ∧ a.length + 2 ≤ sizeLine ∧ rNewStrs (Txt.split a b) H Q
abbrev rJoinT (K : PySem.W.Frag) : V → List V → Hp → VK → Prop := fun x xs H Q => ∃ a p, ∃ ys : List Str, x = .str a ∧ xs = [.ref p] ∧ (SqL K H p (ys.map V.str) ∨ SqT K H p (ys.map V.str)) ∧
    (ys.map (·.length)).sum + ys.length * a.length ≤ 16777216 ∧ Q (.str (Txt.join a ys)) H
abbrev rStripT : V → List V → Hp → VK → Prop := fun x xs H Q => ∃ a b, x = .str a ∧ xs = [.str b] ∧ a.length ≤ sizeLine ∧ Q (.str (Txt.stripChars a b)) H
abbrev rStartsT : V → List V → Hp → VK → Prop := fun x xs H Q => ∃ a b, x = .str a ∧ xs = [.str b] ∧ Q (.bl (Txt.startswith a b)) H
def rIntU : List V → Hp → VK → Prop := fun xs H Q => rInt1 xs H Q ∨ ∃ a n, xs = [.str a] ∧ PySem.intText? a = some n ∧ a.length ≤ 640 ∧ Q (.int n) H
theorem call_intU {X : Cx} : CallR X (.type "int") rIntU := CallR.or call_int1 call_int_str
def joinOk (a : Str) (ys : List Str) : Bool := decide ((ys.map (·.length)).sum + ys.length * a.length ≤ 16777216)
section
variable {K : PySem.W.Frag} {F H : Hp} {σ : Sg} {Q : VK} {D : Ends} {u v : V} {L : Addr} {vs : List V} {a b : Str} {ys : List Str} {i n : Int}
theorem st_m1 {r : V → List V → Hp → VK → Prop} {to te : TE} (k : to σ H fun x H1 => (∃ a, x = .str a) ∧ te σ H1 fun y H2 => r x [y] H2 Q) : tM1 r to te σ H Q := k
theorem sm_m1 {P : Prop} (k : P) : (∃ a', V.str a = .str a') ∧ P := ⟨⟨a, rfl⟩, k⟩
theorem sm_split (s : Same F H) (hb : (b.length == 0) = false) (g : a.length ≤ 1000000) (k : KOwn F H ((Txt.split a b).map Dat.str) Q) : rSplitT (.str a) [.str b] H Q := by
  refine ⟨a, b, rfl, rfl, hb, by rw [sizeLine_eq]; omega, fun p n => nw_ownK s ?_ k p n⟩
  generalize Txt.split a b = l
  clear k
  induction l with
  | nil => exact rfl
  | cons y l ih => exact ⟨_, _, rfl, rfl, ih⟩
theorem strs_of {ys : List Str} {vs : List V} (h : RDs F (ys.map Dat.str) vs) : vs = ys.map V.str := by
  induction ys generalizing vs with
  | nil => exact h
  | cons y ys ih =>
    obtain ⟨v, r, rfl, h1, h2⟩ := h
    rw [show v = V.str y from h1, ih h2]; rfl
theorem sm_joinL (s : Same F H) (h : RD F (eL Dat.str ys) u) (g : joinOk a ys = true) (k : Q (.str (Txt.join a ys)) H) : rJoinT K (.str a) [u] H Q := by
  obtain ⟨p, vs, rfl, h1, h2⟩ := h
  cases strs_of h2
  exact ⟨a, p, ys, rfl, rfl, .inl (same_l s h1), of_decide_eq_true g, k⟩
theorem sm_stripT (g : a.length ≤ 1000000) (k : Q (.str (Txt.stripChars a b)) H) : rStripT (.str a) [.str b] H Q := ⟨a, b, rfl, rfl, by rw [sizeLine_eq]; omega, k⟩
theorem sm_starts (k : Q (.bl (Txt.startswith a b)) H) : rStartsT (.str a) [.str b] H Q := ⟨a, b, rfl, rfl, k⟩
theorem sm_intU (k : rInt1 [u] H Q) : rIntU [u] H Q := .inl k
theorem sm_intS (h : PySem.intText? a = some n) (g : a.length ≤ 640) (k : Q (.int n) H) : rIntU [.str a] H Q := .inr ⟨a, n, rfl, h, g, k⟩
theorem sm_strI (g : i.natAbs.log2 < 1920) (k : Q (.str (strI i)) H) : rStrInt [.int i] H Q := ⟨i, rfl, g, k⟩
theorem sm_lenT (g : a.length ≤ 1000000) (k : Q (.int (a.length : Nat)) H) : rLenU K [.str a] H Q := ⟨.str a, a.length, rfl, ⟨by rw [sizeLine_eq]; omega, rfl⟩, k⟩
end
/-! ### a new list of ours, or None -/
def OptO {α : Type} (F' H' H0 : Hp) (e : α → Dat) : Option (List α) → V → Prop
  | none, u => u = .non
  | some zs, u => ∃ L vs, u = .ref L ∧ Fre H0 L ∧ Own F' H' L (.lst vs) ∧ RDs F' (zs.map e) vs
section
variable {α : Type} {F F0 H H0 : Hp} {S : List Addr} {e : α → Dat} {r : Option (List α)} {zs : List α} {u : V} {Q : VK}
theorem optO_fz (t : Stp S F0 H0 F H) (h : OptO F H H0 e r u) : ∃ F2, Stp S F0 H0 F2 H ∧ RD F2 (eO (eL e) r) u := by
  cases r with
  | none => exact ⟨F, t, h⟩
  | some zs =>
    obtain ⟨L, vs, rfl, n, o, q⟩ := h
    obtain ⟨F2, t2, q2⟩ := own_fz t.inn o q
    exact ⟨F2, t.trans t2 (sub_new n sub_nil), q2⟩
theorem sm_isNO {G : Hp} (h : OptO F H H0 e r u) (k : Q (.bl r.isNone) G) : rIsN u .non G Q := by
  cases r with
  | none => rw [show u = V.non from h]; exact st_isN1 k
  | some zs =>
    obtain ⟨L, vs, rfl, _⟩ := h
    exact st_isN0 (by intro z; cases z) k
theorem optO_some (h : OptO F H H0 e r u) (q : r = some zs) : ∃ L vs, u = .ref L ∧ Fre H0 L ∧ Own F H L (.lst vs) ∧ RDs F (zs.map e) vs := by
  subst q; exact h
end
/-! ### an exception made with a number -/
section
variable {K : PySem.W.Frag}
theorem oex_obj {C : Addr} (q : oexIn K C = true) : ∃ nm q N bs bm sn sub ab col dd k0 k1 k2 k3 k5, K.lookup C = some (excClassObj nm q C N bs bm true sn sub ab col dd k0 k1 k2 k3 k5 "ValueError.__new__") ∧ PySem.HandSPX.refsVE bm = true := by
  unfold oexIn at q
  split at q
  · rename_i dd cd sl ho
    split at q
    · rename_i C' bm k0 k1 k2 k3 n k5 hm hs
      simp only [Bool.and_eq_true, beq_iff_eq, Bool.not_eq_true'] at q
      obtain ⟨rfl, rfl, hdel, hdd, ht⟩ := q
      obtain ⟨nm, bs, mro, ns, qn, hd, sn, sub, ab, col, del⟩ := cd
      dsimp only at hm hdel hdd
      subst hm hdel hdd
      have hsl : sl = #[k0, k1, k2, k3, some (.builtin "ValueError.__new__"), k5] := by
        obtain ⟨l⟩ := sl
        simp only at hs
        rw [hs]
      subst hsl
      exact ⟨nm, qn, ns, bs, bm, sn, sub, ab, col, dd, k0, k1, k2, k3, k5, ho, ht⟩
    · cases q
  · cases q
/-- an exception class of ours with an __init__ -/
structure OexI (K : PySem.W.Frag) (C f : Addr) : Prop where
  c : OexC K C
  i : PySem.W.findIn K (.ref C) "__init__" = some (some (.ref f))
  t : PySem.W.typeIn K (.ref f) = some (.type "function")
  l : PySem.W.findIn K (.ref C) "line" = some none
variable {fa : List He.Fa} {fb : List Fb} {fn : List He.DefD} {mg : Str → Option Value}
theorem FactsB.oex (T : FactsB fa fb fn K mg) (i : Nat) {x : Str} (h : fb[i]? = some (.oex x) := by rfl) : OexI K (He.ga K x) (He.ma K (He.ga K x) "__init__") := by
  obtain ⟨h1, h2⟩ := He.ba (T.more i _ h)
  obtain ⟨h2, h3⟩ := He.ba h2
  obtain ⟨h3, h4⟩ := He.ba h3
  obtain ⟨h4, h5⟩ := He.ba h4
  obtain ⟨h5, h6⟩ := He.ba h5
  obtain ⟨h6, h7⟩ := He.ba h6
  obtain ⟨h7, h8⟩ := He.ba h7
  exact ⟨⟨oex_obj h1, of_decide_eq_true h2, of_decide_eq_true h3, of_decide_eq_true h4, h5⟩, of_decide_eq_true h6, of_decide_eq_true h7, of_decide_eq_true h8⟩
def OexOk (P : Program) (w : World) (K : PySem.W.Frag) (mg : Str → Option Value) (base : Heap) (x : Str) (k : Nat) (ps : List Str) (sp : Sp) : Prop :=
  ∃ (f : Addr) (fd : FuncData), OexI K (He.ga K x) f ∧ FnOk P w K mg base (L2N.CX P w) k f fd ps sp ∧ mg x = some (.ref (He.ga K x)) ∧ Binds K fd ps []
theorem FactsB.moe (T : FactsB fa fb fn K mg) {P : Program} {w : World} {base : Heap} {k : Nat} {N ps : List Str} {sp : Sp} (i j l : Nat) {d : He.DefD} {x : Str} (hi : fn[i]? = some d) (hd : d.at_ = (x, some ("__init__" : Str))) (hdf : d.dfl = []) (hkw : d.kwd = []) (hj : fa[j]? = some (.glo x)) (hl : fb[l]? = some (.oex x))
    (S : FnScope N ps d.scope) (len : ∀ vs H Q E, sp vs H Q E → vs.length = ps.length)
    (hb : ∀ (dV kV doc pm : Value) (an : Option Addr) (cdv ct : Value) (us : List Value), us.length = ps.length → bindArgs (PySem.W.fnOf d.name d.qual d.params d.body d.scope .none kV doc pm an cdv ct) ⟨us, []⟩ = pure (ps.zip us))
    (hbody : ∀ (cdv : Value) (A : Around) (outer : List Env) (s : Shared) (H : Hp) (vs : List V) (Q : VK) (E : XK), Room k (A.deeper (envOfC d.qual d.scope s.heap.objs.size (He.fAd K d.at_) cdv)) → sp vs H Q E →
      ∃ t, PSs (cxOf (L2N.CX P w) P w K mg base N d.qual d.scope (He.fAd K d.at_) cdv A outer s H E) d.body t ∧ t { nx := fun _ H' => Q .non H', rt := Q } (start N vs) H) :
    OexOk P w K mg base x (k + 1) ps sp := by
  obtain ⟨fd, F⟩ := T.says.def_ i hi
  have F2 : FunD K d.name d.qual d.params d.body d.scope [] [] (He.fAd K d.at_) fd := by
    have z1 : d.dvs K = [] := by unfold He.DefD.dvs; rw [hdf]; rfl
    have z2 : d.kws K = [] := by unfold He.DefD.kws; rw [hkw]; rfl
    rw [z1, z2] at F
    exact F
  have M := T.oex l hl
  have e1 : He.fAd K d.at_ = He.ma K (He.ga K x) "__init__" := by rw [hd]; rfl
  refine ⟨He.fAd K d.at_, fd, by rw [e1]; exact M, FunD.ok F S len hbody, T.glo j hj, F2.bindsN fun kV doc pm an cdv ct us hl => hb .none kV doc pm an cdv ct us hl⟩
end
section
variable {X : Cx} {k : Nat} {ps : List Str} {sp : Sp} {x : Str} {p pos pos2 : Pos} {e : Expr} {es : List Expr} {ta : TA}
/-- made with a number, calm -/
theorem pmk_oexN {f : Addr} {fd : FuncData} (T : OexI X.K (He.ga X.K x) f) (F1 : FnOk X.prog X.w X.K X.mg X.base (L2N.CX X.prog X.w) k f fd ps sp) (hr : Room (k + 1) X.A) (hb : Binds X.K fd ps []) (hx : Passes (L2N.CX X.prog X.w) X (fun _ _ _ => False)) (hg : Gl X x) (hm : X.mg x = some (.ref (He.ga X.K x))) (ha : PA X (e :: es) ta)
    (hdb : (x == ("__debug__" : Str)) = false := by decide) (he : starEach (e :: es) X.env = (false, eval e X.env) :: starEach es X.env := by rfl) (hpl : (backTo pos (starEach es X.env)).any (·.1) = false := by rfl) :
    L2N.PMk X (.Call (.Name x p) (e :: es) [] pos) (tMkO (He.ga X.K x) sp [] ta) := by
  intro pins s σ H Q I h
  obtain ⟨nm, q, N, bs, bm, sn, sub, ab, col, dd, k0, k1, k2, k3, k5, hC, hbm⟩ := T.c.cls
  refine wpAny_Call_Name_kw (ld_glob I hg hm ?_ hdb)
  refine PySem.W.callWith_K (h₀ := X.base) I.ok.mod.kin T.c.kC (thn (ha.run pos pins s σ H _ I h) fun us s1 ⟨vs, H1, I1, r1, hz, q1⟩ => ⟨I1.kIn, ?_⟩) he hpl
  show wpAny _ _ (call (.ref (He.ga X.K x)) us) _ _ _
  obtain ⟨hp, g, dr, tk, os⟩ := s1
  have hsz : hp.objs.size ≤ hp.objs.size + 1 := Nat.le_succ _
  have hq := q1 (hp.objs.size + 1) (I1.hok.fresh hsz)
  rw [List.append_nil] at hq
  have kk : ∀ b o, hp.get? b = some o → ((hp.push (PySem.W.kdv_tup us)).push (PySem.HandSPX.excO (He.ga X.K x) hp.objs.size)).get? b = some o := fun b o e => Heap.get?_push_of_some _ (Heap.get?_push_of_some _ e)
  have hget : ((hp.push (PySem.W.kdv_tup us)).push (PySem.HandSPX.excO (He.ga X.K x) hp.objs.size)).get? (hp.objs.size + 1) = some (PySem.HandSPX.excO (He.ga X.K x) hp.objs.size) := by heap_get
  have I2 : Inv X pins σ (upd H1 (hp.objs.size + 1) (exo (hp.objs.size + 1) (He.ga X.K x) none)) ⟨(hp.push (PySem.W.kdv_tup us)).push (PySem.HandSPX.excO (He.ga X.K x) hp.objs.size), g, dr, tk, os⟩ :=
    I1.laid (t' := tk) (a := hp.objs.size + 1) (o := exo (hp.objs.size + 1) (He.ga X.K x) none) (h' := (hp.push (PySem.W.kdv_tup us)).push (PySem.HandSPX.excO (He.ga X.K x) hp.objs.size)) kk hsz (exo_ok hget)
  have r2 : Vals (V.ref (hp.objs.size + 1) :: vs) (Value.ref (hp.objs.size + 1) :: us) := .cons rfl r1
  have hl : (Value.ref (hp.objs.size + 1) :: us ++ []).length = ps.length := by
    have e := r2.length
    rw [F1.len _ _ _ _ hq] at e
    rw [List.append_nil]
    exact e.symm
  have hus : us.length ≤ sizeLine := by
    rw [← Paired.length r1, sizeLine_eq]
    omega
  have b2 := hb _ (Value.ref (hp.objs.size + 1) :: us) I2.kIn hl
  rw [List.append_nil] at b2
  refine wpAny_call (PySem.HandSPX.call_own PySem.F.excBase_ValueError (fun Y => PySem.HandSPX.refsVE_contains Y bm hbm) (I1.kIn _ _ hC) (PySem.W.looks_findIn I1.kIn T.i) (fun self => PySem.W.bind_fn I1.kIn self T.t) hus
    (codeAny_mono (F1.run _ X.stack _ _ ⟨Value.ref (hp.objs.size + 1) :: us, []⟩ (Value.ref (hp.objs.size + 1) :: us) _ _ (fun _ _ _ => False) (hr.make _ us []) (I2.env0.make _ us []) b2 r2 hq) fun r s' hq' => ?_))
  cases r with
  | error er => exact hx pins σ _ _ er s' I2 hq'
  | ok fl =>
    cases fl with
    | ret u =>
      obtain ⟨v, H2, os2, bare2, un2, hok2, rv, ev, d, fs, ea, ed, hd1, q2⟩ := hq'
      subst ev
      obtain ⟨h2, g2, d2, t2, os'⟩ := s'
      obtain ⟨t0, G, J, kG, ge, hoe, na⟩ := mk_end0 (d2 := d2) (t2 := t2) I1 hsz kk un2 hok2 os2 bare2 ea ed hd1
      refine ⟨rv, hp.objs.size + 1, _, _, ⟨G, g2, d2, t2, os'⟩, _, .ref (He.ga X.K x), some d, rfl, J, kG, ge, hoe, ⟨rfl, rfl, fun vs hv => ?_⟩, rfl, rfl, na, rfl, bare2, raises_own T.c.exC T.c.tyC, q2⟩
      cases hv
      rfl
    | next => exact False.elim hq'
    | brk => exact False.elim hq'
    | cont => exact False.elim hq'
/-- raise X(n) -/
def tRaiseI (C : Addr) (sp : Sp) (W : WX) (ta : TA) : TS := fun _ σ H => tMkO C sp [] ta σ H fun cls d H' => W cls d σ H'
theorem ps_raiseI {W : WX} (c : OexOk X.prog X.w X.K X.mg X.base x k ps sp) (hr : Room (k + 1) X.A) (hc : X.calm = true) (tk : L2N.Takes X W) (hg : Gl X x) (ha : PA X (e :: es) ta)
    (hdb : (x == ("__debug__" : Str)) = false := by decide) (he : starEach (e :: es) X.env = (false, eval e X.env) :: starEach es X.env := by rfl) (hpl : (backTo pos (starEach es X.env)).any (·.1) = false := by rfl) :
    PS X (.Raise (some (.Call (.Name x p) (e :: es) [] pos)) none pos2) (tRaiseI (He.ga X.K x) sp W ta) := by
  obtain ⟨f, fd, T, F, hm, hb⟩ := c
  exact L2N.ps_raise hc tk (pmk_oexN T F hr hb (L2N.passes_call tk fun _ _ _ _ h => h.elim) hg hm ha hdb he hpl)
end
/-- what the __init__ of an exception with a line keeps -/
def spLine (C : Addr) : Sp := fun vs H Q _ => ∃ (a : Addr) (n : Int), vs = [.ref a, .int n] ∧ H a = some (exo a C none) ∧ ∀ dx, H dx = none → dx ≠ a → Q .non (upd (upd H dx (exd dx [("line", .int n)])) a (exo a C (some dx)))
section
variable {K : PySem.W.Frag} {F H : Hp} {σ : Sg} {C : Addr} {n : Int} {W : WX} {D : Ends}
theorem st_raiseI {ta : TA} {sp : Sp} (k : ta σ H fun vs H1 => vs.length ≤ 1000 ∧ ∀ a, H1 a = none → sp (.ref a :: (vs ++ [])) (upd H1 a (exo a C none))
  (fun v H2 => v = .non ∧ ∃ (d : Addr) (fs : List (Str × V)), H2 a = some (exo a C (some d)) ∧ H2 d = some (exd d fs) ∧ H1 d = none ∧ W (.ref C) (some d) σ (upd (del H2 a) d (.xd fs))) (fun _ _ _ => False)) : tRaiseI C sp W ta D σ H := k
theorem sm_raiseI {sp : Sp} (hsp : ∀ vs H Q E, spLine C vs H Q E → sp vs H Q E) (s : Same F H) (k : ∀ F' H' dx, Stp [] F H F' H' → ExD F' (some n) dx → W (.ref C) dx σ H') : ([V.int n] : List V).length ≤ 1000 ∧ ∀ a, H a = none → sp (.ref a :: ([V.int n] ++ [])) (upd H a (exo a C none))
  (fun v H2 => v = .non ∧ ∃ (d : Addr) (fs : List (Str × V)), H2 a = some (exo a C (some d)) ∧ H2 d = some (exd d fs) ∧ H d = none ∧ W (.ref C) (some d) σ (upd (del H2 a) d (.xd fs))) (fun _ _ _ => False) := by
  refine ⟨by simp, fun a na => hsp _ _ _ _ ⟨a, n, rfl, upd_same, fun dx nd ne => ⟨rfl, dx, [("line", .int n)], upd_same, by rw [upd_ne ne]; exact upd_same, ?_, ?_⟩⟩⟩
  · rw [upd_ne ne] at nd; exact nd
  · rw [upd_ne ne] at nd
    have e : upd (del (upd (upd (upd H a (exo a C none)) dx (exd dx [("line", .int n)])) a (exo a C (some dx))) a) dx (.xd [("line", .int n)]) = upd H dx (.xd [("line", .int n)]) := by
      funext b
      by_cases h1 : b = dx
      · subst h1; rw [upd_same, upd_same]
      · rw [upd_ne h1, upd_ne h1]
        by_cases h2 : b = a
        · subst h2; rw [del_same, na]
        · rw [del_ne h2, upd_ne h2, upd_ne h1, upd_ne h2]
    rw [e]
    exact k _ _ _ (Stp.new s nd) ⟨dx, rfl, upd_same⟩
/-- the walk of such an __init__ -/
theorem st_initI (T : OexI K C f) {a : Addr} (ha : H a = some (exo a C none)) (k : ∀ dx, H dx = none → dx ≠ a → D.nx σ (upd (upd H dx (exd dx [("line", .int n)])) a (exo a C (some dx)))) (h0 : σ[0]? = some (some (.ref a)) := by rfl) (h1 : σ[1]? = some (some (.int n)) := by rfl) : tOst K "line" (tVar 0) (tVar 1) D σ H :=
  ⟨_, h1, ⟨_, h0, a, C, rfl, T.c, T.l, .inl ⟨ha, k⟩⟩⟩
end
/-! rows of ours that grow within a loop and change within another -/
theorem FreN.no {H : Hp} : FreN H [] := fun q h => by cases h
theorem FreN.snocR {H : Hp} {rs : List Addr} {r : Addr} (h : FreN H rs) (f : Fre H r) : FreN H (rs ++ [r]) := fun q hq => by
  rcases List.mem_append.mp hq with z | z
  · exact h q z
  · rw [List.mem_singleton.mp z]; exact f
end DK
set_option maxRecDepth 100000
set_option maxHeartbeats 2000000
/-! DK, thirty-sixth part: a dict of cells: its pairs, pop, list; list.index; lists of ours made by +. -/
namespace L2
open PySem PySem.Spec PyProof.Rows
/-- the pairs of a held dict of cells: each a new pair of the key's own tuple and the value -/
def Itit (d : Addr) (o : Obj) (kvs : List (List Key × V)) : It where
  go := fun i H => H d = some (.frz o (.dT kvs)) ∧ i < kvs.length
  yld := fun i H x H' => ∃ T q k v, kvs[i]? = some (k, v) ∧ x = .ref T ∧ H q = some (.tup (k.map kV)) ∧ H T = none ∧ H' = upd H T (.tup [.ref q, v])
  stop := fun i H => H d = some (.frz o (.dT kvs)) ∧ kvs.length ≤ i
section
variable {X : Cx} {pins : List (Addr × Obj)} {σ : St} {H : Hp} {s : Shared} {d : Addr} {o : Obj} {kvs : List (List Key × V)}
theorem Inv.heldT (I : Inv X pins σ H s) (h : H d = some (.frz o (.dT kvs))) :
    (d == sysModules) = false ∧ ∃ (es : Array DictEntry) (ep : Nat), DT.Raw s.heap d es ep ∧ o.data = .dict es ep ∧ o.ExactDict ∧ es.size = kvs.length ∧
      ∀ (i : Nat) (k : List Key) (v : V), kvs[i]? = some (k, v) → ∃ (en : DictEntry) (q : Addr), es[i]? = some en ∧ en.key = .ref q ∧ H q = some (.tup (k.map kV)) ∧ RelV v en.val := by
  obtain ⟨gd, _, nm, xs, pr, _, es, ep, ho, ex, dt, ee, _⟩ := I.hok d _ h
  rw [gd] at ho
  cases ho
  refine ⟨nm, es, ep, ⟨o, gd, ex, dt⟩, dt, ex, ?_, fun i k v e => ?_⟩
  · rw [Paired.length pr]; exact size_of_entries ee
  · obtain ⟨b, hb, r1, r2, r3⟩ := paired_get pr e
    have en := entry_at ee i
    rw [hb] at en
    exact ⟨_, b.2.1, en, rfl, r2, r3⟩
theorem turn_itemsT {P : Program} {w : World} {K : PySem.W.Frag} {elts : List Expr} {kk : Nat} {tpos : Pos} {es : Array DictEntry} {ep : Nat} (it : Addr) (hod : o.data = .dict es ep) :
    Turn P w K (.Tuple elts kk tpos) (Itit d o kvs) [it] it (fun i h => ∃ ok ov, IsItemIter h it d i kvs.length ep ok ov) where
  mem := List.mem_singleton.mpr rfl
  obj := fun i h st b hb => by
    obtain ⟨ok, ov, e⟩ := st
    rw [List.mem_singleton.mp hb]
    exact ⟨_, e, fun v z => nomatch z⟩
  keep := fun i h h' st k => by
    obtain ⟨ok, ov, e⟩ := st
    exact ⟨ok, ov, k it (List.mem_singleton.mpr rfl) _ e⟩
  item := by
    intro X hP hw hK hc i pins s σ H E I hf st hg
    subst hP hw hK
    obtain ⟨hd, hi⟩ := hg
    obtain ⟨nm, es', ep', raw, dt, ex, sz, ent⟩ := I.heldT hd
    obtain ⟨rfl, rfl⟩ := dict_ep hod dt
    obtain ⟨⟨k, v⟩, hkv⟩ : ∃ p, kvs[i]? = some p := ⟨kvs[i], List.getElem?_eq_getElem hi⟩
    obtain ⟨en, q, he1, he2, he3, he4⟩ := ent i k v hkv
    have hi2 : i < es'.size := by omega
    have hen : es'[i] = en := by
      have := Array.getElem?_eq_getElem hi2
      rw [he1] at this
      exact (Option.some.inj this).symm
    obtain ⟨ok, ov, hit⟩ := st
    rw [← sz] at hit
    have below : it < s.heap.objs.size := Heap.lt_size hit
    refine DT.nextI hit raw hi2 fun h' out tp gz kp => ⟨_, rfl, wpAny_letOwnedTupleGo_items (s := { s with heap := h' }) out fun h2 hit2 sb => ?_⟩
    rw [hen, he2] at tp
    have tp2 : h2.get? s.heap.objs.size = some { cls := .type "tuple", data := .seq #[.ref q, en.val] } := (sb.2 _ (Nat.ne_of_gt below)).trans tp
    have ok2 : ObjOk X.prog X.w (upd H s.heap.objs.size (.tup [.ref q, v])) h2 s.heap.objs.size (.tup [.ref q, v]) := by
      refine ⟨?_, [.ref q, en.val], .cons rfl (.cons he4 .nil), ⟨_, tp2, rfl, _, rfl⟩⟩
      show 2 ≤ sizeLine
      decide
    have J := I.turnedNew (t' := s.toks) (ch := [it]) (fun b ob hb e => (sb.2 b (by simpa using hb)).trans (kp b ob (by simpa using hb) e)) hf (Nat.le_refl _) ok2
    refine ⟨.ref s.heap.objs.size, _, J, rfl, ⟨_, q, k, v, hkv, rfl, he3, I.hok.fresh (Nat.le_refl _), rfl⟩, ⟨_, _, by rw [← sz]; exact hit2⟩, fun b hb => ?_⟩
    rw [List.mem_singleton.mp hb, upd_ne (Nat.ne_of_lt below)]
    exact (hf it (List.mem_singleton.mpr rfl)).1
  done := by
    intro X hP hw hK hc i pins s σ H E I hf st hg
    subst hP hw hK
    obtain ⟨hd, hi⟩ := hg
    obtain ⟨f0, f1, f2, f3, f4, f5⟩ := hf it (List.mem_singleton.mpr rfl)
    obtain ⟨nm, es', ep', raw, dt, ex, sz, ent⟩ := I.heldT hd
    obtain ⟨rfl, rfl⟩ := dict_ep hod dt
    obtain ⟨ok, ov, hit⟩ := st
    rw [← sz] at hit
    exact DT.endI (I.ok.hd hc) hit raw (by omega) fun h' eb => ⟨rfl, I.turned (t' := s.toks) (fun b ob hb e => eb b ob hb e) f0 f1 f3 f4 f5⟩
  self := fun A i s Q E st h => by
    obtain ⟨ok, ov, e⟩ := st
    exact PySem.W.kcp_self e h
def iItemsT (td : TE) : TI := fun σ H R => td σ H fun x H1 => ∃ d o kvs, x = .ref d ∧ H1 d = some (.frz o (.dT kvs)) ∧ R (Itit d o kvs) H1
theorem pi_itemsT {td : TE} {e : Expr} {apos cpos : Pos} {elts : List Expr} {kk : Nat} {tpos : Pos} (he : PE X e td) (hbase : attributeBase e "items" X.env (eval e X.env) = eval e X.env := by rfl) (hline : (apos.endLine == cpos.line) = true := by rfl) :
    PI X (.Tuple elts kk tpos) (.Call (.Attribute e "items" apos) [] [] cpos) (iItemsT td) := ⟨fun pins s σ H R I h => by
  refine wpAny_Call_method (T := "dict") (id := "dict.items") hbase rfl hline F.plainAttrs_dict F.slot_dict_items F.type_dict_items (thn (he.run pins s σ H _ I h) fun u s1 ⟨x, H1, I1, rx, d, o, kvs, ex, hd, q⟩ => ?_)
  subst ex
  cases rx
  obtain ⟨nm, es, ep, raw, dt, exd, sz, ent⟩ := I1.heldT hd
  have gd := raw
  obtain ⟨o', ho, hx, _⟩ := raw
  refine ⟨⟨o', ho, hx.1⟩, fun a e => ?_, ?_⟩
  · cases e
    exact ⟨o', ho, hx.2.1⟩
  · have I2 : Inv X pins σ H1 { s1 with heap := s1.heap.push { cls := .type "dict_items", data := .fields #[.ref d] } } := I1.kept (t' := s1.toks) fun b ob q => Heap.get?_push_of_some _ q
    have fin : wpAny (model X.prog X.w) X.A (pyIter (.ref s1.heap.objs.size)) (PIE X pins σ (.Tuple elts kk tpos) R) X.xe { s1 with heap := s1.heap.push { cls := .type "dict_items", data := .fields #[.ref d] } } := by
      refine DT.iterI (d := d) (es := es) (ep := ep) ⟨_, Heap.get?_push_size _ rfl, rfl, rfl⟩ (gd.push _) (pi_one (tk := s1.toks) I2 _ (turn_itemsT _ dt) ⟨.none, .none, ?_⟩ q)
      rw [← sz]
      exact Heap.get?_push_size _ rfl
    show wpAny _ _ (callWith cpos (.builtin "dict.items") [.ref d] [] []) _ X.xe s1
    exact method_meetsIn F.slot_dict_items F.entry_dict_items rfl (PySem.evalArgs_none ⟨rfl, gd.typeIs, F.args_dict_items_1 _, _, DT.meetsItems (es := es) (ep := ep) nm, ⟨gd, fin⟩⟩)⟩
theorem walk_itemsT : Walk (Itit d o kvs) kvs.length (fun H => H d = some (.frz o (.dT kvs)))
    (fun i H x H' => ∃ T q k v, kvs[i]? = some (k, v) ∧ x = .ref T ∧ H q = some (.tup (k.map kV)) ∧ H T = none ∧ H' = upd H T (.tup [.ref q, v])) :=
  ⟨fun _ _ hi q => ⟨q, hi⟩, fun _ q => ⟨q, Nat.le_refl _⟩, fun _ _ _ _ _ _ y => y⟩
/-- d.pop(k), k a cell that is there -/
def rPopT1 : V → List V → Hp → VK → Prop := fun x xs H Q => ∃ (a : Addr) (kvs : List (List Key × V)) (k : List Key) (b : Addr) (v : V), x = .ref a ∧ xs = [.ref b] ∧ H a = some (.dT kvs) ∧ H b = some (.tup (k.map kV)) ∧ valV kvs k = some v ∧ Q v (upd H a (.dT (dropK kvs k)))
theorem mt_popT1 (hu : X.A.units + 1 < cLine) : MtR X "dict.pop" rPopT1 := by
  intro pins s σ H x xs v us Q I rx rxs h
  obtain ⟨a, kvs, k, b, v0, rfl, rfl, ha, hb, hv, q⟩ := h
  cases rx
  obtain ⟨u, rfl, r1⟩ := rxs.one
  cases r1
  obtain ⟨z, nm, es, rel, dd⟩ := dt_of I.hok ha
  have hz : es.length ≤ sizeLine := by rw [← Paired.length rel]; exact z
  have r := rel.val k
  rw [hv] at r
  cases hp : atKey es k with
  | none => rw [hp] at r; exact (show False from r).elim
  | some p =>
    rw [hp] at r
    have rv : RelV v0 p.2 := r
    refine call_pop_heap (more := []) (knd := tupleKind (mixKind X.prog X.w)) (k := k) (.inl rfl) (F.args_dict_pop_2 _ _) (tupleKind_room_in1 hu) (key_of I.hok hb) nm dd hp (fun h' dd' sb => ?_) hz
    obtain ⟨o', es', ep', g1, g2, g3, g4, _, g5⟩ := dd'
    have J : Inv X pins σ (upd H a (.dT (dropK kvs k))) { s with heap := h', toks := s.toks + (tupleKind (mixKind X.prog X.w)).draws k } :=
      d_write I (by rw [ha]; exact True.intro) sb ⟨o', g1⟩ ⟨Nat.le_trans (dropK_le kvs k) z, nm, _, (DX.KT_drop k rel).keeps (fun c ys ec => (by rw [upd_ne (ne_of ec ha (fun z => nomatch z))]; exact ec)), o', es', ep', g1, g2, g3, g4, g5⟩
    exact ⟨v0, _, J, rv, q⟩
end
end L2
namespace DK
open PySem PySem.Spec PyProof.Rows L2
def dropD {α : Type} (zs : List ((Int × Int) × α)) (k : Int × Int) : List ((Int × Int) × α) := zs.filter fun p => decide (p.1 ≠ k)
def rListDT : List V → Hp → VK → Prop := fun xs H Q => ∃ d kvs, xs = [V.ref d] ∧ Rd H d (.dT kvs) ∧ ∀ p bs, H p = none → IsKeys H kvs bs → Q (.ref p) (upd H p (.lst (bs.map V.ref)))
section
variable {α : Type} {vv : α → V} {e : α → Dat} {K : PySem.W.Frag} {F H : Hp} {σ : Sg} {Q : VK} {D : Ends} {zs : List ((Int × Int) × α)} {k : Int × Int} {v : α} {u w x : V} {L : Addr} {od : Obj} {vs : List V} {ns : List Int}
theorem dropK_d : dropK (dTK vv zs) (kP k) = dTK vv (dropD zs k) := by
  unfold dropK dropD
  rw [List.filter_map]
  congr 2
  funext p
  show decide (kP p.1 ≠ kP k) = decide (p.1 ≠ k)
  by_cases h : p.1 = k
  · rw [decide_eq_false (fun z => z (by rw [h])), decide_eq_false (fun z => z h)]
  · rw [decide_eq_true (show kP p.1 ≠ kP k from fun z => h (kP_inj.mp z)), decide_eq_true (show p.1 ≠ k from h)]
/-- a cell that stands in the heap -/
theorem frz_key {p : Addr} (s : Same F H) (h : H p = some (.tup ((kP k).map kV))) : ∃ F', Stp [] F H F' H ∧ RD F' (eP Dat.int Dat.int k) (.ref p) := by
  obtain ⟨F', t, q⟩ := Stp.frzT s h
  exact ⟨F', t, p, _, rfl, q, RDs.cons RD.int_ (RDs.cons RD.int_ RDs.nil)⟩
theorem frz_keys : ∀ (ks : List (Int × Int)) (bs : List Addr) {F : Hp}, Same F H → Paired (fun (k : Int × Int) b => H b = some (.tup ((kP k).map kV))) ks bs → ∃ F', Stp [] F H F' H ∧ RDs F' (ks.map (eP Dat.int Dat.int)) (bs.map V.ref)
  | [], _, F, s, h => by
    cases h
    exact ⟨F, Stp.refl s, rfl⟩
  | k :: ks, _, F, s, h => by
    cases h with
    | cons h1 h2 =>
      obtain ⟨F1, t1, r1⟩ := frz_key s h1
      obtain ⟨F2, t2, r2⟩ := frz_keys ks _ t1.inn h2
      exact ⟨F2, t1.trans t2 sub_nil, RDs.cons (r1.up t2.ex) r2⟩
theorem keys_of {bs : List Addr} (h : IsKeys H (dTK vv zs) bs) : Paired (fun (k : Int × Int) b => H b = some (.tup ((kP k).map kV))) (zs.map (·.1)) bs := by
  unfold IsKeys at h
  induction zs generalizing bs with
  | nil => cases h; exact .nil
  | cons z zs ih =>
    cases h with
    | cons h1 h2 => exact .cons h1 (ih h2)
/-- list(d) -/
theorem sm_lstDT (s : Same F H) (o : Own F H L (.dT (dTK vv zs))) (kk : ∀ u F' H', Stp [] F H F' H' → RD F' (eL (eP Dat.int Dat.int) (zs.map (fun p_ => p_.1))) u → Q u H') : rListDT [.ref L] H Q := by
  refine ⟨L, _, rfl, .inl o.h, fun p bs n ik => ?_⟩
  obtain ⟨F1, t1, r1⟩ := frz_keys _ _ s (keys_of ik)
  have t2 : Stp [] F1 H (upd F1 p (.lst (bs.map V.ref))) (upd H p (.lst (bs.map V.ref))) := Stp.new t1.inn n
  exact kk _ _ _ (t1.trans t2 sub_nil) ⟨p, _, rfl, upd_same, r1.up t2.ex⟩
/-- d.pop(k) -/
theorem sm_dpop (s : Same F H) (o : Own F H L (.dT (dTK vv zs))) (hk : RD F (eP Dat.int Dat.int k) w) (hv : lookD zs k = some v) (kk : ∀ F' H', Stp [L] F H F' H' → Own F' H' L (.dT (dTK vv (dropD zs k))) → Q (vv v) H') : rPopT1 (.ref L) [w] H Q := by
  obtain ⟨b, rfl, hb⟩ := rd_key s hk
  exact ⟨L, _, kP k, b, vv v, rfl, rfl, o.h, hb, by rw [valV_d, hv]; rfl, kk _ _ (Stp.put s o) ⟨o.f, by rw [upd_same, dropK_d], trivial⟩⟩
theorem ty_dT (o : Own F H L (.dT (dTK vv zs))) : tyV K "dict" (.ref L) H := .inr (.inr (.inl ⟨rfl, .inr ⟨_, o.h⟩⟩))
/-- xs.index(n) -/
theorem idx_of {ns : List Int} {n j : Int} (h : idxR ns n = .ok j) : ∃ i : Nat, j = (i : Int) ∧ ns[i]? = some n ∧ ∀ m z, m < i → ns[m]? = some z → z ≠ n := by
  unfold idxR at h
  cases q : ns.idxOf? n with
  | none => rw [q] at h; cases h
  | some i =>
    rw [q] at h
    cases h
    obtain ⟨hl, h1, h2⟩ := List.findIdx?_eq_some_iff_getElem.mp q
    refine ⟨i, rfl, ?_, fun m z hm hz => ?_⟩
    · rw [List.getElem?_eq_getElem hl, eq_of_beq h1]
    · have := h2 m hm
      have hz2 := (List.getElem?_eq_some_iff.mp hz).2
      rw [hz2] at this
      intro e
      exact this (by rw [e]; exact beq_self_eq_true n)
theorem Post.idx {β : Type} {P : β → Prop} {X : Xc → Option Int → Prop} {n : Int} {kk : Int → Rs β} (h : Post ((idxR ns n).bnd kk) P X) : ∃ j, idxR ns n = .ok j ∧ Post (kk j) P X := by
  cases q : idxR ns n with
  | ok j => rw [q] at h; exact ⟨j, rfl, h⟩
  | exc c t => unfold idxR at q; split at q <;> cases q
  | bad => rw [q] at h; exact h.elim
theorem sq_index {l : Addr} {n j : Int} (hs : SqL K H l (ns.map V.int)) (h : idxR ns n = .ok j) (kk : Q (.int j) H) : rIndex K (.ref l) [.int n] H Q := by
  obtain ⟨i, rfl, h1, h2⟩ := idx_of h
  refine ⟨l, _, .int n, i, .int n, rfl, rfl, hs, rfl, ?_, by rw [List.getElem?_map, h1]; rfl, beq_self_eq_true n, fun m z' hm hz => ?_, kk⟩
  · rw [List.all_map]
    exact List.all_eq_true.mpr fun _ _ => rfl
  · rw [List.getElem?_map] at hz
    obtain ⟨z, hz1, rfl⟩ := Option.map_eq_some_iff.mp hz
    exact beq_eq_false_iff_ne.mpr (h2 m z hm hz1)
theorem sm_idxO {n j : Int} (o : Own F H L (.lst vs)) (hd : RDs F (ns.map Dat.int) vs) (h : idxR ns n = .ok j) (kk : Q (.int j) H) : rIndex K (.ref L) [.int n] H Q := by
  rw [hd.ints] at o
  exact sq_index (SqL.of o.h) h kk
theorem sm_idxL {n j : Int} (s : Same F H) (hd : RD F (eL Dat.int ns) x) (h : idxR ns n = .ok j) (kk : Q (.int j) H) : rIndex K x [.int n] H Q := by
  obtain ⟨a, vs, rfl, h1, h2⟩ := hd
  rw [RDs.ints h2] at h1
  exact sq_index (SqL.of (s a _ h1)) h kk
theorem ty_rdL {ds : List Dat} (s : Same F H) (hd : RD F (.lst ds) x) : tyV K "list" x H := by
  obtain ⟨a, vs, rfl, h1, h2⟩ := hd
  exact .inl ⟨rfl, _, SqL.of (s a _ h1)⟩
/-- two lists in one of ours -/
theorem sm_catO {β : Type} {e : β → Dat} {xs ys : List β} (s : Same F H) (h1 : RD F (.lst (xs.map e)) u) (h2 : RD F (.lst (ys.map e)) w) (z : xs.length + ys.length ≤ 1000000) (kk : KOwn F H ((xs ++ ys).map e) Q) : rAddU K u w H Q := by
  obtain ⟨a, vs, rfl, _, h3, h4⟩ := rd_lst s h1
  obtain ⟨b, ws, rfl, _, h5, h6⟩ := rd_lst s h2
  have l1 : vs.length = xs.length := by rw [h4.len, List.length_map]
  have l2 : ws.length = ys.length := by rw [h6.len, List.length_map]
  refine .inr (.inl ⟨a, b, vs, ws, rfl, rfl, h3, h5, sz_le (by omega), nw_ownK s (ds := (xs ++ ys).map e) ?_ kk⟩)
  rw [List.map_append]
  exact h4.app h6
end
section
variable {α S' R : Type} {vv : α → V} {e : α → Dat} {F H : Hp} {σ : Sg} {D : Ends} {zs : List ((Int × Int) × α)} {L : Addr} {od : Obj} {X : Xc → Option Int → Prop} {P : Ctl S' R → Prop} {f : S' → (Int × Int) × α → Rs (Ctl S' R)} {s0 : S'} {g : TG} {tl : TS} {td : TE}
/-- over its pairs -/
theorem fr_DI (o : Own F H L (.frz od (.dT (dTK vv zs)))) (he : ∀ y F, RD F (e y) (vv y)) (hv : ∀ Q : VK, Q (.ref L) H → td σ H Q) (hp : Post (forR f zs s0) P X) (I : S' → Hp → Sg → Hp → Prop) (h0 : I s0 F σ H) (hG : ∀ s F' σ H', I s F' σ H' → Own F' H' L (.frz od (.dT (dTK vv zs))) ∧ Same F' H')
    (hs : ∀ (x : (Int × Int) × α) (rest : List ((Int × Int) × α)) (s : S') (u : V) F1 σ' H1 F2 H2, I s F1 σ' H1 → Stp [] F1 H1 F2 H2 → RD F2 (eP (eP Dat.int Dat.int) e x) u → Post (f s x) (Turn f P rest X) X → g u σ' H2 fun σ2 H3 => tl { D with nx := NxF (fun s σ H => ∃ F, I s F σ H) f P rest X, ct := NxF (fun s σ H => ∃ F, I s F σ H) f P rest X, bk := D.nx } σ2 H3)
    (hd : ∀ s σ H, (∃ F, I s F σ H) → P (.nx s) → D.nx σ H) : iItemsT td σ H fun J H => LoopOwes g tl D σ J H := by
  refine hv _ ⟨L, od, _, rfl, o.h, fr_core walk_itemsT (by rw [List.length_map]) (fun s σ H => ∃ F, I s F σ H) hp ⟨F, h0⟩ (fun s σ H' ⟨F', q⟩ => (hG s F' σ H' q).1.h) ?_ hd⟩
  rintro i x rest s u σ' H1 H2 hx ⟨F1, q⟩ ⟨T, p, k, w, e1, rfl, e2, e3, rfl⟩ pp
  rw [List.getElem?_map, hx] at e1
  cases e1
  obtain ⟨F2, t2, r2⟩ := frz_key (hG _ _ _ _ q).2 e2
  have t3 : Stp [] F2 H1 (upd F2 T (.tup [.ref p, vv x.2])) (upd H1 T (.tup [.ref p, vv x.2])) := Stp.new t2.inn e3
  exact hs x rest s _ F1 σ' H1 _ _ q (t2.trans t3 sub_nil) ⟨T, _, rfl, upd_same, RDs.cons (r2.up t3.ex) (RDs.cons (he _ _) RDs.nil)⟩ pp
end
end DK
namespace DK
open PySem PySem.Spec PyProof.Rows L2
/-! lists of ours that a loop makes anew -/
abbrev Mv (H : Hp) (L0 L : Addr) : Prop := L = L0 ∨ Fre H L
section
variable {H H1 : Hp} {L L0 : Addr} {S S' : List Addr}
theorem sub_mv (m : Mv H L0 L) (h : L0 ∈ S) (t : ∀ q ∈ S', q ∈ S ∨ H q = none) : ∀ q ∈ L :: S', q ∈ S ∨ H q = none := fun q hq => by
  rcases List.mem_cons.mp hq with rfl | hq
  · rcases m with rfl | m
    · exact .inl h
    · exact .inr m
  · exact t q hq
theorem Mv.fre (m : Mv H1 L0 L) (a : Fre H L0) (b : ∀ p, Fre H1 p → Fre H p) : Fre H L := by
  rcases m with rfl | m
  · exact a
  · exact b _ m
end
end DK
namespace DK
open PySem PySem.Spec PyProof.Rows L2
/-! list(range(a, b)) -/
def rLRg (x y : V) (H : Hp) (Q : VK) : Prop := ∃ i j, x = .int i ∧ y = .int j ∧ (RgOk i j ∧ ∀ q, H q = none → Q (.ref q) (upd H q (.lst (rgV i j))))
section
variable {F H : Hp} {σ : Sg} {Q : VK} {ta tb : TE} {a b : Int}
theorem st_lstRg2 (k : ta σ H fun x H1 => tb σ H1 fun y H2 => rLRg x y H2 Q) : tLstRg (tRg2 ta tb) σ H Q := k
theorem sm_lstRg (s : Same F H) (h : rngOk a b = true) (g : (b - a).toNat ≤ 1000000) (k : ∀ u F' H', Stp [] F H F' H' → RD F' (eL Dat.int (rngI a b)) u → Q u H') : rLRg (.int a) (.int b) H Q := by
  have hb := rngOk.b h
  refine ⟨a, b, rfl, rfl, ⟨hb.1, hb.2.1, hb.2.2.1, hb.2.2.2, Nat.le_trans g (by decide)⟩, nw_lst s (ds := (rngI a b).map Dat.int) ?_ k⟩
  have e : rgV a b = (rngI a b).map V.int := by
    unfold rgV rngI
    rw [List.map_map]
    rfl
  rw [e]
  exact RDs.of_ints _
end
end DK
set_option maxRecDepth 100000
set_option maxHeartbeats 2000000
/-! DK, thirty-seventh part: caught errors with a line; one of three, each behind a word. -/
namespace DK
open PySem PySem.Spec PyProof.Rows L2
/-- a caught error and its line -/
abbrev Xl : Type := Xc × Option Int
abbrev eXl (K : PySem.W.Frag) : Xl → Dat := fun p => .exc (He.ga K p.1.nm) p.2
theorem NlE.eXl {K : PySem.W.Frag} : NlE (eXl K) := fun _ => rfl
def lineR {β : Type} (y : Xl) (k : Int → Rs β) : Rs β := match y with
  | (.text, some n) => k n
  | _ => .bad
theorem Post.line {β : Type} {P : β → Prop} {X : Xc → Option Int → Prop} {y : Xl} {k : Int → Rs β} (h : Post (lineR y k) P X) : ∃ n, y = (.text, some n) ∧ Post (k n) P X := by
  unfold lineR at h
  split at h
  · exact ⟨_, rfl, h⟩
  · exact h.elim
/-- what an error's own dict holds -/
def OwnD (H : Hp) (d : Option Addr) : Prop := d = none ∨ ∃ (dx : Addr) (fs : List (Str × V)), d = some dx ∧ H dx = some (.xd fs)
def rIsL (K : PySem.W.Frag) : List V → Hp → VK → Prop := fun xs H Q => ∃ (a D : Addr) (d : Option Addr) (c : V) (u : Value) (b : Bool), xs = [.ref a, c] ∧ ClsV c u ∧ H a = some (ExK (.ref D) d a) ∧ OwnD H d ∧ ExcC K D ∧ PySem.W.kitOne K (.ref D) u = some b ∧ Q (.bl b) H
theorem call_isL {X : Cx} : CallR X (.builtin "isinstance") (rIsL X.K) := by
  intro pins s σ H xs us Q I r h
  obtain ⟨a, D, d, c, u, b, rfl, k, ha, hD, C, e, q⟩ := h
  obtain ⟨u1, u2, rfl, r1, r2⟩ := vals2 r
  have e2 := k.eq r2
  subst e2
  cases (show u1 = Value.ref a from r1)
  obtain ⟨⟨oe, vs, ho, hz, hd⟩, _⟩ := (show ObjOk X.prog X.w H s.heap a (ExK (.ref D) d a) from I.hok a _ ha)
  have hcl : (PySem.W.clsIn X.K D).isSome = true := by
    obtain ⟨cd, hc, _⟩ := PySem.W.any_some C.hd
    rw [hc]; rfl
  have J : ∃ od, PySem.W.InstAt s.heap a oe D od := by
    rcases hD with rfl | ⟨dx, fs, rfl, hx⟩
    · refine ⟨none, ?_⟩
      obtain ⟨oc, od, oda, osl⟩ := oe
      obtain ⟨h1, h2⟩ := hz
      dsimp only at h1 h2 hd
      subst h1 h2 hd
      exact ⟨ho, rfl, rfl, trivial⟩
    · obtain ⟨mA, hns, _⟩ := (show ObjOk X.prog X.w H s.heap dx (.xd fs) from I.hok dx _ hx)
      obtain ⟨od, hod, _⟩ := lookIn_ns hns
      refine ⟨some od, ho, hz.1, by unfold PySem.W.notCls; rw [hd] <;> rfl, by rw [hz.2]; exact hod⟩
  obtain ⟨od, J⟩ := J
  exact PySem.W.kia_one (PySem.W.kitx_exc hcl C.hg C.hk C.hs C.ha C.hn C.ht C.hm) I.kIn J e (fun z => nomatch z) fun tk => ⟨.bl b, H, I.tok tk, rfl, q⟩
/-- a caught error's field -/
def rXl (K : PySem.W.Frag) (n : Str) (x : V) (H : Hp) (Q : VK) : Prop := ∃ (a C dx : Addr) (fs : List (Str × V)) (v : V), x = .ref a ∧ H a = some (ExK (.ref C) (some dx) a) ∧ H dx = some (.xd fs) ∧ fs.lookup n = some v ∧ ExcC K C ∧ PySem.W.findIn K (.ref C) n = some none ∧ Q v H
def tXl (K : PySem.W.Frag) (te : TE) (n : Str) : TE := fun σ H Q => te σ H fun x H1 => rXl K n x H1 Q
theorem pe_xl {X : Cx} {e : Expr} {te : TE} {pos : Pos} {n : Str} (he : PE X e te) (hb : attributeBase e n X.env (eval e X.env) = eval e X.env := by rfl) : PE X (.Attribute e n pos) (tXl X.K te n) := by
  refine ⟨fun pins s σ H Q I h => ?_⟩
  refine attr_of hb (thn (he.run pins s σ H _ I h) fun u s1 hh => ?_)
  obtain ⟨x, H1, I1, rx, a, C, dx, fs, v, ex, ea, ed, l, T, hno, q⟩ := hh
  subst ex
  obtain rfl : u = Value.ref a := rx
  obtain ⟨⟨oe, vs, ho, hz, hd⟩, _⟩ := (show ObjOk X.prog X.w H1 s1.heap a (ExK (.ref C) (some dx) a) from I1.hok a _ ea)
  have hx : ObjOk X.prog X.w H1 s1.heap dx (.xd fs) := I1.hok dx _ ed
  obtain ⟨mA, hns, hr⟩ := hx
  obtain ⟨od, hod, hl⟩ := lookIn_ns hns
  obtain ⟨u, hu, ru⟩ := RelO.some_of (v := v) (o := mA n) (by rw [← l]; exact hr n)
  have J : PySem.W.InstAt s1.heap a oe C (some od) := ⟨ho, hz.1, by unfold PySem.W.notCls; rw [hd] <;> rfl, by rw [hz.2]; exact hod⟩
  exact HandSPX.exc_get I1.kIn J T.hg T.hk T.hs (PySem.W.findObj_own T.hd hno rfl (by rw [hl, hu])) (handed_of ru) ⟨v, H1, I1.tok _, ru, q⟩
section
variable {K : PySem.W.Frag} {σ : Sg} {H F : Hp} {Q : VK} {D : Ends}
theorem st_xl {te : TE} {n : Str} (h : te σ H fun x H1 => rXl K n x H1 Q) : tXl K te n σ H Q := h
theorem ExD.own {l : Option Int} {d : Option Addr} (s : Same F H) (h : ExD F l d) : OwnD H d := by
  cases l with
  | none => exact .inl h
  | some n =>
    obtain ⟨dx, rfl, q⟩ := h
    exact .inr ⟨dx, _, rfl, s _ _ q⟩
theorem sm_isL {p : Xl} {v : V} {c : V} {u : Value} {b : Bool} (s : Same F H) (h : RD F (eXl K p) v) (hc : ClsV c u) (C : ExcC K (He.ga K p.1.nm)) (e : PySem.W.kitOne K (.ref (He.ga K p.1.nm)) u = some b) (k : Q (.bl b) H) : rIsL K [v, c] H Q := by
  obtain ⟨a, d, rfl, h1, h2⟩ := h
  exact ⟨a, _, d, c, u, b, rfl, hc, s a _ h1, h2.own s, C, e, k⟩
theorem sm_line {y : Xl} {v : V} {n : Int} (hy : y = (.text, some n)) (s : Same F H) (h : RD F (eXl K y) v) (C : ExcC K (He.ga K "NoText")) (hn : PySem.W.findIn K (.ref (He.ga K "NoText")) "line" = some none) (k : Q (.int n) H) : rXl K "line" v H Q := by
  subst hy
  obtain ⟨a, d, rfl, h1, dx, rfl, q⟩ := h
  exact ⟨a, _, dx, _, _, rfl, s a _ h1, s dx _ q, rfl, C, hn, k⟩
end
theorem sm_eqW {F H : Hp} {K : PySem.W.Frag} {Q : VK} {a b c d : Str} {u v : V} (s : Same F H) (h1 : RD F (.tup [.str a, .str b]) u) (h2 : RD F (.tup [.str c, .str d]) v) (p1 : PyData.strOk a = true) (p2 : PyData.strOk b = true) (p3 : PyData.strOk c = true) (p4 : PyData.strOk d = true) (k : Q (.bl (wordEq a b c d)) H) : rEqU K u v H Q :=
  .inr ⟨_, _, word_dp s h1, word_dp s h2, word_sh p1 p2, word_sh p3 p4, k⟩
theorem sm_isNS {F H : Hp} {Q : VK} {o : Option Str} {u : V} (h : RD F (eO Dat.str o) u) (k : Q (.bl o.isNone) H) : rIsN u .non H Q := by
  cases o with
  | none => rw [show u = V.non from h]; exact st_isN1 k
  | some x => exact st_isN0 (by rw [show u = V.str x from h]; intro z; cases z) k
theorem sm_notNS {F H : Hp} {Q : VK} {o : Option Str} {u : V} (h : RD F (eO Dat.str o) u) (k : Q (.bl (!o.isNone)) H) : rNotN u .non H Q := by
  cases o with
  | none => rw [show u = V.non from h]; exact st_notN1 k
  | some x => exact st_notN0 (by rw [show u = V.str x from h]; intro z; cases z) k
/-! ### one of three -/
abbrev eE3 {α β γ : Type} (s1 : Str) (e1 : α → Dat) (s2 : Str) (e2 : β → Dat) (s3 : Str) (e3 : γ → Dat) : α ⊕ β ⊕ γ → Dat
  | .inl x => .tup [.str s1, e1 x]
  | .inr (.inl y) => .tup [.str s2, e2 y]
  | .inr (.inr z) => .tup [.str s3, e3 z]
def eE3a {α β γ : Type} : α ⊕ β ⊕ γ → Option α
  | .inl x => some x
  | _ => none
def eE3b {α β γ : Type} : α ⊕ β ⊕ γ → Option β
  | .inr (.inl y) => some y
  | _ => none
def eE3c {α β γ : Type} : α ⊕ β ⊕ γ → Option γ
  | .inr (.inr z) => some z
  | _ => none
section
variable {α β γ : Type} {s1 s2 s3 : Str} {e1 : α → Dat} {e2 : β → Dat} {e3 : γ → Dat} {F : Hp} {t : α ⊕ β ⊕ γ} {v : V}
theorem rd_eE3a {x : α} (h : eE3a t = some x) (r : RD F (eE3 s1 e1 s2 e2 s3 e3 t) v) : RD F (eP Dat.str e1 (s1, x)) v := by
  match t, h with
  | .inl y, h => cases h; exact r
theorem rd_eE3b {x : β} (h : eE3b t = some x) (r : RD F (eE3 s1 e1 s2 e2 s3 e3 t) v) : RD F (eP Dat.str e2 (s2, x)) v := by
  match t, h with
  | .inr (.inl y), h => cases h; exact r
theorem rd_eE3c {x : γ} (h : eE3c t = some x) (r : RD F (eE3 s1 e1 s2 e2 s3 e3 t) v) : RD F (eP Dat.str e3 (s3, x)) v := by
  match t, h with
  | .inr (.inr y), h => cases h; exact r
end
end DK
set_option maxRecDepth 100000
set_option maxHeartbeats 2000000
/-! DK, thirty-eighth part: text times a number; one of three kinds of data. -/
namespace DK
open PySem PySem.Spec PyProof.Rows L2
def rStrMul : R2 := fun x y H Q => ∃ (a : Str) (n : Int), x = .str a ∧ y = .int n ∧ PySem.MulOk a n ∧ Q (.str (PySem.Txt.mul a n)) H
theorem op_strMul {X : Cx} : OpR X (binaryOp .Mult) rStrMul := by
  intro pins s σ H x y v u Q I rx ry h
  obtain ⟨a, n, rfl, rfl, hok, q⟩ := h
  obtain ⟨t, rfl⟩ := rx
  obtain ⟨t2, rfl⟩ := ry
  exact PySem.SB.mul hok fun t' k => ⟨.str (PySem.Txt.mul a n), H, I.tok _, ⟨t', rfl⟩, q⟩
theorem zero30 : PySem.MulOk "0" 30 := by
  unfold PySem.MulOk
  decide +kernel
/-! ### one of three kinds, without a word -/
abbrev eU {α β γ : Type} (e1 : α → Dat) (e2 : β → Dat) (e3 : γ → Dat) : α ⊕ β ⊕ γ → Dat
  | .inl x => e1 x
  | .inr (.inl y) => e2 y
  | .inr (.inr z) => e3 z
def eE30 {α β γ : Type} (s1 s2 s3 : Str) : α ⊕ β ⊕ γ → Str
  | .inl _ => s1
  | .inr (.inl _) => s2
  | .inr (.inr _) => s3
def fldU {α β γ δ : Type} (p1 : α → δ) (p2 : β → δ) : α ⊕ β ⊕ γ → Option δ
  | .inl x => some (p1 x)
  | .inr (.inl y) => some (p2 y)
  | .inr (.inr _) => none
section
variable {α β γ : Type} {K : PySem.W.Frag} {F H : Hp} {Q : VK} {s1 s2 s3 : Str} {e1 : α → Dat} {e2 : β → Dat} {e3 : γ → Dat} {y : α ⊕ β ⊕ γ} {u v : V} {w : Str}
theorem rd_eUa {x : α} (h : eE3a y = some x) (r : RD F (eU e1 e2 e3 y) v) : RD F (e1 x) v := by
  match y, h with
  | .inl _, h => cases h; exact r
theorem rd_eUb {x : β} (h : eE3b y = some x) (r : RD F (eU e1 e2 e3 y) v) : RD F (e2 x) v := by
  match y, h with
  | .inr (.inl _), h => cases h; exact r
theorem rd_eUc {x : γ} (h : eE3c y = some x) (r : RD F (eU e1 e2 e3 y) v) : RD F (e3 x) v := by
  match y, h with
  | .inr (.inr _), h => cases h; exact r
theorem rd_ePUa {x : α} (h : eE3a y = some x) (r : RD F (eP Dat.str (eU e1 e2 e3) (w, y)) v) : RD F (eP Dat.str e1 (w, x)) v := by
  match y, h with
  | .inl _, h => cases h; exact r
theorem rd_ePUb {x : β} (h : eE3b y = some x) (r : RD F (eP Dat.str (eU e1 e2 e3) (w, y)) v) : RD F (eP Dat.str e2 (w, x)) v := by
  match y, h with
  | .inr (.inl _), h => cases h; exact r
theorem rd_ePUc {x : γ} (h : eE3c y = some x) (r : RD F (eP Dat.str (eU e1 e2 e3) (w, y)) v) : RD F (eP Dat.str e3 (w, x)) v := by
  match y, h with
  | .inr (.inr _), h => cases h; exact r
theorem sm_ixE30 (s : Same F H) (h : RD F (eE3 s1 e1 s2 e2 s3 e3 y) v) (k : Q (.str (eE30 s1 s2 s3 y)) H) : rIxU K v (.int 0) H Q := by
  match y, h, k with
  | .inl x, h, k => exact st_ixT (d := .str s1) s h rfl fun u r => by rw [show u = V.str s1 from r]; exact k
  | .inr (.inl x), h, k => exact st_ixT (d := .str s2) s h rfl fun u r => by rw [show u = V.str s2 from r]; exact k
  | .inr (.inr x), h, k => exact st_ixT (d := .str s3) s h rfl fun u r => by rw [show u = V.str s3 from r]; exact k
theorem st_fldU {C1 C2 : Addr} {ns1 ns2 : List Str} {d1 : α → List Dat} {d2 : β → List Dat} {f : Str} {n1 n2 : Nat} {δ : Type} {e : δ → Dat} {p1 : α → δ} {p2 : β → δ} {r : δ}
    (hy : fldU p1 p2 y = some r) (s : Same F H) (h : RD F (eU e1 e2 e3 y) v) (q1 : ∀ x, e1 x = .obj C1 ns1 (d1 x)) (q2 : ∀ x, e2 x = .obj C2 ns2 (d2 x)) (c1 : Cls K C1) (c2 : Cls K C2) (a1 : NoAttr K C1 f) (a2 : NoAttr K C2 f)
    (i1 : ns1.idxOf f = n1) (i2 : ns2.idxOf f = n2) (l1 : n1 < ns1.length) (l2 : n2 < ns2.length) (g1 : ∀ x, (d1 x)[n1]? = some (e (p1 x))) (g2 : ∀ x, (d2 x)[n2]? = some (e (p2 x))) {P : V → Prop} (k : ∀ u, RD F (e r) u → P u) :
    ∃ a C dx fs u, v = .ref a ∧ H a = some (.ins C dx fs) ∧ Cls K C ∧ NoAttr K C f ∧ fs.lookup f = some u ∧ P u := by
  match y, hy, h with
  | .inl x, hy, h =>
    cases hy
    have h' : RD F (.obj C1 ns1 (d1 x)) v := by rw [← q1]; exact h
    exact st_fldD s h' c1 a1 i1 l1 (g1 x) k
  | .inr (.inl x), hy, h =>
    cases hy
    have h' : RD F (.obj C2 ns2 (d2 x)) v := by rw [← q2]; exact h
    exact st_fldD s h' c2 a2 i2 l2 (g2 x) k
end
def wordEqI (a : Str) (n : Int) (c : Str) (m : Int) : Bool := PyData.eqv (.tuple [.str a, .int n]) (.tuple [.str c, .int m])
section
variable {K : PySem.W.Frag} {F H : Hp} {Q : VK} {u v : V} {a c : Str} {n m : Int}
theorem wordI_dp (s : Same F H) (h : RD F (.tup [.str a, .int n]) u) : Dp K H u (.tuple [.str a, .int n]) := by
  have := RD.dp (K := K) s h (by simp only [dep, deps]; omega)
  simpa only [toPy, toPys] using this
theorem wordI_sh (h1 : PyData.strOk a = true) : SeqAt.shaped (.tuple [.str a, .int n]) = true := by
  unfold SeqAt.shaped
  simp [PyData.canLay0, PyData.canLayAll0, h1, PyData.depth, PyData.depthAll]
theorem sm_neWI (s : Same F H) (h1 : RD F (.tup [.str a, .int n]) u) (h2 : RD F (.tup [.str c, .int m]) v) (p1 : PyData.strOk a = true) (p3 : PyData.strOk c = true) (k : Q (.bl (!wordEqI a n c m)) H) : rNeU K u v H Q :=
  .inr ⟨_, _, wordI_dp s h1, wordI_dp s h2, wordI_sh p1, wordI_sh p3, k⟩
theorem wordEqI_iff : wordEqI a n c m = true ↔ a = c ∧ n = m := by
  unfold wordEqI
  simp only [PyData.eqv, PyData.eqvAll, Bool.and_eq_true, Bool.and_true, beq_iff_eq, decide_eq_true_eq]
end
end DK
set_option maxRecDepth 100000
set_option maxHeartbeats 3200000
/-! DK, thirty-ninth part: the number of a set of unlike tuples, up to 256. -/
namespace DK
open PySem PySem.Spec PyProof.Rows L2
/-! ### each slot begins a run early enough -/
def RunsOk (m : Nat) : Prop := ∀ (h : Int) (j : Nat), j ≤ m → ∃ n, n ≤ m + 12 ∧ runI m (SetTable.bits h) n = j
def itN (m : Nat) : Nat → Nat → List Nat
  | 0, _ => []
  | n + 1, c => c :: itN m n ((c * 5 + 1) % (m + 1))
theorem lcgI_shift (m c : Nat) : ∀ k, lcgI m ((c * 5 + 1) % (m + 1)) k = lcgI m c (k + 1)
  | 0 => rfl
  | k + 1 => by
    show (lcgI m ((c * 5 + 1) % (m + 1)) k * 5 + 1) % (m + 1) = (lcgI m c (k + 1) * 5 + 1) % (m + 1)
    rw [lcgI_shift m c k]
theorem itN_mem {m x : Nat} : ∀ {n c : Nat}, x ∈ itN m n c → ∃ k, k < n ∧ lcgI m c k = x
  | 0, _, h => by cases h
  | n + 1, c, h => by
    rcases List.mem_cons.mp h with rfl | h
    · exact ⟨0, by omega, rfl⟩
    · obtain ⟨k, a, b⟩ := itN_mem h
      exact ⟨k + 1, by omega, by rw [← lcgI_shift]; exact b⟩
theorem all511 : ((List.range 512).all fun j => (itN 511 512 0).any fun b => Nat.beq b j) = true := by decide +kernel
theorem round511 : lcgN 511 512 = 0 := by decide +kernel
theorem lcg511 {j : Nat} (hj : j ≤ 511) : ∃ b, b ≤ 511 ∧ lcgN 511 b = j := by
  have h1 := List.all_eq_true.mp all511 j (List.mem_range.mpr (by omega))
  obtain ⟨x, hx, e⟩ := List.any_eq_true.mp h1
  obtain ⟨k, a, b⟩ := itN_mem hx
  have := lcgN_add 511 0 k
  rw [Nat.zero_add] at this
  exact ⟨k, by omega, by rw [← this]; exact b.trans (Nat.eq_of_beq_eq_true e)⟩
theorem mod511 : ∀ k, lcgN 511 (512 + k) = lcgN 511 k
  | 0 => round511
  | k + 1 => by
    show (lcgN 511 (512 + k) * 5 + 1) % 512 = (lcgN 511 k * 5 + 1) % 512
    rw [mod511 k]
theorem lcgI511 {i j : Nat} (hi : i ≤ 511) (hj : j ≤ 511) : ∃ k, k ≤ 511 ∧ lcgI 511 i k = j := by
  obtain ⟨a, ha, ea⟩ := lcg511 hi
  obtain ⟨b, hb, eb⟩ := lcg511 hj
  rw [← ea]
  by_cases c : b < a
  · refine ⟨b + 512 - a, by omega, ?_⟩
    rw [lcgN_add, show a + (b + 512 - a) = 512 + b by omega, mod511, eb]
  · refine ⟨b - a, by omega, ?_⟩
    rw [lcgN_add, show a + (b - a) = b by omega, eb]
theorem runs511 : RunsOk 511 := fun h j hj => by
  obtain ⟨k, hk, e⟩ := lcgI511 (runI_le 511 (SetTable.bits h) 12) hj
  exact ⟨12 + k, by omega, by rw [runI_tail (bits_lt h)]; exact e⟩
def MaskN (m : Nat) : Prop := m = 7 ∨ m = 31 ∨ m = 127 ∨ m = 511
theorem MaskN.runs {m : Nat} (h : MaskN m) : RunsOk m := by
  rcases h with e | e | e | e
  · exact fun h j hj => run_meets (.inl e) h hj
  · exact fun h j hj => run_meets (.inr (.inl e)) h hj
  · exact fun h j hj => run_meets (.inr (.inr e)) h hj
  · subst e; exact runs511
theorem MaskN.odd {m : Nat} (h : MaskN m) : m % 2 = 1 := by
  rcases h with e | e | e | e <;> subst e <;> rfl
/-! ### tables, by their places alone -/
structure TabN (t : SetTable) (n : Nat) : Prop where
  ris : Ris t.place.toList
  dm : t.dummies = #[]
  sz : t.place.size = n
  mok : MaskN t.mask
theorem TabN.first {t : SetTable} {n : Nat} (T : TabN t n) (hl : n ≤ t.mask) (h : Int) : ∃ K, K < 10 * SetTable.turns t.mask ∧ way t.mask h K ∉ t.place.toList ∧ ∀ k, k < K → way t.mask h k ∈ t.place.toList := by
  obtain ⟨j, hj, hn⟩ := st_missing t.place.toList (t.mask + 1) (by rw [Array.length_toList, T.sz]; omega)
  obtain ⟨n', hn', e⟩ := T.mok.runs h j (by omega)
  obtain ⟨k, hk, e2⟩ := run_nth t.mask (SetTable.bits h) n'
  have hw : way t.mask h k = j := by
    show (nth t.mask (runAt t.mask (SetTable.bits h % (t.mask + 1)) (SetTable.bits h)) k).j = j
    rw [e2]; exact e
  obtain ⟨K, h1, h2, h3⟩ := st_least (p := fun k => way t.mask h k ∉ t.place.toList) k (by show way t.mask h k ∉ _; rw [hw]; exact hn)
  refine ⟨K, by unfold SetTable.turns; omega, h2, fun k' hk' => ?_⟩
  rcases Classical.em (way t.mask h k' ∈ t.place.toList) with c | c
  · exact c
  · exact absurd c (h3 k' hk')
theorem TabN.probe {t : SetTable} {n : Nat} (T : TabN t n) (hl : n ≤ t.mask) (hashAt : Nat → Int) (h : Int) (ne : ∀ i, i < n → hashAt i ≠ h) : ∃ j, j ∉ t.place.toList ∧ t.probe hashAt h (t.probeStart h) = some (.empty j none) := by
  obtain ⟨K, hK, h1, h2⟩ := T.first hl h
  refine ⟨way t.mask h K, h1, ?_⟩
  rcases go_spec t T.ris T.dm hashAt h (10 * SetTable.turns t.mask) K (t.probeStart h) rfl hK h2 h1 with ⟨k, i, _, hi, e, _⟩ | ⟨_, e⟩
  · have il := (List.getElem?_eq_some_iff.mp hi).1
    rw [Array.length_toList, T.sz] at il
    exact (ne i il e).elim
  · exact e
theorem TabN.put {t : SetTable} {n : Nat} (T : TabN t n) {j : Nat} (hj : j ∉ t.place.toList) : TabN (t.put j).1 (n + 1) ∧ (t.put j).1.mask = t.mask ∧ (t.put j).1.plain = t.plain ∧ (t.put j).1.fill = n + 1 := by
  obtain ⟨c1, _, _⟩ := below_cut T.ris j
  have hnp : t.place[SetTable.below t.place j]? ≠ some j := fun e => hj (List.mem_of_getElem? (by rw [Array.getElem?_toList]; exact e))
  have hsize : (t.put j).1.place.size = n + 1 := by
    rw [← Array.length_toList, put_place t j, len_ins _ (by rw [Array.length_toList]; exact c1), Array.length_toList, T.sz]
  refine ⟨⟨ris_insert T.ris hnp, put_dm T.dm j, hsize, T.mok⟩, rfl, rfl, ?_⟩
  show (t.put j).1.place.size + (t.put j).1.dummies.size = n + 1
  rw [hsize, put_dm T.dm j] <;> rfl
/-! ### laid anew -/
structure OwnLay (m n : Nat) (owner : Array (Option Nat)) : Prop where
  sz : owner.size = m + 1
  all : ∀ k, k < n → ∃ j, j ≤ m ∧ oAt owner j = some k
  ps : ∃ ps : List Nat, ps.length = n ∧ ∀ j, j ≤ m → oAt owner j ≠ none → j ∈ ps
theorem OwnLay.step {m n : Nat} (hm : RunsOk m) {owner : Array (Option Nat)} (W : OwnLay m n owner) (hl : n ≤ m) (h : Int) :
    ∃ j, SetTable.layClean.free m owner (SetTable.turns m) (SetTable.bits h % (m + 1)) (SetTable.bits h) = some j ∧ OwnLay m (n + 1) (owner.setIfInBounds j (some n)) := by
  obtain ⟨ps, hps, hin⟩ := W.ps
  obtain ⟨j0, h0, hn0⟩ := st_missing ps (m + 1) (by omega)
  have hj0 : oAt owner j0 = none := by
    cases z : oAt owner j0 with
    | none => rfl
    | some k => exact absurd (hin j0 (by omega) (by rw [z]; exact fun e => nomatch e)) hn0
  obtain ⟨n', hn', e⟩ := hm h j0 (by omega)
  have hw : way m h (off m (SetTable.bits h % (m + 1)) (SetTable.bits h) n') = j0 := by
    show (nth m (runAt m (SetTable.bits h % (m + 1)) (SetTable.bits h)) _).j = j0
    rw [nth_off, itL_run]
    exact e
  obtain ⟨K, k1, k2, k3⟩ := st_least (p := fun k => oAt owner (way m h k) = none) (off m (SetTable.bits h % (m + 1)) (SetTable.bits h) n') (by rw [hw]; exact hj0)
  have hjm : way m h K ≤ m := by
    have hi : SetTable.bits h % (m + 1) ≤ m := Nat.le_of_lt_succ (Nat.mod_lt _ (Nat.succ_pos _))
    have r := runEnd_bd hi
    have q := nth_in (m := m) K (runAt m (SetTable.bits h % (m + 1)) (SetTable.bits h)) (by
      show SetTable.bits h % (m + 1) + (SetTable.runEnd m (SetTable.bits h % (m + 1)) - SetTable.bits h % (m + 1)) ≤ m
      omega)
    show (nth m (runAt m (SetTable.bits h % (m + 1)) (SetTable.bits h)) K).j ≤ m
    omega
  have hjs : way m h K < owner.size := by rw [W.sz]; omega
  have hself := oAt_set_self (some n) hjs
  refine ⟨way m h K, free_spec m owner (SetTable.turns m) n' _ _ K (by unfold SetTable.turns; omega) k1 (fun k hk => ?_) (by rw [show oAt owner (nth m (runAt m (SetTable.bits h % (m + 1)) (SetTable.bits h)) K).j = none from k2]; rfl), ?_⟩
  · cases z : oAt owner (nth m (runAt m (SetTable.bits h % (m + 1)) (SetTable.bits h)) k).j with
    | none => exact absurd z (k3 k hk)
    | some _ => rfl
  refine ⟨by rw [Array.size_setIfInBounds]; exact W.sz, fun k hk => ?_, ⟨way m h K :: ps, by rw [List.length_cons, hps], fun j hj e => ?_⟩⟩
  · by_cases c : k < n
    · obtain ⟨j, hj, e⟩ := W.all k c
      exact ⟨j, hj, by rw [oAt_set_ne _ (fun z => by rw [z, k2] at e; cases e)]; exact e⟩
    · have ek : k = n := by omega
      rw [ek]
      exact ⟨way m h K, hjm, hself⟩
  · by_cases c : j = way m h K
    · rw [c]; exact List.mem_cons_self
    · rw [oAt_set_ne _ c] at e
      exact List.mem_cons_of_mem _ (hin j hj e)
theorem foldB {m : Nat} (hm : RunsOk m) : ∀ (rest : List Int) (n : Nat) (owner : Array (Option Nat)), OwnLay m n owner → n + rest.length ≤ m →
    ∃ owner', rest.foldl (stepF m) (some (owner, n)) = some (owner', n + rest.length) ∧ OwnLay m (n + rest.length) owner'
  | [], n, owner, W, _ => ⟨owner, rfl, W⟩
  | h :: rest, n, owner, W, hl => by
    rw [List.length_cons] at hl
    obtain ⟨j, e, W'⟩ := W.step hm (by omega) h
    obtain ⟨owner', f, W2⟩ := foldB hm rest (n + 1) _ W' (by omega)
    rw [List.length_cons, show n + (rest.length + 1) = n + 1 + rest.length by omega]
    exact ⟨owner', by rw [List.foldl_cons, stepF_some e]; exact f, W2⟩
theorem relaidN (t : SetTable) {hs : Array Int} {wanted M : Nat} (hw : SetTable.sizeAbove wanted - 1 = M) (hM : MaskN M) (hn : hs.size ≤ M) :
    ∃ t' order, t.relaid hs wanted = some (t', order) ∧ order.toList.Perm (List.range hs.size) ∧ TabN t' hs.size ∧ t'.mask = M ∧ t'.plain = t.plain := by
  have init : OwnLay M 0 (Array.replicate (M + 1) none) := ⟨by simp, fun k hk => by omega, [], rfl, fun j hj e => absurd (oAt_init hj) e⟩
  obtain ⟨owner, f, W⟩ := foldB hM.runs hs.toList 0 _ init (by rw [Array.length_toList]; omega)
  rw [Nat.zero_add, Array.length_toList] at W
  have e : SetTable.layClean M hs = some owner := by
    rw [layClean_eq, f]; rfl
  have hr : t.relaid hs wanted = some (tabOf t M owner, ((liveOf M owner).map (·.2)).toArray) := by
    rw [relaid_eq, hw, e] <;> rfl
  have ris := ris_live (fun j => owner.getD j none) (List.range (M + 1)) (by
    unfold Ris
    first | exact List.pairwise_lt_range | exact List.pairwise_lt_range _)
  have r1 : Ris ((liveOf M owner).map (·.1)) := ris.1
  have nd : ((liveOf M owner).map (·.1)).Nodup := List.Pairwise.imp (fun h => Nat.ne_of_lt h) r1
  have hlen : (liveOf M owner).length = hs.size := by
    obtain ⟨ps, p1, p2⟩ := W.ps
    have a := nat_nodup_len ((liveOf M owner).map (·.1)) ps nd fun x hx => by
      obtain ⟨⟨y, k⟩, hq, rfl⟩ := List.mem_map.mp hx
      obtain ⟨b1, b2⟩ := (mem_live W.sz).1 hq
      exact p2 y b1 (by rw [b2]; exact fun z => nomatch z)
    have b := nat_nodup_len (List.range hs.size) ((liveOf M owner).map (·.2)) List.nodup_range fun k hk => by
      obtain ⟨j, b1, b2⟩ := W.all k (List.mem_range.mp hk)
      exact List.mem_map.mpr ⟨(j, k), (mem_live W.sz).2 ⟨b1, b2⟩, rfl⟩
    rw [List.length_map, p1] at a
    rw [List.length_map, List.length_range] at b
    omega
  refine ⟨tabOf t M owner, ((liveOf M owner).map (·.2)).toArray, hr, ?_, ⟨r1, rfl, ?_, hM⟩, rfl, rfl⟩
  · refine perm_range hs.size _ ?_ fun k hk => ?_
    · show ((liveOf M owner).map (·.2)).length = hs.size
      rw [List.length_map]; exact hlen
    · obtain ⟨j, b1, b2⟩ := W.all k hk
      exact List.mem_map.mpr ⟨(j, k), (mem_live W.sz).2 ⟨b1, b2⟩, rfl⟩
  · show ((liveOf M owner).map (·.1)).toArray.size = hs.size
    rw [List.size_toArray, List.length_map]; exact hlen
/-! ### the set while it is made: only how many -/
theorem range_get {β : Type} : ∀ l : List β, (List.range l.length).filterMap (fun i => l[i]?) = l
  | [] => rfl
  | a :: l => by
    rw [List.length_cons, List.range_succ_eq_map, List.filterMap_cons]
    show a :: ((List.range l.length).map Nat.succ).filterMap _ = _
    rw [List.filterMap_map]
    exact congrArg (a :: ·) (range_get l)
structure SetN (h : Heap) (a : Addr) (hs : List Int) (es : Array (Int × Value)) (ep : Nat) (t : SetTable) : Prop where
  ob : ∃ o, h.get? a = some o ∧ o.ExactSet ∧ o.data = .set es ep t
  pm : (es.toList.map (·.1)).Perm hs
  tab : TabN t hs.length
  plain : t.plain = true
  room : hs.length * 5 < t.mask * 3
section
variable {P : Program} {w : World} {A : Around} {E : Value → Shared → Prop} {s : Shared} {a : Addr} {hs : List Int} {es : Array (Int × Value)} {ep : Nat} {t : SetTable}
theorem SetN.size {h : Heap} (R : SetN h a hs es ep t) : es.size = hs.length := by
  have := R.pm.length_eq
  rw [List.length_map, Array.length_toList] at this
  exact this
theorem fitsN {n : Nat} (T : TabN t n) (hl : n ≤ t.mask) : t.fits n = true := by
  unfold SetTable.fits SetTable.fill
  rw [T.dm, Bool.and_eq_true, beq_iff_eq, decide_eq_true_eq]
  have := T.sz
  show t.place.size = n ∧ t.place.size + 0 ≤ t.mask
  omega
theorem SetN.fits {h : Heap} (R : SetN h a hs es ep t) : t.fits es.size = true := by
  rw [R.size]
  exact fitsN R.tab (by have := R.room; omega)
theorem searchN (R : SetN s.heap a hs es ep t) {v : Value} {h : Int} (ne : h ∉ hs) {Q : SetFound → Shared → Prop} (hQ : ∀ j, j ∉ t.place.toList → Q (.free j false) s) : wpAny (model P w) A (setSearch a v h true) Q E s := by
  obtain ⟨o, ho, hex, hd⟩ := R.ob
  have hl : hs.length ≤ t.mask := by have := R.room; omega
  obtain ⟨j, hj, e⟩ := R.tab.probe hl (fun i => (es[i]?.map (·.1)).getD 0) h fun i hi z => by
    have il : i < es.size := by rw [R.size]; exact hi
    rw [Array.getElem?_eq_getElem il] at z
    refine ne (R.pm.mem_iff.mp (List.mem_map.mpr ⟨es[i], Array.getElem_mem_toList il, z⟩))
  unfold setSearch
  rw [show (100000 : Nat) = 99999 + 1 from rfl, setSearchFrom_succ]
  refine wpAny_bind (wpAny_setState_of ho hd R.fits ?_)
  dsimp only
  refine wp_if_neg (by
    unfold SetTable.gaveWay
    rw [R.tab.mok.odd]
    decide) ?_
  try refine wpAny_bind (wpAny_pure ?_)
  rw [show (none : Option SetTable.Probe).getD (t.probeStart h) = t.probeStart h from rfl, e]
  dsimp only
  exact wpAny_pure (hQ j hj)
theorem relayN {o : Obj} (ho : s.heap.get? a = some o) (hex : o.ExactSet) (hd : o.data = .set es ep t) (hh : (es.toList.map (·.1)).Perm hs) (T : TabN t hs.length) (hl : hs.length ≤ t.mask) (pl : t.plain = true) {wanted M : Nat}
    (hw : SetTable.sizeAbove wanted - 1 = M) (hM : MaskN M) (hw2 : SetTable.sizeAbove wanted ≤ 512) (hn : hs.length * 5 < M * 3) {Q : Unit → Shared → Prop}
    (hQ : ∀ h' es' ep' t', Heap.SameBut a s.heap h' → SetN h' a hs es' ep' t' → Q () { s with heap := h' }) : wpAny (model P w) A (setRelay a wanted) Q E s := by
  have hsl : es.size = hs.length := by
    have := hh.length_eq
    rw [List.length_map, Array.length_toList] at this
    exact this
  obtain ⟨t', order, e, hp, T', em, ep'⟩ := relaidN t (hs := es.map (·.1)) (wanted := wanted) hw hM (by rw [Array.size_map, hsl]; omega)
  rw [Array.size_map] at hp T'
  have key : ∀ l : List Nat, l.Perm (List.range es.size) → ((l.filterMap (es[·]?)).map (·.1)).Perm (es.toList.map (·.1)) := fun l hl => by
    refine (((hl.filterMap _)).map _).trans ?_
    have : (List.range es.size).filterMap (es[·]?) = es.toList := by
      have e1 : (fun i => es[i]?) = fun i => es.toList[i]? := funext fun i => Array.getElem?_toList.symm
      have e2 := range_get es.toList
      rw [Array.length_toList] at e2
      show (List.range es.size).filterMap (fun i => es[i]?) = es.toList
      rw [e1]; exact e2
    rw [this]
  have k2 := key order.toList hp
  have hes : (order.filterMap (es[·]?)).toList = order.toList.filterMap (es[·]?) := by
    rw [Array.toList_filterMap]
  have hs2 : (order.filterMap (es[·]?)).size = es.size := by
    have := k2.length_eq
    rw [List.length_map, List.length_map, ← hes, Array.length_toList, Array.length_toList] at this
    exact this
  rw [setRelay_eq]
  refine wpAny_bind (wpAny_setState_of ho hd (by rw [hsl]; exact fitsN T hl) ?_)
  dsimp only
  refine wp_if_neg (by rw [sizeLine_eq]; omega) ?_
  try refine wpAny_bind (wpAny_pure ?_)
  rw [e]
  dsimp only
  refine wpAny_bind ?_
  refine wp_if_neg (by rw [hs2]; simp) ?_
  try refine wpAny_bind (wpAny_pure ?_)
  refine wpAny_pure ?_
  dsimp only
  refine wpAny_storeSet_of ho hd ?_ (by rw [hs2, hsl, sizeLine_eq]; have := hM; unfold MaskN at this; omega)
  refine hQ _ (order.filterMap (es[·]?)) (ep + 1) t' (Heap.SameBut.update ..) ⟨⟨_, store_at ho hd, ⟨hex.1, hex.2.1, hex.2.2⟩, rfl⟩, ?_, by rw [← hsl]; exact T', by rw [ep']; exact pl, by rw [em]; exact hn⟩
  rw [hes]
  exact k2.trans hh
theorem addN (R : SetN s.heap a hs es ep t) {x : Addr} {k : List Int} (hx : IsT P w s.heap k x) (ne : thash P w k ∉ hs) (few : hs.length + 1 ≤ 256) {Q : Bool → Shared → Prop}
    (hQ : ∀ h' es' ep' t', Heap.SameBut a s.heap h' → SetN h' a (thash P w k :: hs) es' ep' t' → Q true { s with heap := h' }) :
    wpAny (model P w) A (setAddHashed a (.ref x) (thash P w k)) Q E s := by
  obtain ⟨o, ho, hex, hd⟩ := R.ob
  have hsl := R.size
  have hroom := R.room
  unfold setAddHashed
  refine wpAny_holding ?_
  rw [show (100000 : Nat) = 99999 + 1 from rfl, setAddHashedIn_succ]
  refine wpAny_bind (wpAny_setState_of ho hd R.fits ?_)
  dsimp only
  refine wp_if_neg (by simp [byScan, Value.scannable]) ?_
  try refine wpAny_bind (wpAny_pure ?_)
  refine wpAny_bind (searchN R ne fun j hj => ?_)
  dsimp only
  refine wpAny_bind (wpAny_setState_of ho hd R.fits ?_)
  dsimp only
  obtain ⟨q3, q4, q6, q9⟩ := R.tab.put hj
  have hp1 : (t.put j).1.plain = true := by rw [q6]; exact R.plain
  have hp2 : (t.put j).2 = SetTable.below t.place j := rfl
  generalize hpt : t.put j = pt at q3 q4 q6 q9 hp1 hp2 ⊢
  obtain ⟨t1, p⟩ := pt
  dsimp only at q3 q4 q6 q9 hp1 hp2 ⊢
  first
    | (refine wpAny_bind ?_; refine wp_if_pos hp1 ?_; refine hashBy_tup hx ?_)
    | refine wp_if_pos hp1 (wpAny_bind (hashBy_tup hx ?_))
  simp only [if_true]
  have pm : ((SetTable.insertAt es p (thash P w k, Value.ref x)).toList.map (·.1)).Perm (thash P w k :: hs) := by
    rw [SetTable.toList_insertAt, List.map_append, List.map_cons]
    refine List.perm_middle.trans (List.Perm.cons _ ?_)
    rw [← List.map_append, List.take_append_drop]
    exact R.pm
  have hes : (SetTable.insertAt es p (thash P w k, Value.ref x)).size = hs.length + 1 := by
    have h := pm.length_eq
    rw [List.length_map, Array.length_toList, List.length_cons] at h
    exact h
  generalize SetTable.insertAt es p (thash P w k, Value.ref x) = es1 at pm hes ⊢
  refine wpAny_bind (wpAny_storeSet_of ho hd ?_ (by rw [hes, sizeLine_eq]; omega))
  have sb : Heap.SameBut a s.heap (s.heap.update a (Obj.putSet es1 t1)) := Heap.SameBut.update ..
  have ho1 := store_at (es' := es1) (t' := t1) ho hd
  generalize s.heap.update a (Obj.putSet es1 t1) = h1 at sb ho1 ⊢
  have mk := R.tab.mok
  by_cases hf : t1.tooFull = true
  · first
      | (refine wpAny_bind ?_; refine wp_if_pos (by simp [hf]) ?_)
      | (refine wp_if_pos (by simp [hf]) ?_; refine wpAny_bind ?_)
    have hfull : (hs.length + 1) * 5 ≥ t1.mask * 3 := by
      have h := hf
      unfold SetTable.tooFull at h
      rw [decide_eq_true_eq, q9] at h
      exact h
    rw [q4] at hfull
    rw [hsl]
    have go : ∀ M, SetTable.sizeAbove (SetTable.grown (hs.length + 1)) - 1 = M → MaskN M → SetTable.sizeAbove (SetTable.grown (hs.length + 1)) ≤ 512 → (hs.length + 1) * 5 < M * 3 → hs.length + 1 ≤ t.mask →
        wpAny (model P w) A (setRelay a (SetTable.grown (hs.length + 1))) (fun _ s' => wpAny (model P w) A (pure true) Q E s') E { s with heap := h1 } := fun M h1' h2' h3' h4' h5' => by
      refine relayN (s := { s with heap := h1 }) (hs := thash P w k :: hs) ho1 ⟨hex.1, hex.2.1, hex.2.2⟩ rfl pm (by rw [List.length_cons]; exact q3) (by rw [List.length_cons, q4]; exact h5') hp1 h1' h2' h3' (by rw [List.length_cons]; exact h4') ?_
      intro h2 es2 ep2 t2 sb2 R2
      exact wpAny_pure (hQ h2 es2 ep2 t2 (sb.trans sb2) R2)
    rcases mk with e | e | e | e
    · have n4 : hs.length = 4 := by rw [e] at hfull hroom; omega
      exact go 31 (by rw [n4]; decide +kernel) (.inr (.inl rfl)) (by rw [n4]; decide +kernel) (by omega) (by omega)
    · have n4 : hs.length = 18 := by rw [e] at hfull hroom; omega
      exact go 127 (by rw [n4]; decide +kernel) (.inr (.inr (.inl rfl))) (by rw [n4]; decide +kernel) (by omega) (by omega)
    · have n4 : hs.length = 76 := by rw [e] at hfull hroom; omega
      exact go 511 (by rw [n4]; decide +kernel) (.inr (.inr (.inr rfl))) (by rw [n4]; decide +kernel) (by omega) (by omega)
    · exfalso; rw [e] at hfull; omega
  · first
      | refine wp_if_neg (by simp [hf]) ?_
      | (refine wpAny_bind ?_; refine wp_if_neg (by simp [hf]) ?_; refine wpAny_pure ?_)
    refine wpAny_pure (hQ h1 es1 (ep + 1) t1 sb ⟨⟨_, ho1, ⟨hex.1, hex.2.1, hex.2.2⟩, rfl⟩, pm, by rw [List.length_cons]; exact q3, hp1, ?_⟩)
    have h := hf
    unfold SetTable.tooFull at h
    rw [decide_eq_true_eq, q9] at h
    rw [List.length_cons]
    omega
def hsI (P : Program) (w : World) (ks : List (Addr × List Int)) (i : Nat) : List Int := ((ks.take i).map fun p => thash P w p.2).reverse
theorem hsI_len {ks : List (Addr × List Int)} {i : Nat} (h : i ≤ ks.length) : (hsI P w ks i).length = i := by
  unfold hsI
  rw [List.length_reverse, List.length_map, List.length_take]; omega
theorem hsI_succ {ks : List (Addr × List Int)} {i : Nat} {p : Addr × List Int} (h : ks[i]? = some p) : hsI P w ks (i + 1) = thash P w p.2 :: hsI P w ks i := by
  unfold hsI
  rw [List.take_succ, h]
  simp
theorem hsI_new {ks : List (Addr × List Int)} {i : Nat} {p : Addr × List Int} (nd : (ks.map fun p => thash P w p.2).Nodup) (h : ks[i]? = some p) : thash P w p.2 ∉ hsI P w ks i := by
  unfold hsI
  rw [List.mem_reverse, List.map_take]
  intro q
  obtain ⟨j, hj⟩ := List.getElem?_of_mem q
  have jl : j < i := by
    have := (List.getElem?_eq_some_iff.mp hj).1
    rw [List.length_take] at this
    omega
  rw [List.getElem?_take_of_lt jl] at hj
  have hi : (ks.map fun p => thash P w p.2)[i]? = some (thash P w p.2) := by rw [List.getElem?_map, h]; rfl
  have := (List.getElem?_inj (i := j) (j := i) (List.getElem?_eq_some_iff.mp hj).1 nd).mp (hj.trans hi.symm)
  omega
/-- the loop that takes the items in -/
theorem updateN {I : Addr} {fp wr : List Addr} {G : Array GenState → Array GenState → Prop} {n : Nat} {Pv : Nat → Value → Prop} {St : Nat → Shared → Prop} {R : Result → Shared → Prop}
    (W : WalksS P w A.in1 I fp wr G n Pv St) (S : Addr) (hSf : S ∉ fp) (ks : List (Addr × List Int)) (hn : n = ks.length) (hfew : ks.length ≤ 256) (nd : (ks.map fun p => thash P w p.2).Nodup) (hval : ∀ i v, Pv i v → ∃ p, ks[i]? = some p ∧ v = .ref p.1)
    (h0 : Heap) (hk : ∀ p ∈ ks, IsT P w h0 p.2 p.1) (hS0 : h0.get? S = none) (hw0 : ∀ b ∈ wr, h0.get? b = none) (hu : A.in1.units < cLine) :
    ∀ (k i : Nat) (s : Shared), n - i = k → i ≤ n → St i s → (∀ b o, h0.get? b = some o → s.heap.get? b = some o) → (∃ es ep t, SetN s.heap S (hsI P w ks i) es ep t) →
      (∀ s' es ep t, Moved (S :: wr) G s s' → SetN s'.heap S (hsI P w ks n) es ep t → (∀ b o, h0.get? b = some o → s'.heap.get? b = some o) → R (.ok (.ret .none)) s') →
      codeAny (model P w) A (.builtin "set.update.loop" ⟨[.ref S, .ref I], []⟩) R s := by
  have hSw : S ∉ wr := fun h => hSf (W.sub _ h)
  have hsub : ∀ b ∈ wr, b ∈ S :: wr := fun b hb => List.mem_cons_of_mem _ hb
  have keepM : ∀ {s s' : Shared}, Moved wr G s s' → (∀ b o, h0.get? b = some o → s.heap.get? b = some o) → ∀ b o, h0.get? b = some o → s'.heap.get? b = some o := fun hm hkp b o e =>
    hm.heap b o (fun hb => by rw [hw0 b hb] at e; cases e) (hkp b o e)
  have keepS : ∀ {s s' : Shared} {hs : List Int} {es ep t}, Moved wr G s s' → SetN s.heap S hs es ep t → SetN s'.heap S hs es ep t := fun hm R => by
    obtain ⟨o, ho, r⟩ := R.ob
    exact ⟨⟨o, hm.heap S o hSw ho, r⟩, R.pm, R.tab, R.plain, R.room⟩
  intro k
  induction k with
  | zero =>
    intro i s hk' hi hst hkp ⟨es, ep, t, hS⟩ hR
    have hin : i = n := by omega
    subst hin
    refine codeAny_builtin F.entry_set_update_loop ?_
    rw [Around.under_plainId F.plain_set_update_loop _]
    show wpAny _ A.in1 (pyNext (.ref I) >>= _) _ _ s
    refine wpAny_bind (W.done s _ _ hst fun s' hm => ?_)
    show wpAny _ A.in1 (ret Value.none) _ _ s'
    exact wpAny_pure (hR s' es ep t (hm.mono hsub) (keepS hm hS) (keepM hm hkp))
  | succ k ih =>
    intro i s hk' hi hst hkp ⟨es, ep, t, hS⟩ hR
    have hlt : i < n := by omega
    refine codeAny_builtin F.entry_set_update_loop ?_
    rw [Around.under_plainId F.plain_set_update_loop _]
    show wpAny _ A.in1 (pyNext (.ref I) >>= _) _ _ s
    refine wpAny_bind (W.item i s _ _ hlt hst fun v s' hP hst' hm => ?_)
    obtain ⟨p, hp, rfl⟩ := hval i v hP
    have hkp' := keepM hm hkp
    have hS' := keepS hm hS
    have hx : IsT P w s'.heap p.2 p.1 := isT_keep (hk p (List.mem_of_getElem? hp)) hkp'
    show wpAny _ A.in1 (holding [Value.ref p.1] (setAdd S (.ref p.1)) >>= _) _ _ s'
    refine wpAny_bind (wpAny_holding ?_)
    unfold setAdd
    refine wpAny_holding ?_
    refine wpAny_bind (wpAny_pyHash_tuple hu hx ?_)
    refine addN (s := { s' with toks := s'.toks + (p.2.length + 1) }) hS' hx (hsI_new nd hp) (by rw [hsI_len (by omega)]; omega) fun h' es' ep' t' hsb hS2 => ?_
    rw [← hsI_succ hp] at hS2
    have hkp2 : ∀ b o, h0.get? b = some o → h'.get? b = some o := fun b o e => (hsb.2 b (fun z => by rw [z, hS0] at e; cases e)).trans (hkp' b o e)
    refine wpAny_pure ⟨plainId_quiet F.plain_set_update_loop _, ih (i + 1) _ (by omega) hlt (W.frame _ s' _ _ hst' (Nat.le_add_right _ _) fun b hb o e => ?_) hkp2 ⟨es', ep', t', hS2⟩ fun s'' es2 ep2 t2 hm'' hS'' hkp'' => ?_⟩
    · rw [hsb.2 b (fun h : b = S => hSf (by rw [← h]; exact hb))]; exact e
    · refine hR s'' es2 ep2 t2 (Moved.trans W.gtrans ((hm.mono hsub).then_heap (Nat.le_add_right _ _) fun b o hb e => ?_) hm'') hS'' hkp''
      rw [hsb.2 b (fun h : b = S => hb (by rw [h]; exact List.mem_cons_self))]; exact e
theorem freshN {h : Heap} {a : Addr} {b : Bool} (ho : h.get? a = some { cls := .type "set", dict := none, data := .set #[] 0 (.fresh 0 0 b) }) : SetN h a [] #[] 0 (.fresh 0 0 b) where
  ob := ⟨_, ho, ⟨rfl, rfl, rfl⟩, rfl⟩
  pm := List.Perm.refl _
  tab := ⟨List.Pairwise.nil, rfl, rfl, .inl rfl⟩
  plain := rfl
  room := by show 0 * 5 < 7 * 3; decide
set_option maxRecDepth 100000 in
/-- set(xs), xs a list of tuples of unlike hashes -/
theorem callSetN {l : Addr} {items : Array Value} (ks : List (Addr × List Int)) {Q : Value → Shared → Prop} (hh : A.handled = none) (hl : s.heap.IsList l items) (hit : items.toList = ks.map fun p => Value.ref p.1)
    (hk : ∀ p ∈ ks, IsT P w s.heap p.2 p.1) (hfew : ks.length ≤ 256) (nd : (ks.map fun p => thash P w p.2).Nodup) (hu : A.units + 3 < cLine)
    (h : ∀ (h' : Heap) (tk : Nat) hs es ep t, SetN h' s.heap.objs.size hs es ep t → hs.length = ks.length → (∀ b o, s.heap.get? b = some o → h'.get? b = some o) → Q (.ref s.heap.objs.size) { s with heap := h', toks := tk }) :
    wpAny (model P w) A (call (.type "set") [.ref l]) Q E s := by
  have hisz : items.size = ks.length := by
    have q := congrArg List.length hit
    rw [Array.length_toList, List.length_map] at q
    exact q
  obtain ⟨c, tl, hmro⟩ := F.called_set.mro
  have hmade := F.called_set.made
  have hsub := F.called_set.sub
  refine wpAny_call (codeAny_of_tree ?_)
  show wpAny _ _ (callAny (.type "set") _) _ _ _
  refine wpAny_pure ⟨Code.quiet_builtin _ (by decide +kernel), codeAny_builtin F.entry_type_call ?_⟩
  rw [Around.under_plain (weight_type_call_type "set" [.ref l] []) rfl]
  have h1 := F.called_set.notType
  have h2 := F.called_set.canCreate
  have hct := F.typeCall_set_1 (.ref l)
  repeat (any_goals (first | assumption | wp_step))
  refine codeAny_mono (code_set_led1 (.ref l) (E := E) (Q₁ := fun obj s₁ => obj = .ref s.heap.objs.size ∧ s₁ = { s with heap := s.heap.push { cls := .type "set", dict := none, data := .set #[] 0 (.fresh 0 0 (!w.params.followText "set-order")) } }) ⟨rfl, rfl⟩) fun r s₁ hr => ?_
  cases r with
  | error e => exact hr
  | ok fl =>
    cases fl with
    | ret obj =>
      obtain ⟨rfl, rfl⟩ := hr
      have hS : (s.heap.push { cls := .type "set", dict := none, data := .set #[] 0 (.fresh 0 0 (!w.params.followText "set-order")) }).get? s.heap.objs.size = some { cls := .type "set", dict := none, data := .set #[] 0 (.fresh 0 0 (!w.params.followText "set-order")) } := Heap.get?_push_size _ rfl
      have hT : Shared.TypeIs { s with heap := s.heap.push { cls := .type "set", dict := none, data := .set #[] 0 (.fresh 0 0 (!w.params.followText "set-order")) } } (.ref s.heap.objs.size) "set" := ⟨_, hS, rfl⟩
      have hli := F.called_set.init.lookup
      have hbi := F.called_set.init.bind (.ref s.heap.objs.size)
      repeat (any_goals (first | assumption | wp_step))
      refine codeAny_mono (codeAny_call_builtin (R := wants (fun r s₂ => r = .none ∧ ∃ h' tk hs es ep t, s₂ = { s with heap := h', toks := tk } ∧ SetN h' s.heap.objs.size hs es ep t ∧ hs.length = ks.length ∧
          (∀ b o, s.heap.get? b = some o → h'.get? b = some o)) E) F.called_set.init.plain F.entry_set_init (check_set_init_1 hT ?_)) fun r₂ s₂ hr₂ => ?_
      · obtain ⟨ol, hol, hcl, nl, hdl⟩ := hl
        obtain ⟨ocls, odict, odata, oslots⟩ := ol
        simp only at hcl hdl
        subst hcl; subst hdl
        have hol' : (s.heap.push { cls := .type "set", dict := none, data := .set #[] 0 (.fresh 0 0 (!w.params.followText "set-order")) }).get? l = some { cls := .type "list", dict := odict, data := .seq items nl, slots := oslots } := Heap.get?_push_of_some _ hol
        have hsls := F.sub_list_set
        have hslf := F.sub_list_frozenset
        have hne : (Value.type "list" == Value.type "dict") = false := by decide
        have hl1 : (s.heap.push { cls := .type "set", dict := none, data := .set #[] 0 (.fresh 0 0 (!w.params.followText "set-order")) }).IsList l items := ⟨_, hol', rfl, nl, rfl⟩
        unfold Builtin.«set.__init__» noKeywords Builtin.Frozenset.updateFrom
        generalize hPI : pyIter = PI
        wp_walk
        subst hPI
        refine wpAny_pyIter_list hl1 ?_
        refine wpAny_bind (wpAny_runValue ?_)
        have hlS : l < s.heap.objs.size := Heap.lt_size hol
        have hh3 : A.in1.in1.in1.handled = none := by simp [hh]
        have hneI : l ≠ (s.heap.push { cls := .type "set", dict := none, data := .set #[] 0 (.fresh 0 0 (!w.params.followText "set-order")) }).objs.size := by
          rw [Heap.size_push]; exact Nat.ne_of_lt (Nat.lt_succ_of_lt hlS)
        have hSf : s.heap.objs.size ∉ [(s.heap.push { cls := .type "set", dict := none, data := .set #[] 0 (.fresh 0 0 (!w.params.followText "set-order")) }).objs.size, l] := by
          rw [Heap.size_push]; simp only [List.mem_cons, List.mem_singleton, List.not_mem_nil, or_false, not_or]
          exact ⟨Nat.ne_of_lt (Nat.lt_succ_self _), Nat.ne_of_gt hlS⟩
        have hval : ∀ (i : Nat) (v : Value), items[i]? = some v → ∃ p, ks[i]? = some p ∧ v = .ref p.1 := fun i v hv => by
          have q : items.toList[i]? = some v := by rw [Array.getElem?_toList]; exact hv
          rw [hit, List.getElem?_map] at q
          obtain ⟨p, hp, e⟩ := Option.map_eq_some_iff.mp q
          exact ⟨p, hp, e.symm⟩
        have none_of : ∀ b, s.heap.objs.size ≤ b → s.heap.get? b = none := fun b hb => by
          cases q : s.heap.get? b with
          | none => rfl
          | some o => exact absurd (Nat.lt_of_lt_of_le (Heap.lt_size q) hb) (Nat.lt_irrefl _)
        refine updateN ((Walks.list hh3 _ l hneI items).toS) s.heap.objs.size
          hSf ks hisz hfew nd hval s.heap hk (none_of _ (Nat.le_refl _)) (fun b hb => none_of b (by
            rw [List.mem_singleton.mp hb, Heap.size_push]
            exact Nat.le_succ _)) hu (items.size - 0) 0 _ (by omega) (Nat.zero_le _)
          ⟨⟨_, Heap.get?_push_size _ rfl, rfl, rfl⟩, (hl1.push _)⟩ (fun b o e => Heap.get?_push_of_some _ (Heap.get?_push_of_some _ e)) ?hS0 ?hR
        case hS0 =>
          exact ⟨#[], 0, _, freshN (Heap.get?_push_of_some _ hS)⟩
        case hR =>
          intro s' es ep t hm hS' hkp
          obtain ⟨h', g2, d', tk', os'⟩ := s'
          have eg : g2 = s.gens := hm.gens
          have ed : d' = s.drawn := hm.drawn
          have eo : os' = s.os := hm.os
          subst eg; subst ed; subst eo
          show wpAny _ _ _ _ _ _
          refine wpAny_pure ?_
          show wpAny _ _ (ret Value.none) _ _ _
          exact wpAny_pure ⟨rfl, h', tk', _, es, ep, t, rfl, hS', by rw [hisz]; exact hsI_len (Nat.le_refl _), hkp⟩
      · cases r₂ with
        | error e => exact hr₂
        | ok fl₂ =>
          cases fl₂ with
          | ret r =>
            obtain ⟨rfl, h', tk, hs, es, ep, t, rfl, hS', g', hk'⟩ := hr₂
            repeat (any_goals (first | assumption | wp_step))
            exact h _ _ _ _ _ _ hS' g' hk'
          | _ => exact hr₂.elim
    | _ => exact hr.elim
end
/-! ### len(set(xs)) -/
section
variable {X : Cx}
def tLenSetT (K : PySem.W.Frag) (ta : TE) : TE := fun σ H Q => ta σ H fun x H1 => ∃ (l : Addr) (ks : List (Addr × List Int)), x = V.ref l ∧ SqL K H1 l (ks.map fun p => V.ref p.1) ∧ (∀ p ∈ ks, SqT K H1 p.1 (p.2.map V.int)) ∧ ks.length ≤ 256 ∧ (∀ (P : Program) (w : World), (ks.map fun p => thash P w p.2).Nodup) ∧ Q (.int ks.length) H1
theorem pe_lenSetT {a : Expr} {ta : TE} {p p2 q pos : Pos} (hc : X.calm = true) (hu : X.A.units + 64 < cLine) (hg : Gl X "len") (hm : X.mg "len" = none) (hg2 : Gl X "set") (hm2 : X.mg "set" = none) (ha : PE X a ta)
    (na : starEach [a] X.env = (false, eval a X.env) :: starEach [] X.env := by rfl) : PE X (.Call (.Name "len" p) [.Call (.Name "set" p2) [a] [] q] [] pos) (tLenSetT X.K ta) := by
  refine ⟨fun pins s σ H Q I h => ?_⟩
  refine Call_ (ld_blt I hg hm PySem.boot_len ?_)
  refine PyProof.Rows.callWith_builtin1 (PyProof.Rows.args_cons ?_ rfl) rfl rfl
  refine Call_ (ld_blt I hg2 hm2 PyProof.Rows.boot_set ?_)
  refine PyProof.Rows.callWith_type1 (PyProof.Rows.args_cons (thn (ha.run pins s σ H _ I h) fun v s1 ⟨x, H1, I1, r1, q1⟩ => PyProof.Rows.args_nil ?_) na) na rfl
  obtain ⟨l, ks, rfl, hq, hk, hf, nd, q1⟩ := q1
  cases r1
  obtain ⟨its, rv, pl, hz⟩ := I1.list hq
  refine callSetN (P := X.prog) (w := X.w) ks (I1.ok.hd hc) pl.isList (by simpa using refs_of_vals rv) (fun p hp => I1.isT (hk p hp)) hf (nd _ _) (by omega) fun h' tk hs es ep t R hn hk' => ?_
  refine PyProof.Rows.args_nil ?_
  obtain ⟨o, ho, hex, hd⟩ := R.ob
  have I2 : Inv X pins σ H1 { s1 with heap := h', toks := tk } := I1.kept fun b o e => hk' b o e
  have sz := R.size
  refine call_len_set ho hex hd R.fits (by rw [sz, hn]; omega) ⟨.int ks.length, H1, I2.tok _, ⟨_, by rw [sz, hn]⟩, q1⟩
end
/-! ### its step -/
def hash2 (x y : Int) : Int := reduceHash (Builtin.Tuple.tupleHashOf [hashInt x, hashInt y])
theorem intHash (P : Program) (w : World) (x : Int) : (intKind P w).hash x = hashInt x := rfl
theorem thash2 (P : Program) (w : World) (x y : Int) : thash P w [x, y] = hash2 x y := by
  unfold thash tupleKeyHash hash2
  rw [List.map_cons, List.map_cons, List.map_nil, intHash, intHash]
def nodupB : List Int → Bool
  | [] => true
  | x :: l => !(l.any fun y => decide (y = x)) && nodupB l
theorem nodupB_of : ∀ {l : List Int}, nodupB l = true → l.Nodup
  | [], _ => List.nodup_nil
  | x :: l, h => by
    unfold nodupB at h
    rw [Bool.and_eq_true] at h
    refine List.nodup_cons.mpr ⟨fun z => ?_, nodupB_of h.2⟩
    have : (l.any fun y => decide (y = x)) = true := List.any_eq_true.mpr ⟨x, z, decide_eq_true rfl⟩
    rw [this] at h
    exact absurd h.1 (by decide)
def okSet (zs : List (Int × Int)) : Bool := decide (zs.length ≤ 256) && nodupB (zs.map fun z => hash2 z.1 z.2)
def rLenSetT (K : PySem.W.Frag) : V → Hp → VK → Prop := fun x H1 Q => ∃ (l : Addr) (ks : List (Addr × List Int)), x = V.ref l ∧ SqL K H1 l (ks.map fun p => V.ref p.1) ∧ (∀ p ∈ ks, SqT K H1 p.1 (p.2.map V.int)) ∧ ks.length ≤ 256 ∧ (∀ (P : Program) (w : World), (ks.map fun p => thash P w p.2).Nodup) ∧ Q (.int ks.length) H1
section
variable {K : PySem.W.Frag} {F H : Hp} {σ : Sg} {Q : VK} {v : V} {zs : List (Int × Int)}
theorem st_lenSet {ta : TE} (h : ta σ H fun x H1 => rLenSetT K x H1 Q) : tLenSetT K ta σ H Q := h
theorem pairs_of (s : Same F H) : ∀ {zs : List (Int × Int)} {vs : List V}, RDs F (zs.map (eP Dat.int Dat.int)) vs → ∃ ks : List (Addr × List Int), vs = (ks.map fun p => V.ref p.1) ∧ (∀ p ∈ ks, SqT K H p.1 (p.2.map V.int)) ∧ ks.map (·.2) = zs.map fun z => [z.1, z.2]
  | [], vs, h => ⟨[], h, fun p hp => (by cases hp), rfl⟩
  | z :: zs, vs, h => by
    obtain ⟨u, r, rfl, h1, h2⟩ := h
    obtain ⟨ks, rfl, k1, k2⟩ := pairs_of s h2
    obtain ⟨a, us, rfl, g1, x, r1, rfl, g2, y, r2, rfl, g3, g4⟩ := h1
    obtain rfl : x = V.int z.1 := g2
    obtain rfl : y = V.int z.2 := g3
    obtain rfl : r2 = [] := g4
    refine ⟨(a, [z.1, z.2]) :: ks, rfl, fun p hp => ?_, by rw [List.map_cons, List.map_cons, k2]⟩
    rcases List.mem_cons.mp hp with rfl | hp
    · exact SqT.of (s a _ g1)
    · exact k1 p hp
theorem hash_map {f : List Int → Int} {g : Int → Int → Int} (fg : ∀ x y, f [x, y] = g x y) : ∀ (ks : List (Addr × List Int)) (zs : List (Int × Int)), ks.map (·.2) = zs.map (fun z => [z.1, z.2]) → ks.map (fun p => f p.2) = zs.map fun z => g z.1 z.2
  | [], [], _ => rfl
  | [], z :: zs, h => by cases h
  | p :: ks, [], h => by cases h
  | p :: ks, z :: zs, h => by
    rw [List.map_cons, List.map_cons] at h
    obtain ⟨h1, h2⟩ := List.cons.inj h
    rw [List.map_cons, List.map_cons, hash_map fg ks zs h2, h1, fg]
theorem sm_lenSet (s : Same F H) (h : RD F (eL (eP Dat.int Dat.int) zs) v) (g : okSet zs = true) (k : Q (.int zs.length) H) : rLenSetT K v H Q := by
  obtain ⟨a, vs, rfl, h1, h2⟩ := h
  obtain ⟨ks, rfl, k1, k2⟩ := pairs_of (K := K) s h2
  unfold okSet at g
  rw [Bool.and_eq_true, decide_eq_true_eq] at g
  have hl : ks.length = zs.length := by
    have := congrArg List.length k2
    rw [List.length_map, List.length_map] at this
    exact this
  exact ⟨a, ks, rfl, same_l s h1, k1, by omega, fun P w => by rw [hash_map (thash2 P w) ks zs k2]; exact nodupB_of g.2, by rw [hl]; exact k⟩
end
end DK
namespace Dot
open PySem PySem.Spec PyProof.Rows L2 DK
abbrev topS (i : Nat) : Stmt := PySem.Challenge.pw_dotscreen_k21_folded.main.body.getD i (.Pass ⟨0, 0, 0, 0⟩)
abbrev s_wall : Stmt := topS 0
abbrev n_wall : List Str := (["k"] : List Str)
theorem sc_wall : FnScope n_wall (["k"] : List Str) (defScope s_wall) := ⟨rfl, rfl, rfl, by decide +kernel, rfl, by decide +kernel, by decide +kernel⟩
abbrev d_wall : He.DefD := ⟨("_wall", none), "_wall", "_wall", defArgs s_wall, defBody s_wall, defScope s_wall, [], []⟩
abbrev s_ask_size : Stmt := topS 5
abbrev n_ask_size : List Str := (["rows", "columns"] : List Str)
theorem sc_ask_size : FnScope n_ask_size (["rows", "columns"] : List Str) (defScope s_ask_size) := ⟨rfl, rfl, rfl, by decide +kernel, rfl, by decide +kernel, by decide +kernel⟩
abbrev d_ask_size : He.DefD := ⟨("ask_size", none), "ask_size", "ask_size", defArgs s_ask_size, defBody s_ask_size, defScope s_ask_size, [], []⟩
abbrev s_Way_word : Stmt := inClass (topS 6) 0
abbrev n_Way_word : List Str := (["self"] : List Str)
theorem sc_Way_word : FnScope n_Way_word (["self"] : List Str) (defScope s_Way_word) := ⟨rfl, rfl, rfl, by decide +kernel, rfl, by decide +kernel, by decide +kernel⟩
abbrev d_Way_word : He.DefD := ⟨("Way", some "word"), "word", "Way.word", defArgs s_Way_word, defBody s_Way_word, defScope s_Way_word, [], []⟩
abbrev s_Way_order : Stmt := inClass (topS 6) 1
abbrev n_Way_order : List Str := (["self", "rows", "columns", "place"] : List Str)
theorem sc_Way_order : FnScope n_Way_order (["self", "rows", "columns"] : List Str) (defScope s_Way_order) := ⟨rfl, rfl, rfl, by decide +kernel, rfl, by decide +kernel, by decide +kernel⟩
abbrev d_Way_order : He.DefD := ⟨("Way", some "order"), "order", "Way.order", defArgs s_Way_order, defBody s_Way_order, defScope s_Way_order, [], []⟩
abbrev s_folded_cells : Stmt := topS 7
abbrev n_folded_cells : List Str := (["side", "m", "lesser", "cells", "r", "c"] : List Str)
theorem sc_folded_cells : FnScope n_folded_cells (["side"] : List Str) (defScope s_folded_cells) := ⟨rfl, rfl, rfl, by decide +kernel, rfl, by decide +kernel, by decide +kernel⟩
abbrev d_folded_cells : He.DefD := ⟨("folded_cells", none), "folded_cells", "folded_cells", defArgs s_folded_cells, defBody s_folded_cells, defScope s_folded_cells, [], []⟩
abbrev s_FoldedWay_word : Stmt := inClass (topS 8) 0
abbrev n_FoldedWay_word : List Str := (["self"] : List Str)
theorem sc_FoldedWay_word : FnScope n_FoldedWay_word (["self"] : List Str) (defScope s_FoldedWay_word) := ⟨rfl, rfl, rfl, by decide +kernel, rfl, by decide +kernel, by decide +kernel⟩
abbrev d_FoldedWay_word : He.DefD := ⟨("FoldedWay", some "word"), "word", "FoldedWay.word", defArgs s_FoldedWay_word, defBody s_FoldedWay_word, defScope s_FoldedWay_word, [], []⟩
abbrev s_FoldedWay_order : Stmt := inClass (topS 8) 1
abbrev n_FoldedWay_order : List Str := (["self", "rows", "columns", "side", "r", "c"] : List Str)
theorem sc_FoldedWay_order : FnScope n_FoldedWay_order (["self", "rows", "columns"] : List Str) (defScope s_FoldedWay_order) := ⟨rfl, rfl, rfl, by decide +kernel, rfl, by decide +kernel, by decide +kernel⟩
abbrev d_FoldedWay_order : He.DefD := ⟨("FoldedWay", some "order"), "order", "FoldedWay.order", defArgs s_FoldedWay_order, defBody s_FoldedWay_order, defScope s_FoldedWay_order, [], []⟩
abbrev s_law_next : Stmt := topS 10
abbrev n_law_next : List Str := (["_law_script", "_law_at", "_law_cell", "_law_m"] : List Str)
theorem sc_law_next : FnScope n_law_next (["_law_script", "_law_at"] : List Str) (defScope s_law_next) := ⟨rfl, rfl, rfl, by decide +kernel, rfl, by decide +kernel, by decide +kernel⟩
abbrev d_law_next : He.DefD := ⟨("_law_next", none), "_law_next", "_law_next", defArgs s_law_next, defBody s_law_next, defScope s_law_next, [], []⟩
abbrev s_law_same : Stmt := topS 11
abbrev n_law_same : List Str := (["_law_found", "_law_due", "_law_name", "_law_one", "_law_other"] : List Str)
theorem sc_law_same : FnScope n_law_same (["_law_found", "_law_due"] : List Str) (defScope s_law_same) := ⟨rfl, rfl, rfl, by decide +kernel, rfl, by decide +kernel, by decide +kernel⟩
abbrev d_law_same : He.DefD := ⟨("_law_same", none), "_law_same", "_law_same", defArgs s_law_same, defBody s_law_same, defScope s_law_same, [], []⟩
abbrev s_law_curve : Stmt := topS 12
abbrev n_law_curve : List Str := (["_law_side", "_law_place", "_law_r", "_law_c", "_law_half", "_law_part"] : List Str)
theorem sc_law_curve : FnScope n_law_curve (["_law_side", "_law_place"] : List Str) (defScope s_law_curve) := ⟨rfl, rfl, rfl, by decide +kernel, rfl, by decide +kernel, by decide +kernel⟩
abbrev d_law_curve : He.DefD := ⟨("_law_curve", none), "_law_curve", "_law_curve", defArgs s_law_curve, defBody s_law_curve, defScope s_law_curve, [], []⟩
abbrev s_law_walks : Stmt := topS 13
abbrev n_law_walks : List Str := (["_law_cells", "_law_side", "_law_k", "_law_one", "_law_other"] : List Str)
theorem sc_law_walks : FnScope n_law_walks (["_law_cells", "_law_side"] : List Str) (defScope s_law_walks) := ⟨rfl, rfl, rfl, by decide +kernel, rfl, by decide +kernel, by decide +kernel⟩
abbrev d_law_walks : He.DefD := ⟨("_law_walks", none), "_law_walks", "_law_walks", defArgs s_law_walks, defBody s_law_walks, defScope s_law_walks, [], []⟩
abbrev s_law : Stmt := topS 14
abbrev n_law : List Str := (["_law_script", "_law_at", "_law_fold", "_law_k", "_law_cell", "_law_m", "_law_side", "_law_told", "_law_due", "_law_most", "_law_rows", "_law_columns", "_law_least", "_law_order", "_law_curve_here", "_law_place", "_law_pair"] : List Str)
theorem sc_law : FnScope n_law (["_law_script"] : List Str) (defScope s_law) := ⟨rfl, rfl, rfl, by decide +kernel, rfl, by decide +kernel, by decide +kernel⟩
abbrev d_law : He.DefD := ⟨("law", none), "law", "law", defArgs s_law, defBody s_law, defScope s_law, [], []⟩
def fns : List He.DefD := [d_wall, d_ask_size, d_Way_word, d_Way_order, d_folded_cells, d_FoldedWay_word, d_FoldedWay_order, d_law_next, d_law_same, d_law_curve, d_law_walks, d_law]
def fas : List He.Fa := [.exc "OutOfPicture", .glo "OutOfPicture", .free "range", .free "len", .free "dict", .free "isinstance", .free "all", .free "list", .free "tuple", .free "zip", .free "str", .free "int", .free "bool", .free "abs", .free "set", .glo "FoldedWay", .free "enumerate", .glo "_wall", .glo "ask_size", .glo "folded_cells", .glo "_law_next", .glo "_law_same", .glo "_law_curve", .glo "_law_walks", .glo "law", .glo "DotError", .exc "DotError", .glo "Way", .cls "Way", .meth "Way" "word", .meth "Way" "order", .cls "FoldedWay", .meth "FoldedWay" "word", .meth "FoldedWay" "order"]
def fbs : List Fb := [.isb "DotError" "bool" false, .isb "DotError" "dict" false, .isb "DotError" "int" false, .isb "DotError" "list" false, .isb "DotError" "str" false, .isb "DotError" "tuple" false, .isb "OutOfPicture" "bool" false, .isb "OutOfPicture" "dict" false, .isb "OutOfPicture" "int" false, .isb "OutOfPicture" "list" false, .isb "OutOfPicture" "str" false, .isb "OutOfPicture" "tuple" false, .ins "Way", .mko "Way", .isb "Way" "bool" false, .isb "Way" "dict" false, .isb "Way" "int" false, .isb "Way" "list" false, .isb "Way" "str" false, .isb "Way" "tuple" false, .ins "FoldedWay", .mko "FoldedWay", .isb "FoldedWay" "bool" false, .isb "FoldedWay" "dict" false, .isb "FoldedWay" "int" false, .isb "FoldedWay" "list" false, .isb "FoldedWay" "str" false, .isb "FoldedWay" "tuple" false]
abbrev TX (K : PySem.W.Frag) (mg : Str → Option Value) : Prop := FactsB fas fbs fns K mg
section
variable {K : PySem.W.Frag} {mg : Str → Option Value}
theorem tx_glo_OutOfPicture (T : TX K mg) : mg "OutOfPicture" = some (.ref (He.ga K "OutOfPicture")) := T.glo 1
theorem tx_glo_FoldedWay (T : TX K mg) : mg "FoldedWay" = some (.ref (He.ga K "FoldedWay")) := T.glo 15
theorem tx_glo_DotError (T : TX K mg) : mg "DotError" = some (.ref (He.ga K "DotError")) := T.glo 25
theorem tx_glo_Way (T : TX K mg) : mg "Way" = some (.ref (He.ga K "Way")) := T.glo 27
theorem tx_cls_Way (T : TX K mg) : Cls K (He.ga K "Way") := T.cls 28
theorem tx_cls_FoldedWay (T : TX K mg) : Cls K (He.ga K "FoldedWay") := T.cls 31
theorem tx_isb_DotError_bool (T : TX K mg) : PySem.W.kitOne K (.ref (He.ga K "DotError")) (.type "bool") = some false := T.isb 0
theorem tx_isb_DotError_dict (T : TX K mg) : PySem.W.kitOne K (.ref (He.ga K "DotError")) (.type "dict") = some false := T.isb 1
theorem tx_isb_DotError_int (T : TX K mg) : PySem.W.kitOne K (.ref (He.ga K "DotError")) (.type "int") = some false := T.isb 2
theorem tx_isb_DotError_list (T : TX K mg) : PySem.W.kitOne K (.ref (He.ga K "DotError")) (.type "list") = some false := T.isb 3
theorem tx_isb_DotError_str (T : TX K mg) : PySem.W.kitOne K (.ref (He.ga K "DotError")) (.type "str") = some false := T.isb 4
theorem tx_isb_DotError_tuple (T : TX K mg) : PySem.W.kitOne K (.ref (He.ga K "DotError")) (.type "tuple") = some false := T.isb 5
theorem tx_isb_OutOfPicture_bool (T : TX K mg) : PySem.W.kitOne K (.ref (He.ga K "OutOfPicture")) (.type "bool") = some false := T.isb 6
theorem tx_isb_OutOfPicture_dict (T : TX K mg) : PySem.W.kitOne K (.ref (He.ga K "OutOfPicture")) (.type "dict") = some false := T.isb 7
theorem tx_isb_OutOfPicture_int (T : TX K mg) : PySem.W.kitOne K (.ref (He.ga K "OutOfPicture")) (.type "int") = some false := T.isb 8
theorem tx_isb_OutOfPicture_list (T : TX K mg) : PySem.W.kitOne K (.ref (He.ga K "OutOfPicture")) (.type "list") = some false := T.isb 9
theorem tx_isb_OutOfPicture_str (T : TX K mg) : PySem.W.kitOne K (.ref (He.ga K "OutOfPicture")) (.type "str") = some false := T.isb 10
theorem tx_isb_OutOfPicture_tuple (T : TX K mg) : PySem.W.kitOne K (.ref (He.ga K "OutOfPicture")) (.type "tuple") = some false := T.isb 11
theorem tx_ins_Way (T : TX K mg) : InsC K (He.ga K "Way") := T.ins 12
theorem tx_isb_Way_bool (T : TX K mg) : PySem.W.kitOne K (.ref (He.ga K "Way")) (.type "bool") = some false := T.isb 14
theorem tx_isb_Way_dict (T : TX K mg) : PySem.W.kitOne K (.ref (He.ga K "Way")) (.type "dict") = some false := T.isb 15
theorem tx_isb_Way_int (T : TX K mg) : PySem.W.kitOne K (.ref (He.ga K "Way")) (.type "int") = some false := T.isb 16
theorem tx_isb_Way_list (T : TX K mg) : PySem.W.kitOne K (.ref (He.ga K "Way")) (.type "list") = some false := T.isb 17
theorem tx_isb_Way_str (T : TX K mg) : PySem.W.kitOne K (.ref (He.ga K "Way")) (.type "str") = some false := T.isb 18
theorem tx_isb_Way_tuple (T : TX K mg) : PySem.W.kitOne K (.ref (He.ga K "Way")) (.type "tuple") = some false := T.isb 19
theorem tx_ins_FoldedWay (T : TX K mg) : InsC K (He.ga K "FoldedWay") := T.ins 20
theorem tx_isb_FoldedWay_bool (T : TX K mg) : PySem.W.kitOne K (.ref (He.ga K "FoldedWay")) (.type "bool") = some false := T.isb 22
theorem tx_isb_FoldedWay_dict (T : TX K mg) : PySem.W.kitOne K (.ref (He.ga K "FoldedWay")) (.type "dict") = some false := T.isb 23
theorem tx_isb_FoldedWay_int (T : TX K mg) : PySem.W.kitOne K (.ref (He.ga K "FoldedWay")) (.type "int") = some false := T.isb 24
theorem tx_isb_FoldedWay_list (T : TX K mg) : PySem.W.kitOne K (.ref (He.ga K "FoldedWay")) (.type "list") = some false := T.isb 25
theorem tx_isb_FoldedWay_str (T : TX K mg) : PySem.W.kitOne K (.ref (He.ga K "FoldedWay")) (.type "str") = some false := T.isb 26
theorem tx_isb_FoldedWay_tuple (T : TX K mg) : PySem.W.kitOne K (.ref (He.ga K "FoldedWay")) (.type "tuple") = some false := T.isb 27
end
inductive WayD where
  | rows
  | fold
def e_way (K : PySem.W.Frag) : WayD → Dat
  | .rows => .obj (He.ga K "Way") [] []
  | .fold => .obj (He.ga K "FoldedWay") [] []
theorem nle_way {K : PySem.W.Frag} : NlE (e_way K) := fun w => by
  induction w with
  | rows => simp only [e_way, noL, noLs]
  | fold => simp only [e_way, noL, noLs]
section
variable {K : PySem.W.Frag} {mg : Str → Option Value}
theorem tx_mko_Way (T : TX K mg) : MkP K (He.ga K "Way") := T.mko 13 12
theorem tx_mko_FoldedWay (T : TX K mg) : MkP K (He.ga K "FoldedWay") := T.mko 21 20
end
abbrev fs_Way : List Str := ([] : List Str)
abbrev e_Way (K : PySem.W.Frag) (t : Unit) : Dat := .obj (He.ga K "Way") fs_Way []
abbrev fs_FoldedWay : List Str := ([] : List Str)
abbrev e_FoldedWay (K : PySem.W.Frag) (t : Unit) : Dat := .obj (He.ga K "FoldedWay") fs_FoldedWay []
abbrev RR : PySem.W.OpenRow := PySem.W.OpenLaw.row PySem.Challenge.rw_dotscreen_k21_folded
abbrev hk : PySem.W.Hook := hookF 5 fas fbs fns
def ob (s : PySem.W.SharedT) : He.AlD := obsFG 5 fas fbs fns (HandSHeadRun.getT s)
theorem ob_eq (s : PySem.W.SharedT) : ob s = hk.obs s.abs := obsFG_eq (HandSHeadRun.getT_eq s)
def loose : List PySem.Str := (["_wall", "DotError", "OutOfPicture", "ask_size", "Way", "folded_cells", "FoldedWay", "_law_next", "_law_same", "_law_curve", "_law_walks"] : List Str)
end Dot
namespace Dot
open PySem PySem.Spec PyProof.Rows L2 DK
set_option maxHeartbeats 0 in
theorem run (w : World) : HandSHeadRun.RunEq RR (PySem.W.view RR.prog [14]) hk ob 20000 loose w := by
  intro os
  kernel_rfl
end Dot
section
local macro_rules | `(tactic| lcg_src) => `(tactic| first | with_reducible assumption | with_reducible (refine' DK.Stp.inn ?si; (case si => with_reducible assumption)) | with_reducible (refine' DK.Stp.pre ?sp; (case sp => with_reducible assumption)))
local macro_rules | `(tactic| k_clsL) => `(tactic| first | with_reducible assumption | ((with_reducible refine' Ne.symm ?ny); (case ny => with_reducible assumption)) | (refine' DK.Own.ne ?ah ?an; (case an => with_reducible assumption); (case ah => kat_tups)) | (refine' Ne.symm (DK.Own.ne ?bh ?bn); (case bn => with_reducible assumption); (case bh => kat_tups)))
local macro_rules | `(tactic| k_offL) => `(tactic| first | with_reducible exact DK.nm_nil | kpf_close | ((with_reducible refine DK.nm_cons ?mh ?mt); (case mh => k_clsL); (case mt => k_offL)) | with_reducible assumption)
local macro_rules | `(tactic| kct_strs) => `(tactic| first | with_reducible assumption | with_reducible exact DK.FreN.no)
local macro_rules | `(tactic| kpf_close) => `(tactic| first | ((with_reducible refine' DK.nm_fre ?nf ?no); (case nf => with_reducible assumption); (case no => kat_tups)) | ((with_reducible refine' DK.nm_own ?mo ?mf); (case mf => with_reducible assumption); (case mo => kbo_bools)) | ((with_reducible refine' DK.nm_ownS ?mo ?mf); (case mf => with_reducible assumption); (case mo => kbo_bools)) | ((with_reducible refine' DK.nm_ownT ?mo ?mf); (case mf => with_reducible assumption); (case mo => kbo_bools)) | ((with_reducible refine' DK.nm_ownB ?mo ?mf); (case mf => with_reducible assumption); (case mo => kbo_bools)) | with_reducible assumption | ((with_reducible refine DK.nm_app ?_ ?_) <;> k_offL))
local macro_rules | `(tactic| kbt_split) => `(tactic| first | with_reducible exact DK.Dis.nil | with_reducible assumption | ((with_reducible refine' DK.Dis.fre ?dx ?df); (case df => with_reducible assumption); (case dx => kbo_bools)) | ((with_reducible refine' DK.Dis.old ?dx ?df); (case df => with_reducible assumption); (case dx => kbo_bools)) | ((with_reducible refine' DK.Dis.freS ?dx ?df); (case df => with_reducible assumption); (case dx => kbo_bools)) | ((with_reducible refine' DK.Dis.oldS ?dx ?df); (case df => with_reducible assumption); (case dx => kbo_bools)) | ((with_reducible refine' DK.Dis.freT ?dx ?df); (case df => with_reducible assumption); (case dx => kbo_bools)) | ((with_reducible refine' DK.Dis.oldT ?dx ?df); (case df => with_reducible assumption); (case dx => kbo_bools)) | ((with_reducible refine' DK.Dis.freB ?dx ?df); (case df => with_reducible assumption); (case dx => kbo_bools)) | ((with_reducible refine' DK.Dis.oldB ?dx ?df); (case df => with_reducible assumption); (case dx => kbo_bools)) | ((with_reducible refine DK.Dis.one ?dh ?dt); (case dh => kpf_close); (case dt => kbt_split)) | ((with_reducible refine DK.Dis.app ?_ ?_) <;> kbt_split))
local macro_rules | `(tactic| kbo_bools) => `(tactic| first | with_reducible assumption | ((with_reducible refine' DK.Stp.keepN ?ks ?kd ?ko); (case ks => with_reducible assumption); (case ko => kbo_bools); (case kd => kbt_split)) | ((with_reducible refine' DK.Stp.keepS ?ks ?kd ?ko); (case ks => with_reducible assumption); (case ko => kbo_bools); (case kd => kbt_split)) | ((with_reducible refine' DK.Stp.keepT ?ks ?kd ?ko); (case ks => with_reducible assumption); (case ko => kbo_bools); (case kd => kbt_split)) | ((with_reducible refine' DK.Stp.keepB ?ks ?kd ?ko); (case ks => with_reducible assumption); (case ko => kbo_bools); (case kd => kbt_split)))
local macro_rules | `(tactic| kat_tups) => `(tactic| first | with_reducible assumption | ((with_reducible refine' DK.Stp.keep ?ks ?kn ?kh); (case ks => with_reducible assumption); (case kh => kat_tups); (case kn => k_offL)))
local macro_rules | `(tactic| k_subL) => `(tactic| first | with_reducible assumption | ((with_reducible refine' DK.FreN.hd ?fh); (case fh => with_reducible assumption)) | ((with_reducible refine' DK.Stp.back ?kv ?kb); (case kv => with_reducible assumption); (case kb => k_subL)) | ((with_reducible refine' DK.Mv.fre ?mm ?ma ?mb); (case mm => with_reducible assumption); (case ma => k_subL); (case mb => (intro p_ hp_; k_subL))))
local macro_rules | `(tactic| kqd_all) => `(tactic| first | with_reducible assumption | with_reducible exact DK.RD.int_ | with_reducible exact DK.RD.bl_ | with_reducible exact DK.RD.str_ | with_reducible exact DK.RD.non_ | ((with_reducible refine' DK.Stp.up ?kv ?ku); (case kv => with_reducible assumption); (case ku => kqd_all)))
local macro_rules | `(tactic| nest_cls) => `(tactic| first | with_reducible assumption | with_reducible exact DK.RDs.nil | ((with_reducible refine' DK.RDs.cons ?rh ?rt); (case rh => kqd_all); (case rt => nest_cls)) | with_reducible exact DK.RDs.of_ints _ | ((with_reducible refine' DK.Stp.ups ?kv ?ks); (case kv => with_reducible assumption); (case ks => nest_cls)))
local macro_rules | `(tactic| k_places) => `(tactic| first | with_reducible assumption | ((with_reducible refine' DK.RDo.up ?kv ?kl); (case kv => with_reducible assumption); (case kl => k_places)))
local macro_rules | `(tactic| lcg_off) => `(tactic| first | with_reducible exact DK.sub_nil | with_reducible exact DK.sub_self | with_reducible exact DK.sub_tl3 | with_reducible exact DK.sub_tl5 | with_reducible exact DK.sub_appR | with_reducible exact DK.sub_appL | ((with_reducible refine' DK.sub_fre ?ff); (case ff => with_reducible assumption)) | ((with_reducible refine' DK.sub_in ?fi ?ft); (case fi => first | exact List.mem_cons_self | exact List.mem_cons_of_mem _ List.mem_cons_self | exact List.mem_cons_of_mem _ (List.mem_cons_of_mem _ List.mem_cons_self)); (case ft => lcg_off)) | ((with_reducible refine' DK.sub_mv ?fm ?fi ?ft); (case fm => with_reducible assumption); (case fi => first | exact List.mem_cons_self | exact List.mem_cons_of_mem _ List.mem_cons_self | exact List.mem_cons_of_mem _ (List.mem_cons_of_mem _ List.mem_cons_self)); (case ft => lcg_off)) | ((with_reducible refine DK.sub_new ?fn ?ft); (case fn => k_subL); (case ft => lcg_off)) | ((with_reducible refine' DK.sub_app ?f1 ?f2); (case f1 => lcg_off); (case f2 => lcg_off)))
local macro_rules | `(tactic| kas_types) => `(tactic| first | with_reducible assumption | ((with_reducible refine DK.Stp.refl ?_); lcg_src) | ((with_reducible refine' DK.Stp.trans ?sa ?sm ?sb); (case sm => with_reducible assumption); (case sa => kas_types); (case sb => lcg_off)))
local macro_rules | `(tactic| ktu_offI) => `(tactic| first | with_reducible assumption | ((with_reducible refine' DK.Scr.up ?kv ?kl); (case kv => with_reducible assumption); (case kl => ktu_offI)) | ((with_reducible refine' DK.Alike.up ?kv ?kl); (case kv => with_reducible assumption); (case kl => ktu_offI)))
local macro_rules | `(tactic| k_allIn) => `(tactic| first | with_reducible assumption | omega | decide | exact Int.emod_nonneg _ (by omega) | exact Int.emod_lt_of_pos _ (by omega))
local macro_rules | `(tactic| k_memK) => `(tactic| (simp only [L2.wipe, List.set_cons_succ, List.set_cons_zero]; exact rfl))
local macro_rules | `(tactic| kp_flats) => `(tactic| first
  | ((with_reducible refine DK.st_var (v := ?vv) ?hv ?kv); (case hv => exact rfl))
  | ((with_reducible refine DK.st_gname (σ' := ?sg) ?hg ?kg); (case hg => k_memK))
  | with_reducible refine DK.st_seq ?_
  | with_reducible refine DK.st_c ?_
  | with_reducible refine DK.st_op ?_
  | with_reducible refine DK.st_cb ?_
  | with_reducible refine DK.st_cons ?_
  | with_reducible refine DK.st_nil ?_
  | with_reducible refine DK.st_asg ?_
  | with_reducible refine DK.st_test ?_
  | with_reducible refine DK.st_B ?_
  | with_reducible refine DK.st_exb ?_
  | with_reducible refine DK.st_exi ?_
  | with_reducible refine DK.st_add ?_
  | with_reducible refine DK.st_I0 ?_
  | with_reducible refine DK.st_eqI ?_
  | with_reducible refine DK.st_neI ?_
  | with_reducible refine DK.br_t ?_
  | with_reducible refine DK.br_f ?_
  | with_reducible refine DK.br_nt ?_
  | with_reducible refine DK.br_nf ?_
  | with_reducible refine DK.st_call ?_
  | with_reducible refine DK.st_callX ?_
  | with_reducible refine DK.st_makeX ?_
  | with_reducible refine DK.st_lstRev ?_
  | with_reducible refine DK.st_make ?_
  | with_reducible refine DK.st_fld ?_
  | with_reducible refine DK.st_xl ?_
  | with_reducible refine DK.st_drop ?_
  | with_reducible refine DK.st_next ?_
  | with_reducible refine DK.st_bm ?_
  | with_reducible refine DK.st_bm0 ?_
  | with_reducible refine DK.st_un ?_
  | with_reducible refine DK.st_rU ?_
  | with_reducible refine DK.st_not ?_
  | with_reducible refine DK.st_notV ?_
  | with_reducible refine DK.st_tup ?_
  | with_reducible refine DK.st_lst ?_
  | with_reducible refine DK.st_gsub ?_
  | with_reducible refine DK.st_rng1 ?_
  | with_reducible refine DK.st_rng2 ?_
  | with_reducible refine DK.st_rng3 ?_
  | with_reducible refine DK.st_gcons ?_
  | with_reducible refine DK.st_gnil ?_
  | with_reducible refine DK.st_ret ?_
  | with_reducible refine DK.st_retN ?_
  | with_reducible refine DK.st_yes ?_
  | with_reducible refine DK.st_sfld ?_
  | with_reducible refine DK.st_dput ?_
  | with_reducible refine DK.st_methA ?_
  | with_reducible refine DK.st_methX ?_
  | with_reducible refine DK.st_din ?_
  | with_reducible refine DK.st_dnin ?_
  | with_reducible refine DK.st_dget2 ?_
  | with_reducible refine DK.st_dget ?_
  | with_reducible refine DK.st_par ?_
  | ((with_reducible refine DK.st_parx (σ' := ?sg) ?hg ?kg); (case hg => k_memK))
  | with_reducible refine DK.st_par3 ?_
  | ((with_reducible refine DK.st_parx3 (σ' := ?sg) ?hg ?kg); (case hg => k_memK))
  | with_reducible refine DK.st_sl ?_
  | with_reducible refine DK.st_nopart ?_
  | with_reducible refine DK.st_part ?_)
local macro_rules | `(tactic| dl_open) => `(tactic| repeat kp_flats)
namespace Dot
open PySem PySem.Spec PyProof.Rows L2 DK
def m_law_next (z_script : List Int) (z_at : (List Int)) : Rs (Int × (List Int)) :=
(ixR z_at 0).bnd fun x1 =>
setR z_at 0 (x1 + 1) fun x2 =>
Rs.thn ((if 0 < (z_script.length : Int) then ((ixR x2 0).bnd fun x3 =>
grd ((0 : Int) < (z_script.length : Int)) <| (ixR z_script (x3 % (z_script.length : Int))).bnd fun x4 =>
.ok (.nx x4)) else (.ok (.nx 0)) : (Rs (Ctl (Int) (Int × (List Int)))))) (fun x5 =>
(ixR x2 0).bnd fun x6 =>
(ixR x2 0).bnd fun x7 =>
grd (mulOk x6 x7 = true) <| grd (mulOk (((((x5 % 2147483647) + ((x6 * x7) * 7919)) + 11) * 48271) % 2147483647) (((((x5 % 2147483647) + ((x6 * x7) * 7919)) + 11) * 48271) % 2147483647) = true) <| .ok (((((((((x5 % 2147483647) + ((x6 * x7) * 7919)) + 11) * 48271) % 2147483647) * (((((x5 % 2147483647) + ((x6 * x7) * 7919)) + 11) * 48271) % 2147483647)) % 1999999973), x2))) (fun r => .ok r)
def sp_law_next (K : PySem.W.Frag) : Sp := fun vs H Q E => ∃ (v_script v_at : V), vs = [v_script, v_at] ∧ (∃ (F : Hp) (z_script : List Int) (z_at : (List Int)), Same F H ∧ Scr K F v_script z_script ∧ (∃ (a : Addr) (ws : List V), v_at = .ref a ∧ Own F H a (.lst ws) ∧ RDs F (List.map Dat.int z_at) ws) ∧ Post (m_law_next z_script z_at) (fun r => ∀ a, v_at = .ref a → ∀ F' H', Stp [a] F H F' H' → ∀ ws, Own F' H' a (.lst ws) → RDs F' (List.map Dat.int r.2) ws → Q (V.int r.1) H') (fun c l => ∀ a, v_at = .ref a → ∀ Fx Hx dx, Stp [a] F H Fx Hx → ExD Fx l dx → E (.ref (He.ga K c.nm)) dx Hx))
theorem len_law_next {K : PySem.W.Frag} : ∀ vs H Q E, sp_law_next K vs H Q E → vs.length = ((["_law_script", "_law_at"] : List Str)).length := fun vs H Q E h => by
  obtain ⟨_, _, rfl, _⟩ := h
  rfl
def t_law_next (K : PySem.W.Frag) (E : XK) : TS :=
  (tSeq (tAsg (tOp (rAddU K) (tOp (rIxU K) (tVar 1) (tC (.int 0))) (tC (.int 1))) (gSub (tVar 1) (tC (.int 0)) rSetL))
  (tSeq (tAsg (tC (.int 0)) (gName 2))
  (tSeq (tIfS (tTest (tOp rGtI (tCB (rLenU K) (tCons (tVar 0) tNil)) (tC (.int 0)))) (tAsg (tOp (rIxU K) (tVar 0) (tOp rModI (tOp (rIxU K) (tVar 1) (tC (.int 0))) (tCB (rLenU K) (tCons (tVar 0) tNil)))) (gName 2)) tNext)
  (tSeq (tAsg (tOp rModI (tOp rMulU (tOp (rAddU K) (tOp (rAddU K) (tOp rModI (tVar 2) (tC (.int 2147483647))) (tOp rMulU (tOp rMulU (tOp (rIxU K) (tVar 1) (tC (.int 0))) (tOp (rIxU K) (tVar 1) (tC (.int 0)))) (tC (.int 7919)))) (tC (.int 11))) (tC (.int 48271))) (tC (.int 2147483647))) (gName 3))
  (tRet (tOp rModI (tOp rMulU (tVar 3) (tVar 3)) (tC (.int 1999999973))))))))
section
variable {P : Program} {w : World} {K : PySem.W.Frag} {mg : Str → Option Value} {base : Heap}
theorem pure_law_next (T : TX K mg) (vs : List V) (H : Hp) (Q : VK) (E : XK) (h : sp_law_next K vs H Q E) : t_law_next K E { nx := fun _ H' => Q .non H', rt := Q } (start n_law_next vs) H := by
  obtain ⟨v_script, v_at, rfl, h⟩ := h
  change t_law_next K E _ [some v_script, some v_at, none, none] H
  unfold t_law_next
  obtain ⟨F, z_script, z_at, e0, hS1, ⟨a2, w_2, rfl, ho2, hr2⟩, h⟩ := h
  unfold m_law_next at h
  dl_open
  replace h := h.ix
  obtain ⟨x1, hx1, h⟩ := h
  refine sm_ixO (e := Dat.int) (F := F) (by kat_tups) (by nest_cls) hx1 ?_
  intro u1 r1
  cases (show u1 = (V.int x1) from r1)
  dl_open
  dl_open
  dl_open
  replace h := h.st
  obtain ⟨n1, hn1, h⟩ := h
  refine sm_set (e := Dat.int) (F := F) (by lcg_src) (by kat_tups) (by nest_cls) (by kqd_all) hn1 ?_
  intro w1 F1 H1 s1 o1 r2
  generalize List.set z_at n1 (x1 + 1) = x2 at h r2
  dl_open
  dl_open
  dl_open
  (with_reducible refine cutI h (fun (s : Int) σ' H' => ∃ F', Stp [] F1 H1 F' H' ∧ σ' = [some v_script, some (V.ref a2), some (V.int s), none]) ?_ ?_) <;> clear h
  · intro nx1 kk1 h
    with_reducible refine DK.st_if ?_
    dl_open
    dl_open
    refine st_lenS (F := F1) (by lcg_src) (by ktu_offI) ?_
    dl_open
    dl_open
    (refine brP h ?_ ?_) <;> clear h <;> intro c1 h
    · dl_open
      dl_open
      replace h := h.ix
      obtain ⟨x3, hx2, h⟩ := h
      refine sm_ixO (e := Dat.int) (F := F1) (by kat_tups) (by nest_cls) hx2 ?_
      intro u2 r3
      cases (show u2 = (V.int x3) from r3)
      dl_open
      refine st_lenS (F := F1) (by lcg_src) (by ktu_offI) ?_
      dl_open
      replace h := h.g
      obtain ⟨g1, h⟩ := h
      refine st_mod g1 ?_
      dl_open
      replace h := h.ix
      obtain ⟨x4, hx3, h⟩ := h
      refine sm_ixS (F := F1) (by lcg_src) (by ktu_offI) hx3 ?_
      dl_open
      dl_open
      exact kk1 x4 _ _ ⟨F1, Stp.refl (by lcg_src), rfl⟩ h.onx
    · dl_open
      dl_open
      exact kk1 0 _ _ ⟨F1, Stp.refl (by lcg_src), rfl⟩ h.onx
  · rintro x5 σ_ H2 ⟨F2, s2, rfl⟩ h
    try dsimp only at h
    dl_open
    refine st_mod (by decide) ?_
    dl_open
    replace h := h.ix
    obtain ⟨x6, hx4, h⟩ := h
    refine sm_ixO (e := Dat.int) (F := F2) (by kat_tups) (by nest_cls) hx4 ?_
    intro u4 r5
    cases (show u4 = (V.int x6) from r5)
    dl_open
    replace h := h.ix
    obtain ⟨x7, hx5, h⟩ := h
    refine sm_ixO (e := Dat.int) (F := F2) (by kat_tups) (by nest_cls) hx5 ?_
    intro u5 r6
    cases (show u5 = (V.int x7) from r6)
    dl_open
    replace h := h.g
    obtain ⟨g3, h⟩ := h
    refine st_mul (mulOk.c g3) ?_
    dl_open
    refine st_mul (mulR (by decide)) ?_
    dl_open
    dl_open
    dl_open
    refine st_mul (mulR (by decide)) ?_
    dl_open
    refine st_mod (by decide) ?_
    dl_open
    dl_open
    dl_open
    replace h := h.g
    obtain ⟨g7, h⟩ := h
    refine st_mul (mulOk.c g7) ?_
    dl_open
    refine st_mod (by decide) ?_
    dl_open
    exact h a2 rfl F2 H2 (by kas_types) _ (by kat_tups) (by nest_cls)
theorem ok_law_next (T : TX K mg)  : CalOk P w K mg base "_law_next" 1 (["_law_script", "_law_at"] : List Str) (sp_law_next K) :=
  T.cal 7 20 (d := d_law_next) rfl rfl rfl rfl rfl sc_law_next (len_law_next) (fun _ _ _ _ _ _ _ us hl => match us, hl with | [_, _], _ => rfl) (fun cdv A outer s H vs Q E hr h => ⟨t_law_next K E, (by exact (pss_cons (ps_asg (pe_op op_addU (pe_ix ix_U (pv 1) pe_int (fun _ _ => rfl)) pe_int) (pg_sub (pv 1) pe_int set_list))
  (pss_cons (ps_set (i := 2) sc_law_next.nd rfl (by first | exact Or.inl rfl | exact Or.inr rfl) pe_int)
  (pss_cons (ps_if (pt_cmpR op_gt (pe_callB call_lenU (by rfl) (T.free 3) (by decide +kernel) (pa_cons (pv 0) pa_nil)) pe_int (nomark _)) (pss_one (ps_set (i := 2) sc_law_next.nd rfl (by first | exact Or.inl rfl | exact Or.inr rfl) (pe_ix ix_U (pv 0) (pe_op op_mod (pe_ix ix_U (pv 1) pe_int (fun _ _ => rfl)) (pe_callB call_lenU (by rfl) (T.free 3) (by decide +kernel) (pa_cons (pv 0) pa_nil))) (fun _ _ => rfl)))) pss_nil)
  (pss_cons (ps_set (i := 3) sc_law_next.nd rfl (by first | exact Or.inl rfl | exact Or.inr rfl) (pe_op op_mod (pe_op op_mulU (pe_op op_addU (pe_op op_addU (pe_op op_mod (pv 2) pe_int) (pe_op op_mulU (pe_op op_mulU (pe_ix ix_U (pv 1) pe_int (fun _ _ => rfl)) (pe_ix ix_U (pv 1) pe_int (fun _ _ => rfl))) pe_int)) pe_int) pe_int) pe_int))
  (pss_one (ps_ret (pe_op op_mod (pe_op op_mulU (pv 3) (pv 3)) pe_int)))))))), pure_law_next T vs H Q E h⟩)
end
end Dot
namespace Dot
open PySem PySem.Spec PyProof.Rows L2 DK
def mn_folded_cells : Nat → Int → Rs ((List (Int × Int)))
  | 0, _ => .bad
  | n_ + 1, z_side =>
    if z_side = 1 then (.ok (([(0, 0)] : List (Int × Int)))) else ((mn_folded_cells n_ (z_side / 2)).bnd fun x1 =>
    grd (x1.length ≤ 1000000) <| (mapR (fun (y1 : (Int × Int)) =>
     .ok (some (y1.2, y1.1))) x1).bnd fun x2 =>
    grd (x1.length ≤ 1000000) <| (mapR (fun (y2 : (Int × Int)) =>
     .ok (some (((z_side / 2) + y2.1), y2.2))) x1).bnd fun x3 =>
    grd (x2.length + x3.length ≤ 1000000) <| grd (x1.length ≤ 1000000) <| (mapR (fun (y3 : (Int × Int)) =>
     .ok (some (((z_side / 2) + y3.1), ((z_side / 2) + y3.2)))) x1).bnd fun x4 =>
    grd ((x2 ++ x3).length + x4.length ≤ 1000000) <| grd (x1.length ≤ 1000000) <| (mapR (fun (y4 : (Int × Int)) =>
     .ok (some ((((z_side / 2) - 1) - y4.2), (((2 * (z_side / 2)) - 1) - y4.1)))) x1).bnd fun x5 =>
    grd (((x2 ++ x3) ++ x4).length + x5.length ≤ 1000000) <| .ok ((((x2 ++ x3) ++ x4) ++ x5)))
abbrev m_folded_cells := mn_folded_cells 8
def spn_folded_cells (n : Nat) (K : PySem.W.Frag) : Sp := fun vs H Q E => ∃ (v_side : V), vs = [v_side] ∧ (∃ (F : Hp) (z_side : Int), Same F H ∧ v_side = (V.int z_side) ∧ Post (mn_folded_cells n z_side) (fun r => ∀ F' H', Stp [] F H F' H' → ∀ L vs, Fre H L → Own F' H' L (.lst vs) → RDs F' (List.map (eP Dat.int Dat.int) r) vs → Q (.ref L) H') (fun c l => ∀ Fx Hx dx, Stp [] F H Fx Hx → ExD Fx l dx → E (.ref (He.ga K c.nm)) dx Hx))
abbrev sp_folded_cells (K : PySem.W.Frag) : Sp := spn_folded_cells 8 K
theorem len_folded_cells (n : Nat) {K : PySem.W.Frag} : ∀ vs H Q E, spn_folded_cells n K vs H Q E → vs.length = ((["side"] : List Str)).length := fun vs H Q E h => by
  obtain ⟨_, rfl, _⟩ := h
  rfl
def t_folded_cells (spR : Sp) (K : PySem.W.Frag) (E : XK) : TS :=
  (tSeq (tIfS (tTest (tOp (rEqU K) (tVar 0) (tC (.int 1)))) (tRet (tLst (tCons (tTup (tCons (tC (.int 0)) (tCons (tC (.int 0)) tNil))) tNil))) tNext)
  (tSeq (tAsg (tOp rDivU (tVar 0) (tC (.int 2))) (gName 1))
  (tSeq (tAsg (tCall spR [] E (tCons (tVar 1) tNil)) (gName 2))
  (tSeq (tAsg (tLc (iSeq K (tVar 2)) (gTupU K 2 (gCons (gName 4) (gCons (gName 5) gNil))) tYes (tTup (tCons (tVar 5) (tCons (tVar 4) tNil))) [4, 5]) (gName 3))
  (tSeq (tDrop (tBM K "list" rExtend (tVar 3) (tCons (tLc (iSeq K (tVar 2)) (gTupU K 2 (gCons (gName 4) (gCons (gName 5) gNil))) tYes (tTup (tCons (tOp (rAddU K) (tVar 1) (tVar 4)) (tCons (tVar 5) tNil))) [4, 5]) tNil)))
  (tSeq (tDrop (tBM K "list" rExtend (tVar 3) (tCons (tLc (iSeq K (tVar 2)) (gTupU K 2 (gCons (gName 4) (gCons (gName 5) gNil))) tYes (tTup (tCons (tOp (rAddU K) (tVar 1) (tVar 4)) (tCons (tOp (rAddU K) (tVar 1) (tVar 5)) tNil))) [4, 5]) tNil)))
  (tSeq (tDrop (tBM K "list" rExtend (tVar 3) (tCons (tLc (iSeq K (tVar 2)) (gTupU K 2 (gCons (gName 4) (gCons (gName 5) gNil))) tYes (tTup (tCons (tOp rSubI (tOp rSubI (tVar 1) (tC (.int 1))) (tVar 5)) (tCons (tOp rSubI (tOp rSubI (tOp rMulU (tC (.int 2)) (tVar 1)) (tC (.int 1))) (tVar 4)) tNil))) [4, 5]) tNil)))
  (tRet (tVar 3)))))))))
section
variable {P : Program} {w : World} {K : PySem.W.Frag} {mg : Str → Option Value} {base : Heap}
theorem spz_folded_cells : ∀ vs H Q E, spn_folded_cells 0 K vs H Q E → False := fun vs H Q E h => by
  obtain ⟨_, _, _, _, _, _, h⟩ := h
  exact h
theorem pure_folded_cells (T : TX K mg) (n : Nat) (vs : List V) (H : Hp) (Q : VK) (E : XK) (h : spn_folded_cells (n + 1) K vs H Q E) : t_folded_cells (spn_folded_cells n K) K E { nx := fun _ H' => Q .non H', rt := Q } (start n_folded_cells vs) H := by
  obtain ⟨v_side, rfl, h⟩ := h
  change t_folded_cells _ K E _ [some v_side, none, none, none, none, none] H
  unfold t_folded_cells
  obtain ⟨F, z_side, e0, rfl, h⟩ := h
  unfold mn_folded_cells at h
  dl_open
  with_reducible refine DK.st_if ?_
  dl_open
  dl_open
  dl_open
  (refine brP h ?_ ?_) <;> clear h <;> intro c1 h
  · dl_open
    dl_open
    dl_open
    refine newT (by simp) (F := F) (by lcg_src) (ds := [Dat.int 0, Dat.int 0]) (by nest_cls) ?_
    intro u1 F1 H1 s1 r1
    have r1 : RD F1 ((eP Dat.int Dat.int) (0, 0)) u1 := r1
    dl_open
    refine newO (by simp) (F := F1) (by lcg_src) ?_
    intro L1 F2 H2 s2 n1 o1
    have r2 : RDs F2 (List.map (eP Dat.int Dat.int) ([(0, 0)] : List (Int × Int))) [u1] := (show RDs F2 [(eP Dat.int Dat.int) (0, 0)] [u1] by nest_cls)
    dl_open
    exact h F2 H2 (by kas_types) _ _ (by k_subL) (by kat_tups) (by nest_cls)
  · dl_open
    dl_open
    refine st_div (divS (by decide)) ?_
    dl_open
    dl_open
    refine ⟨_, rfl, F, (z_side / 2), by lcg_src, rfl, h.b.mono2 ?_ (fun c_ l_ hx_ Fx_ Hx_ dx_ sx_ ex_ => by exact hx_ Fx_ Hx_ dx_ (by kas_types) ex_)⟩
    clear h
    intro x1 h F3 H3 s3 L2 w1 n2 o2 r3
    obtain ⟨F4, s4, r4⟩ := own_fz (F := F3) s3.inn o2 r3
    dl_open
    dl_open
    refine st_lc ?_
    dl_open
    refine st_iseqL ?_
    dl_open
    dl_open
    replace h := h.g
    obtain ⟨g2, h⟩ := h
    (refine lc_L (e := (eP Dat.int Dat.int)) (e2 := (eP Dat.int Dat.int)) (F := F4) (by kqd_all) (by lcg_src) g2 h.b ?_ ?_) <;> clear h
    · intro y1 u3 F5 H4 r5 s5 PN1 NY1 NN1 kY1 kN1 h
      have r5 : RD F5 ((eP Dat.int Dat.int) y1) u3 := r5
      dl_open
      refine sm_g2 (F := F5) (by lcg_src) (by kqd_all) ?_
      intro u4 u5 r6 r7
      cases (show u4 = (V.int y1.1) from r6)
      cases (show u5 = (V.int y1.2) from r7)
      dl_open
      dl_open
      refine ⟨rfl, ?_⟩
      dl_open
      dl_open
      refine newT (by simp) (F := F5) (by lcg_src) (ds := [Dat.int y1.2, Dat.int y1.1]) (by nest_cls) ?_
      intro u6 F6 H5 s6 r8
      have r8 : RD F6 ((eP Dat.int Dat.int) (y1.2, y1.1)) u6 := r8
      dl_open
      exact kY1 _ _ F6 H5 (by kas_types) (by kqd_all) h
    intro L3 w2 x2 F7 H6 s7 n3 o3 r9 h
    dl_open
    dl_open
    refine ⟨ty_own (by kat_tups : Own F7 _ _ _), ?_⟩
    dl_open
    refine st_lc ?_
    dl_open
    refine st_iseqL ?_
    dl_open
    dl_open
    replace h := h.g
    obtain ⟨g3, h⟩ := h
    (refine lc_L (e := (eP Dat.int Dat.int)) (e2 := (eP Dat.int Dat.int)) (F := F7) (by kqd_all) (by lcg_src) g3 h.b ?_ ?_) <;> clear h
    · intro y2 u7 F8 H7 r10 s8 PN2 NY2 NN2 kY2 kN2 h
      have r10 : RD F8 ((eP Dat.int Dat.int) y2) u7 := r10
      dl_open
      refine sm_g2 (F := F8) (by lcg_src) (by kqd_all) ?_
      intro u8 u9 r11 r12
      cases (show u8 = (V.int y2.1) from r11)
      cases (show u9 = (V.int y2.2) from r12)
      dl_open
      dl_open
      refine ⟨rfl, ?_⟩
      dl_open
      dl_open
      dl_open
      refine newT (by simp) (F := F8) (by lcg_src) (ds := [Dat.int ((z_side / 2) + y2.1), Dat.int y2.2]) (by nest_cls) ?_
      intro u10 F9 H8 s9 r13
      have r13 : RD F9 ((eP Dat.int Dat.int) (((z_side / 2) + y2.1), y2.2)) u10 := r13
      dl_open
      exact kY2 _ _ F9 H8 (by kas_types) (by kqd_all) h
    intro L4 w3 x3 F10 H9 s10 n4 o4 r14 h
    obtain ⟨F11, s11, r15⟩ := own_fz (F := F10) s10.inn o4 r14
    dl_open
    replace h := h.g
    obtain ⟨g4, h⟩ := h
    refine sm_ext (e := (eP Dat.int Dat.int)) (F := F11) (by lcg_src) (by kat_tups) (by nest_cls) (by kqd_all) g4 ?_
    intro w4 F12 H10 s12 o5 r16
    dl_open
    dl_open
    refine ⟨ty_own (by kat_tups : Own F12 _ _ _), ?_⟩
    dl_open
    refine st_lc ?_
    dl_open
    refine st_iseqL ?_
    dl_open
    dl_open
    replace h := h.g
    obtain ⟨g5, h⟩ := h
    (refine lc_L (e := (eP Dat.int Dat.int)) (e2 := (eP Dat.int Dat.int)) (F := F12) (by kqd_all) (by lcg_src) g5 h.b ?_ ?_) <;> clear h
    · intro y3 u11 F13 H11 r17 s13 PN3 NY3 NN3 kY3 kN3 h
      have r17 : RD F13 ((eP Dat.int Dat.int) y3) u11 := r17
      dl_open
      refine sm_g2 (F := F13) (by lcg_src) (by kqd_all) ?_
      intro u12 u13 r18 r19
      cases (show u12 = (V.int y3.1) from r18)
      cases (show u13 = (V.int y3.2) from r19)
      dl_open
      dl_open
      refine ⟨rfl, ?_⟩
      dl_open
      dl_open
      dl_open
      dl_open
      refine newT (by simp) (F := F13) (by lcg_src) (ds := [Dat.int ((z_side / 2) + y3.1), Dat.int ((z_side / 2) + y3.2)]) (by nest_cls) ?_
      intro u14 F14 H12 s14 r20
      have r20 : RD F14 ((eP Dat.int Dat.int) (((z_side / 2) + y3.1), ((z_side / 2) + y3.2))) u14 := r20
      dl_open
      exact kY3 _ _ F14 H12 (by kas_types) (by kqd_all) h
    intro L5 w5 x4 F15 H13 s15 n5 o6 r21 h
    obtain ⟨F16, s16, r22⟩ := own_fz (F := F15) s15.inn o6 r21
    dl_open
    replace h := h.g
    obtain ⟨g6, h⟩ := h
    refine sm_ext (e := (eP Dat.int Dat.int)) (F := F16) (by lcg_src) (by kat_tups) (by nest_cls) (by kqd_all) g6 ?_
    intro w6 F17 H14 s17 o7 r23
    dl_open
    dl_open
    refine ⟨ty_own (by kat_tups : Own F17 _ _ _), ?_⟩
    dl_open
    refine st_lc ?_
    dl_open
    refine st_iseqL ?_
    dl_open
    dl_open
    replace h := h.g
    obtain ⟨g7, h⟩ := h
    (refine lc_L (e := (eP Dat.int Dat.int)) (e2 := (eP Dat.int Dat.int)) (F := F17) (by kqd_all) (by lcg_src) g7 h.b ?_ ?_) <;> clear h
    · intro y4 u15 F18 H15 r24 s18 PN4 NY4 NN4 kY4 kN4 h
      have r24 : RD F18 ((eP Dat.int Dat.int) y4) u15 := r24
      dl_open
      refine sm_g2 (F := F18) (by lcg_src) (by kqd_all) ?_
      intro u16 u17 r25 r26
      cases (show u16 = (V.int y4.1) from r25)
      cases (show u17 = (V.int y4.2) from r26)
      dl_open
      dl_open
      refine ⟨rfl, ?_⟩
      dl_open
      dl_open
      dl_open
      dl_open
      refine st_mul (mulL (by decide)) ?_
      dl_open
      dl_open
      dl_open
      refine newT (by simp) (F := F18) (by lcg_src) (ds := [Dat.int (((z_side / 2) - 1) - y4.2), Dat.int (((2 * (z_side / 2)) - 1) - y4.1)]) (by nest_cls) ?_
      intro u18 F19 H16 s19 r27
      have r27 : RD F19 ((eP Dat.int Dat.int) ((((z_side / 2) - 1) - y4.2), (((2 * (z_side / 2)) - 1) - y4.1))) u18 := r27
      dl_open
      exact kY4 _ _ F19 H16 (by kas_types) (by kqd_all) h
    intro L6 w7 x5 F20 H17 s20 n6 o8 r28 h
    obtain ⟨F21, s21, r29⟩ := own_fz (F := F20) s20.inn o8 r28
    dl_open
    replace h := h.g
    obtain ⟨g9, h⟩ := h
    refine sm_ext (e := (eP Dat.int Dat.int)) (F := F21) (by lcg_src) (by kat_tups) (by nest_cls) (by kqd_all) g9 ?_
    intro w8 F22 H18 s22 o9 r30
    dl_open
    dl_open
    dl_open
    exact h F22 H18 (by kas_types) _ _ (by k_subL) (by kat_tups) (by nest_cls)
theorem okn_folded_cells (T : TX K mg)  : ∀ n : Nat, CalOk P w K mg base "folded_cells" (1 + n) (["side"] : List Str) (spn_folded_cells n K)
  | 0 => T.cal 4 19 (d := d_folded_cells) rfl rfl rfl rfl rfl sc_folded_cells (len_folded_cells _) (fun _ _ _ _ _ _ _ us hl => match us, hl with | [_], _ => rfl) (fun cdv A outer s H vs Q E hr h => (spz_folded_cells vs H Q E h).elim)
  | n + 1 => have c_self := okn_folded_cells T  n
    T.cal (k := 1 + n) 4 19 (d := d_folded_cells) rfl rfl rfl rfl rfl sc_folded_cells (len_folded_cells _) (fun _ _ _ _ _ _ _ us hl => match us, hl with | [_], _ => rfl) (fun cdv A outer s H vs Q E hr h => ⟨t_folded_cells (spn_folded_cells n K) K E, (by exact (pss_cons (ps_if (pt_cmpR (op_eqU hr.units) (pv 0) pe_int (nomark _)) (pss_one (ps_ret (pe_lst (pa_cons (pe_tup (pa_cons pe_int (pa_cons pe_int pa_nil))) pa_nil)))) pss_nil)
  (pss_cons (ps_set (i := 1) sc_folded_cells.nd rfl (by first | exact Or.inl rfl | exact Or.inr rfl) (pe_op op_divU (pv 0) pe_int))
  (pss_cons (ps_set (i := 2) sc_folded_cells.nd rfl (by first | exact Or.inl rfl | exact Or.inr rfl) (pe_callC c_self (hr.mono (by omega)) rfl (L2N.passes_call (L2N.takes_of rfl rfl rfl rfl) (fun _ _ _ _ h => h)) (pa_cons (pv 1) pa_nil)))
  (pss_cons (ps_setLc (i := 3) (own := [("r", 4), ("c", 5)]) (g := (gTupU K 2 (gCons (gName 4) (gCons (gName 5) gNil)))) (tt := tYes) (te := (tTup (tCons (tVar 5) (tCons (tVar 4) tNil))))  (by rfl) sc_folded_cells.nd rfl rfl (sw_true rfl rfl rfl (by decide +kernel)) (pi_seq (pv 2)) (blkOk_by (own := [("r", 4), ("c", 5)]) (by rfl)) (fun _ _ _ _ _ => (pg_tupU (by rfl) (pgs_cons (pg_name (i := 4) sc_folded_cells.nd rfl (by first | exact Or.inl rfl | exact Or.inr rfl)) (pgs_cons (pg_name (i := 5) sc_folded_cells.nd rfl (by first | exact Or.inl rfl | exact Or.inr rfl)) pgs_nil)))) (fun _ _ _ _ _ => pts_nil) (fun _ _ _ _ _ => (pe_tup (pa_cons (pv 5) (pa_cons (pv 4) pa_nil)))))
  (pss_cons (ps_expr (pe_bm PySem.F.plainAttrs_list PySem.F.slot_list_extend PySem.F.type_list_extend mt_extend (pv 3) (pa_cons (pe_lc (own := [("r", 4), ("c", 5)]) (g := (gTupU K 2 (gCons (gName 4) (gCons (gName 5) gNil)))) (tt := tYes) (te := (tTup (tCons (tOp (rAddU K) (tVar 1) (tVar 4)) (tCons (tVar 5) tNil)))) (by rfl) sc_folded_cells.nd (pi_seq (pv 2)) (blkOk_by (own := [("r", 4), ("c", 5)]) (by rfl)) (fun _ _ _ _ _ => (pg_tupU (by rfl) (pgs_cons (pg_name (i := 4) sc_folded_cells.nd rfl (by first | exact Or.inl rfl | exact Or.inr rfl)) (pgs_cons (pg_name (i := 5) sc_folded_cells.nd rfl (by first | exact Or.inl rfl | exact Or.inr rfl)) pgs_nil)))) (fun _ _ _ _ _ => pts_nil) (fun _ _ _ _ _ => (pe_tup (pa_cons (pe_op op_addU (pv 1) (pv 4)) (pa_cons (pv 5) pa_nil))))) pa_nil)))
  (pss_cons (ps_expr (pe_bm PySem.F.plainAttrs_list PySem.F.slot_list_extend PySem.F.type_list_extend mt_extend (pv 3) (pa_cons (pe_lc (own := [("r", 4), ("c", 5)]) (g := (gTupU K 2 (gCons (gName 4) (gCons (gName 5) gNil)))) (tt := tYes) (te := (tTup (tCons (tOp (rAddU K) (tVar 1) (tVar 4)) (tCons (tOp (rAddU K) (tVar 1) (tVar 5)) tNil)))) (by rfl) sc_folded_cells.nd (pi_seq (pv 2)) (blkOk_by (own := [("r", 4), ("c", 5)]) (by rfl)) (fun _ _ _ _ _ => (pg_tupU (by rfl) (pgs_cons (pg_name (i := 4) sc_folded_cells.nd rfl (by first | exact Or.inl rfl | exact Or.inr rfl)) (pgs_cons (pg_name (i := 5) sc_folded_cells.nd rfl (by first | exact Or.inl rfl | exact Or.inr rfl)) pgs_nil)))) (fun _ _ _ _ _ => pts_nil) (fun _ _ _ _ _ => (pe_tup (pa_cons (pe_op op_addU (pv 1) (pv 4)) (pa_cons (pe_op op_addU (pv 1) (pv 5)) pa_nil))))) pa_nil)))
  (pss_cons (ps_expr (pe_bm PySem.F.plainAttrs_list PySem.F.slot_list_extend PySem.F.type_list_extend mt_extend (pv 3) (pa_cons (pe_lc (own := [("r", 4), ("c", 5)]) (g := (gTupU K 2 (gCons (gName 4) (gCons (gName 5) gNil)))) (tt := tYes) (te := (tTup (tCons (tOp rSubI (tOp rSubI (tVar 1) (tC (.int 1))) (tVar 5)) (tCons (tOp rSubI (tOp rSubI (tOp rMulU (tC (.int 2)) (tVar 1)) (tC (.int 1))) (tVar 4)) tNil)))) (by rfl) sc_folded_cells.nd (pi_seq (pv 2)) (blkOk_by (own := [("r", 4), ("c", 5)]) (by rfl)) (fun _ _ _ _ _ => (pg_tupU (by rfl) (pgs_cons (pg_name (i := 4) sc_folded_cells.nd rfl (by first | exact Or.inl rfl | exact Or.inr rfl)) (pgs_cons (pg_name (i := 5) sc_folded_cells.nd rfl (by first | exact Or.inl rfl | exact Or.inr rfl)) pgs_nil)))) (fun _ _ _ _ _ => pts_nil) (fun _ _ _ _ _ => (pe_tup (pa_cons (pe_op op_sub (pe_op op_sub (pv 1) pe_int) (pv 5)) (pa_cons (pe_op op_sub (pe_op op_sub (pe_op op_mulU pe_int (pv 1)) pe_int) (pv 4)) pa_nil))))) pa_nil)))
  (pss_one (ps_ret (pv 3))))))))))), pure_folded_cells T n vs H Q E h⟩)
theorem ok_folded_cells (T : TX K mg)  : CalOk P w K mg base "folded_cells" 9 (["side"] : List Str) (sp_folded_cells K) := okn_folded_cells T  8
end
end Dot
namespace Dot
open PySem PySem.Spec PyProof.Rows L2 DK
def m_law_curve (z_side : Int) (z_place : Int) : Rs ((Int × Int)) :=
Rs.thn (whileR (R := (Int × Int)) (fun (⟨x1, x2, x3⟩ : Int × Int × Int) => .ok (decide (x3 < z_side))) (fun (⟨x1, x2, x3⟩ : Int × Int × Int) =>
grd (mulOk x3 x3 = true) <| grd (divOk (x3 * x3) = true) <| Rs.thn ((if ((z_place / (x3 * x3)) % 4) = 0 then (.ok (.nx (x2, x1))) else (Rs.thn ((if ((z_place / (x3 * x3)) % 4) = 1 then (.ok (.nx ((x3 + x1), x2))) else (Rs.thn ((if ((z_place / (x3 * x3)) % 4) = 2 then (.ok (.nx ((x3 + x1), (x3 + x2)))) else (.ok (.nx (((x3 - 1) - x2), (((2 * x3) - 1) - x1)))) : (Rs (Ctl (Int × Int) (Int × Int))))) (fun ⟨x4, x5⟩ =>
.ok (.nx (x4, x5))) (fun r => .ok (.rt r))) : (Rs (Ctl (Int × Int) (Int × Int))))) (fun ⟨x6, x7⟩ =>
.ok (.nx (x6, x7))) (fun r => .ok (.rt r))) : (Rs (Ctl (Int × Int) (Int × Int))))) (fun ⟨x8, x9⟩ =>
.ok (.nx (x8, x9, (x3 * 2)))) (fun r => .ok (.rt r))) 1000000 (0, 0, 1)) (fun ⟨x10, x11, x12⟩ =>
.ok ((x10, x11))) (fun r => .ok r)
def sp_law_curve (K : PySem.W.Frag) : Sp := fun vs H Q E => ∃ (v_side v_place : V), vs = [v_side, v_place] ∧ (∃ (F : Hp) (z_side : Int) (z_place : Int), Same F H ∧ v_side = (V.int z_side) ∧ v_place = (V.int z_place) ∧ Post (m_law_curve z_side z_place) (fun r => ∀ F' H', Stp [] F H F' H' → ∀ u, RD F' ((eP Dat.int Dat.int) r) u → Q u H') (fun c l => ∀ Fx Hx dx, Stp [] F H Fx Hx → ExD Fx l dx → E (.ref (He.ga K c.nm)) dx Hx))
theorem len_law_curve {K : PySem.W.Frag} : ∀ vs H Q E, sp_law_curve K vs H Q E → vs.length = ((["_law_side", "_law_place"] : List Str)).length := fun vs H Q E h => by
  obtain ⟨_, _, rfl, _⟩ := h
  rfl
def t_law_curve (K : PySem.W.Frag) (E : XK) : TS :=
  (tSeq (tAsg (tC (.int 0)) (gName 2))
  (tSeq (tAsg (tC (.int 0)) (gName 3))
  (tSeq (tAsg (tC (.int 1)) (gName 4))
  (tSeq (tWhile (tTest (tOp rLtI (tVar 4) (tVar 0))) (tSeq (tAsg (tOp rModI (tOp rDivU (tVar 1) (tOp rMulU (tVar 4) (tVar 4))) (tC (.int 4))) (gName 5))
  (tSeq (tIfS (tTest (tOp (rEqU K) (tVar 5) (tC (.int 0)))) (tPar 2 3 (tCons (tVar 3) (tCons (tVar 2) tNil))) (tIfS (tTest (tOp (rEqU K) (tVar 5) (tC (.int 1)))) (tPar 2 3 (tCons (tOp (rAddU K) (tVar 4) (tVar 2)) (tCons (tVar 3) tNil))) (tIfS (tTest (tOp (rEqU K) (tVar 5) (tC (.int 2)))) (tPar 2 3 (tCons (tOp (rAddU K) (tVar 4) (tVar 2)) (tCons (tOp (rAddU K) (tVar 4) (tVar 3)) tNil))) (tPar 2 3 (tCons (tOp rSubI (tOp rSubI (tVar 4) (tC (.int 1))) (tVar 3)) (tCons (tOp rSubI (tOp rSubI (tOp rMulU (tC (.int 2)) (tVar 4)) (tC (.int 1))) (tVar 2)) tNil))))))
  (tAsg (tOp rMulU (tVar 4) (tC (.int 2))) (gName 4)))))
  (tRet (tTup (tCons (tVar 2) (tCons (tVar 3) tNil))))))))
section
variable {P : Program} {w : World} {K : PySem.W.Frag} {mg : Str → Option Value} {base : Heap}
theorem pure_law_curve (T : TX K mg) (vs : List V) (H : Hp) (Q : VK) (E : XK) (h : sp_law_curve K vs H Q E) : t_law_curve K E { nx := fun _ H' => Q .non H', rt := Q } (start n_law_curve vs) H := by
  obtain ⟨v_side, v_place, rfl, h⟩ := h
  change t_law_curve K E _ [some v_side, some v_place, none, none, none, none] H
  unfold t_law_curve
  obtain ⟨F, z_side, z_place, e0, rfl, rfl, h⟩ := h
  unfold m_law_curve at h
  dl_open
  dl_open
  dl_open
  dl_open
  (with_reducible refine cutW h (fun (s : Int × Int × Int) σ' H' => ∃ F', ∃ (oj_0 : Option V), Stp [] F H F' H' ∧ σ' = [some (V.int z_side), some (V.int z_place), some (V.int s.1), some (V.int s.2.1), some (V.int s.2.2), oj_0]) ?_ ?_) <;> clear h
  · intro nx1 kk1 h
    refine wh_R h (fun (s : Int × Int × Int) σ' H' => ∃ F', ∃ (oj_0 : Option V), Stp [] F H F' H' ∧ σ' = [some (V.int z_side), some (V.int z_place), some (V.int s.1), some (V.int s.2.1), some (V.int s.2.2), oj_0]) ⟨F, _, Stp.refl (by lcg_src), rfl⟩ ?_
    clear h
    rintro n_ ⟨x1, x2, x3⟩ σ_ H1 Nx_ QQ_ ⟨F1, o_1, s1, rfl⟩ kN1 kT1 kF1 h
    try dsimp only at h
    dl_open
    dl_open
    dl_open
    refine wh_d h (fun c1 h => kT1 _ ?_) (fun c1 h => kF1 _ (kk1 (x1, x2, x3) _ _ ⟨F1, _, by kas_types, rfl⟩ h))
    dl_open
    dl_open
    replace h := h.g
    obtain ⟨g1, h⟩ := h
    refine st_mul (mulOk.c g1) ?_
    dl_open
    replace h := h.g
    obtain ⟨g2, h⟩ := h
    refine st_div (divOk.c g2) ?_
    dl_open
    refine st_mod (by decide) ?_
    dl_open
    dl_open
    (with_reducible refine cutI h (fun (s : Int × Int) σ' H' => ∃ F', Stp [] F1 H1 F' H' ∧ σ' = [some (V.int z_side), some (V.int z_place), some (V.int s.1), some (V.int s.2), some (V.int x3), some (V.int ((z_place / (x3 * x3)) % 4))]) ?_ ?_) <;> clear h
    · intro nx2 kk2 h
      with_reducible refine DK.st_if ?_
      dl_open
      dl_open
      dl_open
      (refine brP h ?_ ?_) <;> clear h <;> intro c2 h
      · dl_open
        dl_open
        dl_open
        exact kk2 (x2, x1) _ _ ⟨F1, Stp.refl (by lcg_src), rfl⟩ h.onx
      · dl_open
        dl_open
        (with_reducible refine cutI h (fun (s : Int × Int) σ' H' => ∃ F', Stp [] F1 H1 F' H' ∧ σ' = [some (V.int z_side), some (V.int z_place), some (V.int s.1), some (V.int s.2), some (V.int x3), some (V.int ((z_place / (x3 * x3)) % 4))]) ?_ ?_) <;> clear h
        · intro nx3 kk3 h
          with_reducible refine DK.st_if ?_
          dl_open
          dl_open
          dl_open
          (refine brP h ?_ ?_) <;> clear h <;> intro c3 h
          · dl_open
            dl_open
            dl_open
            dl_open
            exact kk3 ((x3 + x1), x2) _ _ ⟨F1, Stp.refl (by lcg_src), rfl⟩ h.onx
          · dl_open
            dl_open
            (with_reducible refine cutI h (fun (s : Int × Int) σ' H' => ∃ F', Stp [] F1 H1 F' H' ∧ σ' = [some (V.int z_side), some (V.int z_place), some (V.int s.1), some (V.int s.2), some (V.int x3), some (V.int ((z_place / (x3 * x3)) % 4))]) ?_ ?_) <;> clear h
            · intro nx4 kk4 h
              with_reducible refine DK.st_if ?_
              dl_open
              dl_open
              dl_open
              (refine brP h ?_ ?_) <;> clear h <;> intro c4 h
              · dl_open
                dl_open
                dl_open
                dl_open
                dl_open
                exact kk4 ((x3 + x1), (x3 + x2)) _ _ ⟨F1, Stp.refl (by lcg_src), rfl⟩ h.onx
              · dl_open
                dl_open
                dl_open
                dl_open
                refine st_mul (mulL (by decide)) ?_
                dl_open
                dl_open
                dl_open
                dl_open
                exact kk4 (((x3 - 1) - x2), (((2 * x3) - 1) - x1)) _ _ ⟨F1, Stp.refl (by lcg_src), rfl⟩ h.onx
            · rintro ⟨x4, x5⟩ σ_ H2 ⟨F2, s2, rfl⟩ h
              try dsimp only at h
              dl_open
              exact kk3 (x4, x5) _ _ ⟨F2, by kas_types, rfl⟩ h.onx
        · rintro ⟨x6, x7⟩ σ_ H3 ⟨F3, s3, rfl⟩ h
          try dsimp only at h
          dl_open
          exact kk2 (x6, x7) _ _ ⟨F3, by kas_types, rfl⟩ h.onx
    · rintro ⟨x8, x9⟩ σ_ H4 ⟨F4, s4, rfl⟩ h
      try dsimp only at h
      dl_open
      refine st_mul (mulR (by decide)) ?_
      dl_open
      dl_open
      exact kN1 (x8, x9, (x3 * 2)) _ _ ⟨F4, _, by kas_types, rfl⟩ h.onx
  · rintro ⟨x10, x11, x12⟩ σ_ H5 ⟨F5, o_2, s5, rfl⟩ h
    try dsimp only at h
    dl_open
    dl_open
    refine newT (by simp) (F := F5) (by lcg_src) (ds := [Dat.int x10, Dat.int x11]) (by nest_cls) ?_
    intro u1 F6 H6 s6 r1
    have r1 : RD F6 ((eP Dat.int Dat.int) (x10, x11)) u1 := r1
    dl_open
    exact h F6 H6 (by kas_types) _ (show RD F6 ((eP Dat.int Dat.int) (x10, x11)) u1 by kqd_all)
theorem ok_law_curve (T : TX K mg)  : CalOk P w K mg base "_law_curve" 1 (["_law_side", "_law_place"] : List Str) (sp_law_curve K) :=
  T.cal 9 22 (d := d_law_curve) rfl rfl rfl rfl rfl sc_law_curve (len_law_curve) (fun _ _ _ _ _ _ _ us hl => match us, hl with | [_, _], _ => rfl) (fun cdv A outer s H vs Q E hr h => ⟨t_law_curve K E, (by exact (pss_cons (ps_set (i := 2) sc_law_curve.nd rfl (by first | exact Or.inl rfl | exact Or.inr rfl) pe_int)
  (pss_cons (ps_set (i := 3) sc_law_curve.nd rfl (by first | exact Or.inl rfl | exact Or.inr rfl) pe_int)
  (pss_cons (ps_set (i := 4) sc_law_curve.nd rfl (by first | exact Or.inl rfl | exact Or.inr rfl) pe_int)
  (pss_cons (ps_while (passes_of rfl) (pt_cmpR op_lt (pv 4) (pv 0) (nomark _)) (pss_cons (ps_set (i := 5) sc_law_curve.nd rfl (by first | exact Or.inl rfl | exact Or.inr rfl) (pe_op op_mod (pe_op op_divU (pv 1) (pe_op op_mulU (pv 4) (pv 4))) pe_int))
  (pss_cons (ps_if (pt_cmpR (op_eqU hr.units) (pv 5) pe_int (nomark _)) (pss_one (ps_par (i := 2) (j := 3) (by rfl) sc_law_curve.nd rfl rfl (by decide) rfl rfl (pa_cons (pv 3) (pa_cons (pv 2) pa_nil)) (by rfl))) (pss_one (ps_if (pt_cmpR (op_eqU hr.units) (pv 5) pe_int (nomark _)) (pss_one (ps_par (i := 2) (j := 3) (by rfl) sc_law_curve.nd rfl rfl (by decide) rfl rfl (pa_cons (pe_op op_addU (pv 4) (pv 2)) (pa_cons (pv 3) pa_nil)) (by rfl))) (pss_one (ps_if (pt_cmpR (op_eqU hr.units) (pv 5) pe_int (nomark _)) (pss_one (ps_par (i := 2) (j := 3) (by rfl) sc_law_curve.nd rfl rfl (by decide) rfl rfl (pa_cons (pe_op op_addU (pv 4) (pv 2)) (pa_cons (pe_op op_addU (pv 4) (pv 3)) pa_nil)) (by rfl))) (pss_one (ps_par (i := 2) (j := 3) (by rfl) sc_law_curve.nd rfl rfl (by decide) rfl rfl (pa_cons (pe_op op_sub (pe_op op_sub (pv 4) pe_int) (pv 3)) (pa_cons (pe_op op_sub (pe_op op_sub (pe_op op_mulU pe_int (pv 4)) pe_int) (pv 2)) pa_nil)) (by rfl))))))))
  (pss_one (ps_set (i := 4) sc_law_curve.nd rfl (by first | exact Or.inl rfl | exact Or.inr rfl) (pe_op op_mulU (pv 4) pe_int))))))
  (pss_one (ps_ret (pe_tup (pa_cons (pv 2) (pa_cons (pv 3) pa_nil)))))))))), pure_law_curve T vs H Q E h⟩)
end
end Dot
namespace Dot
open PySem PySem.Spec PyProof.Rows L2 DK
def spn_law_same (n : Nat) (K : PySem.W.Frag) : Sp := fun vs H Q E => ∃ (v_found v_due : V), vs = [v_found, v_due] ∧ (∃ (F : Hp) (d e : Dat), Same F H ∧ RD F d v_found ∧ RD F e v_due ∧ dep d ≤ n ∧ dep e ≤ n ∧ n ≤ 60 ∧ wid d ≤ 1000000 ∧ ∀ F' H', Stp [] F H F' H' → Q (.bl (sameD d e)) H')
abbrev sp_law_same (K : PySem.W.Frag) : Sp := spn_law_same 8 K
theorem len_law_same (n : Nat) {K : PySem.W.Frag} : ∀ vs H Q E, spn_law_same n K vs H Q E → vs.length = ((["_law_found", "_law_due"] : List Str)).length := fun vs H Q E h => by
  obtain ⟨_, _, rfl, _⟩ := h
  rfl
def t_law_same (spR : Sp) (K : PySem.W.Frag) (E : XK) : TS :=
  (tSeq (tIfS (tB (tCB (rIsi K) (tCons (tVar 1) (tCons (tC (.ty "dict")) tNil)))) (tSeq (tIfS (tOr (tNot (tB (tCB (rIsi K) (tCons (tVar 0) (tCons (tC (.ty "dict")) tNil))))) (tTest (tOp (rNeU K) (tCB (rLenU K) (tCons (tVar 0) tNil)) (tCB (rLenU K) (tCons (tVar 1) tNil))))) (tRet (tC (.bl false))) tNext)
  (tRet (tCB (rAll K) (tCons (tLc (iSeq K (tVar 1)) (gName 2) tYes (tAndV (tOp (rInU K false) (tVar 2) (tVar 0)) (tCall spR [] E0 (tCons (tOp (rIxU K) (tVar 0) (tVar 2)) (tCons (tOp (rIxU K) (tVar 1) (tVar 2)) tNil)))) [2]) tNil)))) tNext)
  (tSeq (tIfS (tOr (tB (tCB (rIsi K) (tCons (tVar 1) (tCons (tC (.ty "list")) tNil)))) (tB (tCB (rIsi K) (tCons (tVar 1) (tCons (tC (.ty "tuple")) tNil))))) (tSeq (tIfS (tOr (tTest (tOp (rNeU K) (tCB (rIsi K) (tCons (tVar 0) (tCons (tC (.ty "list")) tNil))) (tCB (rIsi K) (tCons (tVar 1) (tCons (tC (.ty "list")) tNil))))) (tTest (tOp (rNeU K) (tCB (rIsi K) (tCons (tVar 0) (tCons (tC (.ty "tuple")) tNil))) (tCB (rIsi K) (tCons (tVar 1) (tCons (tC (.ty "tuple")) tNil)))))) (tRet (tC (.bl false))) tNext)
  (tRet (tAndV (tOp (rEqU K) (tCB (rLenU K) (tCons (tVar 0) tNil)) (tCB (rLenU K) (tCons (tVar 1) tNil))) (tCB (rAll K) (tCons (tLc (iZipU K (tCons (tVar 0) (tCons (tVar 1) tNil))) (gTupU K 2 (gCons (gName 3) (gCons (gName 4) gNil))) tYes (tCall spR [] E0 (tCons (tVar 3) (tCons (tVar 4) tNil))) [3, 4]) tNil))))) tNext)
  (tSeq (tIfS (tB (tCB (rIsi K) (tCons (tVar 1) (tCons (tC (.ty "str")) tNil)))) (tRet (tAndV (tCB (rIsi K) (tCons (tVar 0) (tCons (tC (.ty "str")) tNil))) (tOp (rEqU K) (tVar 0) (tVar 1)))) tNext)
  (tRet (tAndV (tCB (rIsi K) (tCons (tVar 0) (tCons (tC (.ty "int")) tNil))) (tAndV (tNotV (tCB (rIsi K) (tCons (tVar 0) (tCons (tC (.ty "bool")) tNil)))) (tOp (rEqU K) (tVar 0) (tVar 1))))))))
section
variable {P : Program} {w : World} {K : PySem.W.Frag} {mg : Str → Option Value} {base : Heap}
theorem spz_law_same {K : PySem.W.Frag} : ∀ vs H Q E, spn_law_same 0 K vs H Q E → False := fun vs H Q E h => by
  obtain ⟨_, _, _, F, d, e, _, _, _, z, _⟩ := h
  have := dep_pos d
  omega
theorem pure_law_same (T : TX K mg) (n : Nat) (vs : List V) (H : Hp) (Q : VK) (E : XK) (h : spn_law_same (n + 1) K vs H Q E) : t_law_same (spn_law_same n K) K E { nx := fun _ H' => Q .non H', rt := Q } (start n_law_same vs) H := by
  obtain ⟨v_found, v_due, rfl, h⟩ := h
  change t_law_same _ K E _ [some v_found, some v_due, none, none, none] H
  unfold t_law_same
  obtain ⟨F, d, e, hs, h1, h2, z1, z2, zn, zw, k⟩ := h
  have k0 : Q (.bl (sameD d e)) H := k F H (Stp.refl hs)
  have q1 : ∀ (T : String) (b : Bool) (Q : VK), kitB (tyN d) T = some b → Q (.bl b) H → rIsi K [v_found, .ty T] H Q := fun T b Q e k => sm_isb hs h1 (by omega) e k
  have q2 : ∀ (T : String) (b : Bool) (Q : VK), kitB (tyN e) T = some b → Q (.bl b) H → rIsi K [v_due, .ty T] H Q := fun T b Q e k => sm_isb hs h2 (by omega) e k
  have two : ∀ (ds es : List Dat) (m : Nat), deps ds ≤ m → deps es ≤ m → wids ds ≤ 1000000 → ds.length = es.length → Post (mapR (fun (p : Dat × Dat) => if dep p.1 ≤ m ∧ dep p.2 ≤ m ∧ wid p.1 ≤ 1000000 then (.ok (some (sameD p.1 p.2)) : Rs (Option Bool)) else .bad) (ds.zip es)) (fun r => r.all id = samesD ds es) (fun _ _ => False) := by
    intro ds es m h1 h2 h3 hl
    rw [mapR_map (fun p : Dat × Dat => sameD p.1 p.2) _ (fun p hp => by
      have m1 := deps_mem (List.of_mem_zip hp).1
      have m2 := deps_mem (List.of_mem_zip hp).2
      have m3 := wids_mem (List.of_mem_zip hp).1
      rw [if_pos ⟨by omega, by omega, by omega⟩])]
    exact (samesD_zip ds es hl).symm
  have turn : ∀ (x : Dat × Dat) (u : V) F1 H1, RD F1 (eP (fun d => d) (fun d => d) x) u → Stp [] F H F1 H1 → LcTurn (gTupU K 2 (gCons (gName 3) (gCons (gName 4) gNil))) tYes (tCall (spn_law_same n K) [] E0 (tCons (tVar 3) (tCons (tVar 4) tNil))) [3, 4] [some v_found, some v_due, none, none, none] Dat.bl F1 H1 F1 H1 (if dep x.1 ≤ n ∧ dep x.2 ≤ n ∧ wid x.1 ≤ 1000000 then (.ok (some (sameD x.1 x.2)) : Rs (Option Bool)) else .bad) (fun _ _ => False) u := by
    intro x u F1 H1 r t PN NY NN kY kN h
    by_cases z : dep x.1 ≤ n ∧ dep x.2 ≤ n ∧ wid x.1 ≤ 1000000
    · rw [if_pos z] at h
      refine sm_g2 (F := F1) t.inn r ?_
      intro a b ra rb
      dl_open
      refine ⟨rfl, ?_⟩
      dl_open
      exact ⟨_, _, rfl, F1, x.1, x.2, t.inn, ra, rb, z.1, z.2.1, by omega, z.2.2, fun F' H' t' => kY _ _ F' H' t' RD.bl_ h⟩
    · rw [if_neg z] at h
      exact h.elim
  cases e with
  | lst es =>
    have qd : ∀ {Q : VK}, Q (.bl false) H → rIsi K [v_due, .ty "dict"] H Q := fun k => q2 _ _ _ (show kitB "list" "dict" = some false by decide +kernel) k
    have ql : ∀ {Q : VK}, Q (.bl true) H → rIsi K [v_due, .ty "list"] H Q := fun k => q2 _ _ _ (show kitB "list" "list" = some true by decide +kernel) k
    have qt : ∀ {Q : VK}, Q (.bl false) H → rIsi K [v_due, .ty "tuple"] H Q := fun k => q2 _ _ _ (show kitB "list" "tuple" = some false by decide +kernel) k
    by_cases hd : ∃ ds, d = .lst ds
    · obtain ⟨ds, rfl⟩ := hd
      have fl : ∀ {Q : VK}, Q (.bl true) H → rIsi K [v_found, .ty "list"] H Q := fun k => q1 _ _ _ (show kitB "list" "list" = some true by decide +kernel) k
      have ft : ∀ {Q : VK}, Q (.bl false) H → rIsi K [v_found, .ty "tuple"] H Q := fun k => q1 _ _ _ (show kitB "list" "tuple" = some false by decide +kernel) k

      (repeat (first | with_reducible refine qd ?_ | with_reducible refine ql ?_ | with_reducible refine qt ?_ | with_reducible refine qs ?_ | with_reducible refine fl ?_ | with_reducible refine ft ?_ | with_reducible refine fs ?_ | with_reducible refine fi ?_ | with_reducible refine fb ?_ | kp_flats | with_reducible refine DK.st_neBs ?_ | with_reducible refine DK.st_neBd1 ?_ | with_reducible refine DK.st_neBd2 ?_ | with_reducible refine DK.st_andV ?_ | with_reducible refine DK.st_andT ?_ | with_reducible refine DK.st_andF ?_ | with_reducible refine DK.st_or ?_ | with_reducible refine DK.st_if ?_))
      refine st_lenL hs h1 ?_
      (repeat (first | with_reducible refine qd ?_ | with_reducible refine ql ?_ | with_reducible refine qt ?_ | with_reducible refine qs ?_ | with_reducible refine fl ?_ | with_reducible refine ft ?_ | with_reducible refine fs ?_ | with_reducible refine fi ?_ | with_reducible refine fb ?_ | kp_flats | with_reducible refine DK.st_neBs ?_ | with_reducible refine DK.st_neBd1 ?_ | with_reducible refine DK.st_neBd2 ?_ | with_reducible refine DK.st_andV ?_ | with_reducible refine DK.st_andT ?_ | with_reducible refine DK.st_andF ?_ | with_reducible refine DK.st_or ?_ | with_reducible refine DK.st_if ?_))
      refine st_lenL hs h2 ?_
      (repeat (first | with_reducible refine qd ?_ | with_reducible refine ql ?_ | with_reducible refine qt ?_ | with_reducible refine qs ?_ | with_reducible refine fl ?_ | with_reducible refine ft ?_ | with_reducible refine fs ?_ | with_reducible refine fi ?_ | with_reducible refine fb ?_ | kp_flats | with_reducible refine DK.st_neBs ?_ | with_reducible refine DK.st_neBd1 ?_ | with_reducible refine DK.st_neBd2 ?_ | with_reducible refine DK.st_andV ?_ | with_reducible refine DK.st_andT ?_ | with_reducible refine DK.st_andF ?_ | with_reducible refine DK.st_or ?_ | with_reducible refine DK.st_if ?_))
      by_cases hl : ds.length = es.length
      · rw [decide_eq_true (by rw [hl])]
        (repeat (first | with_reducible refine qd ?_ | with_reducible refine ql ?_ | with_reducible refine qt ?_ | with_reducible refine qs ?_ | with_reducible refine fl ?_ | with_reducible refine ft ?_ | with_reducible refine fs ?_ | with_reducible refine fi ?_ | with_reducible refine fb ?_ | kp_flats | with_reducible refine DK.st_neBs ?_ | with_reducible refine DK.st_neBd1 ?_ | with_reducible refine DK.st_neBd2 ?_ | with_reducible refine DK.st_andV ?_ | with_reducible refine DK.st_andT ?_ | with_reducible refine DK.st_andF ?_ | with_reducible refine DK.st_or ?_ | with_reducible refine DK.st_if ?_))
        refine st_lc ?_
        refine st_zip ?_
        (repeat (first | with_reducible refine qd ?_ | with_reducible refine ql ?_ | with_reducible refine qt ?_ | with_reducible refine qs ?_ | with_reducible refine fl ?_ | with_reducible refine ft ?_ | with_reducible refine fs ?_ | with_reducible refine fi ?_ | with_reducible refine fb ?_ | kp_flats | with_reducible refine DK.st_neBs ?_ | with_reducible refine DK.st_neBd1 ?_ | with_reducible refine DK.st_neBd2 ?_ | with_reducible refine DK.st_andV ?_ | with_reducible refine DK.st_andT ?_ | with_reducible refine DK.st_andF ?_ | with_reducible refine DK.st_or ?_ | with_reducible refine DK.st_if ?_))
        simp only [dep] at z1 z2
        simp only [wid] at zw
        refine lc_ZL (e := fun d => d) (e' := fun d => d) (e2 := Dat.bl) (F := F) (by simpa using h1) (by simpa using h2) hs (zs := ds) (ys := es) (by omega) (two ds es n (by omega) (by omega) (by omega) hl) turn ?_
        intro L vs r F' H' t nL o rr hr
        obtain ⟨F2, t2, r2⟩ := own_fz (F := F') t.inn o rr
        refine sm_allL t2.inn r2 ?_
        rw [hr]
        have := k _ _ (t.trans t2 (sub_new nL sub_nil))
        simpa only [sameD] using this
      · rw [decide_eq_false (by intro z; exact hl (by omega))]
        (repeat (first | with_reducible refine qd ?_ | with_reducible refine ql ?_ | with_reducible refine qt ?_ | with_reducible refine qs ?_ | with_reducible refine fl ?_ | with_reducible refine ft ?_ | with_reducible refine fs ?_ | with_reducible refine fi ?_ | with_reducible refine fb ?_ | kp_flats | with_reducible refine DK.st_neBs ?_ | with_reducible refine DK.st_neBd1 ?_ | with_reducible refine DK.st_neBd2 ?_ | with_reducible refine DK.st_andV ?_ | with_reducible refine DK.st_andT ?_ | with_reducible refine DK.st_andF ?_ | with_reducible refine DK.st_or ?_ | with_reducible refine DK.st_if ?_))
        have e0 : sameD (.lst ds) (.lst es) = false := by simp only [sameD]; exact samesD_ne hl
        rw [e0] at k0
        exact k0
    · have fl : ∀ {Q : VK}, Q (.bl false) H → rIsi K [v_found, .ty "list"] H Q := fun k => q1 _ _ _ (by cases d <;> first | (simp only [dep] at z1; omega) | (first | exact absurd ⟨_, rfl⟩ hd | exact absurd ⟨_, rfl⟩ hd2 | (simp only [tyN]; decide +kernel))) k
      (repeat (first | with_reducible refine qd ?_ | with_reducible refine ql ?_ | with_reducible refine qt ?_ | with_reducible refine qs ?_ | with_reducible refine fl ?_ | with_reducible refine ft ?_ | with_reducible refine fs ?_ | with_reducible refine fi ?_ | with_reducible refine fb ?_ | kp_flats | with_reducible refine DK.st_neBs ?_ | with_reducible refine DK.st_neBd1 ?_ | with_reducible refine DK.st_neBd2 ?_ | with_reducible refine DK.st_andV ?_ | with_reducible refine DK.st_andT ?_ | with_reducible refine DK.st_andF ?_ | with_reducible refine DK.st_or ?_ | with_reducible refine DK.st_if ?_))
      have e0 : sameD d (.lst es) = false := by cases d <;> first | exact absurd ⟨_, rfl⟩ hd | simp only [sameD]
      rw [e0] at k0
      exact k0
  | tup es =>
    have qd : ∀ {Q : VK}, Q (.bl false) H → rIsi K [v_due, .ty "dict"] H Q := fun k => q2 _ _ _ (show kitB "tuple" "dict" = some false by decide +kernel) k
    have ql : ∀ {Q : VK}, Q (.bl false) H → rIsi K [v_due, .ty "list"] H Q := fun k => q2 _ _ _ (show kitB "tuple" "list" = some false by decide +kernel) k
    have qt : ∀ {Q : VK}, Q (.bl true) H → rIsi K [v_due, .ty "tuple"] H Q := fun k => q2 _ _ _ (show kitB "tuple" "tuple" = some true by decide +kernel) k
    by_cases hd : ∃ ds, d = .tup ds
    · obtain ⟨ds, rfl⟩ := hd
      have fl : ∀ {Q : VK}, Q (.bl false) H → rIsi K [v_found, .ty "list"] H Q := fun k => q1 _ _ _ (show kitB "tuple" "list" = some false by decide +kernel) k
      have ft : ∀ {Q : VK}, Q (.bl true) H → rIsi K [v_found, .ty "tuple"] H Q := fun k => q1 _ _ _ (show kitB "tuple" "tuple" = some true by decide +kernel) k

      (repeat (first | with_reducible refine qd ?_ | with_reducible refine ql ?_ | with_reducible refine qt ?_ | with_reducible refine qs ?_ | with_reducible refine fl ?_ | with_reducible refine ft ?_ | with_reducible refine fs ?_ | with_reducible refine fi ?_ | with_reducible refine fb ?_ | kp_flats | with_reducible refine DK.st_neBs ?_ | with_reducible refine DK.st_neBd1 ?_ | with_reducible refine DK.st_neBd2 ?_ | with_reducible refine DK.st_andV ?_ | with_reducible refine DK.st_andT ?_ | with_reducible refine DK.st_andF ?_ | with_reducible refine DK.st_or ?_ | with_reducible refine DK.st_if ?_))
      refine st_lenT hs h1 ?_
      (repeat (first | with_reducible refine qd ?_ | with_reducible refine ql ?_ | with_reducible refine qt ?_ | with_reducible refine qs ?_ | with_reducible refine fl ?_ | with_reducible refine ft ?_ | with_reducible refine fs ?_ | with_reducible refine fi ?_ | with_reducible refine fb ?_ | kp_flats | with_reducible refine DK.st_neBs ?_ | with_reducible refine DK.st_neBd1 ?_ | with_reducible refine DK.st_neBd2 ?_ | with_reducible refine DK.st_andV ?_ | with_reducible refine DK.st_andT ?_ | with_reducible refine DK.st_andF ?_ | with_reducible refine DK.st_or ?_ | with_reducible refine DK.st_if ?_))
      refine st_lenT hs h2 ?_
      (repeat (first | with_reducible refine qd ?_ | with_reducible refine ql ?_ | with_reducible refine qt ?_ | with_reducible refine qs ?_ | with_reducible refine fl ?_ | with_reducible refine ft ?_ | with_reducible refine fs ?_ | with_reducible refine fi ?_ | with_reducible refine fb ?_ | kp_flats | with_reducible refine DK.st_neBs ?_ | with_reducible refine DK.st_neBd1 ?_ | with_reducible refine DK.st_neBd2 ?_ | with_reducible refine DK.st_andV ?_ | with_reducible refine DK.st_andT ?_ | with_reducible refine DK.st_andF ?_ | with_reducible refine DK.st_or ?_ | with_reducible refine DK.st_if ?_))
      by_cases hl : ds.length = es.length
      · rw [decide_eq_true (by rw [hl])]
        (repeat (first | with_reducible refine qd ?_ | with_reducible refine ql ?_ | with_reducible refine qt ?_ | with_reducible refine qs ?_ | with_reducible refine fl ?_ | with_reducible refine ft ?_ | with_reducible refine fs ?_ | with_reducible refine fi ?_ | with_reducible refine fb ?_ | kp_flats | with_reducible refine DK.st_neBs ?_ | with_reducible refine DK.st_neBd1 ?_ | with_reducible refine DK.st_neBd2 ?_ | with_reducible refine DK.st_andV ?_ | with_reducible refine DK.st_andT ?_ | with_reducible refine DK.st_andF ?_ | with_reducible refine DK.st_or ?_ | with_reducible refine DK.st_if ?_))
        refine st_lc ?_
        refine st_zip ?_
        (repeat (first | with_reducible refine qd ?_ | with_reducible refine ql ?_ | with_reducible refine qt ?_ | with_reducible refine qs ?_ | with_reducible refine fl ?_ | with_reducible refine ft ?_ | with_reducible refine fs ?_ | with_reducible refine fi ?_ | with_reducible refine fb ?_ | kp_flats | with_reducible refine DK.st_neBs ?_ | with_reducible refine DK.st_neBd1 ?_ | with_reducible refine DK.st_neBd2 ?_ | with_reducible refine DK.st_andV ?_ | with_reducible refine DK.st_andT ?_ | with_reducible refine DK.st_andF ?_ | with_reducible refine DK.st_or ?_ | with_reducible refine DK.st_if ?_))
        simp only [dep] at z1 z2
        simp only [wid] at zw
        refine lc_ZT (e := fun d => d) (e' := fun d => d) (e2 := Dat.bl) (F := F) (by simpa using h1) (by simpa using h2) hs (zs := ds) (ys := es) (by omega) (two ds es n (by omega) (by omega) (by omega) hl) turn ?_
        intro L vs r F' H' t nL o rr hr
        obtain ⟨F2, t2, r2⟩ := own_fz (F := F') t.inn o rr
        refine sm_allL t2.inn r2 ?_
        rw [hr]
        have := k _ _ (t.trans t2 (sub_new nL sub_nil))
        simpa only [sameD] using this
      · rw [decide_eq_false (by intro z; exact hl (by omega))]
        (repeat (first | with_reducible refine qd ?_ | with_reducible refine ql ?_ | with_reducible refine qt ?_ | with_reducible refine qs ?_ | with_reducible refine fl ?_ | with_reducible refine ft ?_ | with_reducible refine fs ?_ | with_reducible refine fi ?_ | with_reducible refine fb ?_ | kp_flats | with_reducible refine DK.st_neBs ?_ | with_reducible refine DK.st_neBd1 ?_ | with_reducible refine DK.st_neBd2 ?_ | with_reducible refine DK.st_andV ?_ | with_reducible refine DK.st_andT ?_ | with_reducible refine DK.st_andF ?_ | with_reducible refine DK.st_or ?_ | with_reducible refine DK.st_if ?_))
        have e0 : sameD (.tup ds) (.tup es) = false := by simp only [sameD]; exact samesD_ne hl
        rw [e0] at k0
        exact k0
    · have e0 : sameD d (.tup es) = false := by cases d <;> first | exact absurd ⟨_, rfl⟩ hd | simp only [sameD]
      rw [e0] at k0
      by_cases hd2 : ∃ ds, d = .lst ds
      · obtain ⟨ds, rfl⟩ := hd2
        have fl : ∀ {Q : VK}, Q (.bl true) H → rIsi K [v_found, .ty "list"] H Q := fun k => q1 _ _ _ (show kitB "list" "list" = some true by decide +kernel) k
        (repeat (first | with_reducible refine qd ?_ | with_reducible refine ql ?_ | with_reducible refine qt ?_ | with_reducible refine qs ?_ | with_reducible refine fl ?_ | with_reducible refine ft ?_ | with_reducible refine fs ?_ | with_reducible refine fi ?_ | with_reducible refine fb ?_ | kp_flats | with_reducible refine DK.st_neBs ?_ | with_reducible refine DK.st_neBd1 ?_ | with_reducible refine DK.st_neBd2 ?_ | with_reducible refine DK.st_andV ?_ | with_reducible refine DK.st_andT ?_ | with_reducible refine DK.st_andF ?_ | with_reducible refine DK.st_or ?_ | with_reducible refine DK.st_if ?_))
        exact k0
      · have fl : ∀ {Q : VK}, Q (.bl false) H → rIsi K [v_found, .ty "list"] H Q := fun k => q1 _ _ _ (by cases d <;> first | (simp only [dep] at z1; omega) | (first | exact absurd ⟨_, rfl⟩ hd | exact absurd ⟨_, rfl⟩ hd2 | (simp only [tyN]; decide +kernel))) k
        have ft : ∀ {Q : VK}, Q (.bl false) H → rIsi K [v_found, .ty "tuple"] H Q := fun k => q1 _ _ _ (by cases d <;> first | (simp only [dep] at z1; omega) | (first | exact absurd ⟨_, rfl⟩ hd | exact absurd ⟨_, rfl⟩ hd2 | (simp only [tyN]; decide +kernel))) k
        (repeat (first | with_reducible refine qd ?_ | with_reducible refine ql ?_ | with_reducible refine qt ?_ | with_reducible refine qs ?_ | with_reducible refine fl ?_ | with_reducible refine ft ?_ | with_reducible refine fs ?_ | with_reducible refine fi ?_ | with_reducible refine fb ?_ | kp_flats | with_reducible refine DK.st_neBs ?_ | with_reducible refine DK.st_neBd1 ?_ | with_reducible refine DK.st_neBd2 ?_ | with_reducible refine DK.st_andV ?_ | with_reducible refine DK.st_andT ?_ | with_reducible refine DK.st_andF ?_ | with_reducible refine DK.st_or ?_ | with_reducible refine DK.st_if ?_))
        exact k0
  | str s =>
    have qd : ∀ {Q : VK}, Q (.bl false) H → rIsi K [v_due, .ty "dict"] H Q := fun k => q2 _ _ _ (show kitB "str" "dict" = some false by decide +kernel) k
    have ql : ∀ {Q : VK}, Q (.bl false) H → rIsi K [v_due, .ty "list"] H Q := fun k => q2 _ _ _ (show kitB "str" "list" = some false by decide +kernel) k
    have qt : ∀ {Q : VK}, Q (.bl false) H → rIsi K [v_due, .ty "tuple"] H Q := fun k => q2 _ _ _ (show kitB "str" "tuple" = some false by decide +kernel) k
    have qs : ∀ {Q : VK}, Q (.bl true) H → rIsi K [v_due, .ty "str"] H Q := fun k => q2 _ _ _ (show kitB "str" "str" = some true by decide +kernel) k
    by_cases hd : ∃ t, d = .str t
    · obtain ⟨t, rfl⟩ := hd
      have fs : ∀ {Q : VK}, Q (.bl true) H → rIsi K [v_found, .ty "str"] H Q := fun k => q1 _ _ _ (show kitB "str" "str" = some true by decide +kernel) k
      cases (show v_found = V.str t from h1)
      cases (show v_due = V.str s from h2)
      (repeat (first | with_reducible refine qd ?_ | with_reducible refine ql ?_ | with_reducible refine qt ?_ | with_reducible refine qs ?_ | with_reducible refine fl ?_ | with_reducible refine ft ?_ | with_reducible refine fs ?_ | with_reducible refine fi ?_ | with_reducible refine fb ?_ | kp_flats | with_reducible refine DK.st_neBs ?_ | with_reducible refine DK.st_neBd1 ?_ | with_reducible refine DK.st_neBd2 ?_ | with_reducible refine DK.st_andV ?_ | with_reducible refine DK.st_andT ?_ | with_reducible refine DK.st_andF ?_ | with_reducible refine DK.st_or ?_ | with_reducible refine DK.st_if ?_))
      refine st_eqS ?_
      simpa only [sameD] using k0
    · have fs : ∀ {Q : VK}, Q (.bl false) H → rIsi K [v_found, .ty "str"] H Q := fun k => q1 _ _ _ (by cases d <;> first | (simp only [dep] at z1; omega) | (first | exact absurd ⟨_, rfl⟩ hd | exact absurd ⟨_, rfl⟩ hd2 | (simp only [tyN]; decide +kernel))) k
      (repeat (first | with_reducible refine qd ?_ | with_reducible refine ql ?_ | with_reducible refine qt ?_ | with_reducible refine qs ?_ | with_reducible refine fl ?_ | with_reducible refine ft ?_ | with_reducible refine fs ?_ | with_reducible refine fi ?_ | with_reducible refine fb ?_ | kp_flats | with_reducible refine DK.st_neBs ?_ | with_reducible refine DK.st_neBd1 ?_ | with_reducible refine DK.st_neBd2 ?_ | with_reducible refine DK.st_andV ?_ | with_reducible refine DK.st_andT ?_ | with_reducible refine DK.st_andF ?_ | with_reducible refine DK.st_or ?_ | with_reducible refine DK.st_if ?_))
      have e0 : sameD d (.str s) = false := by cases d <;> first | exact absurd ⟨_, rfl⟩ hd | simp only [sameD]
      rw [e0] at k0
      exact k0
  | obj C ns es => simp only [dep] at z2; omega
  | exc C l => simp only [dep] at z2; omega
  | dct kvs => simp only [dep] at z2; omega
  | _ =>
    have dd : ∀ T, T = "dict" ∨ T = "list" ∨ T = "tuple" ∨ T = "str" → ∀ {Q : VK}, Q (.bl false) H → rIsi K [v_due, .ty T] H Q := fun T hT Q k => q2 _ _ _ (by rcases hT with rfl | rfl | rfl | rfl <;> first | (show kitB "NoneType" _ = _; decide +kernel) | (show kitB "bool" _ = _; decide +kernel) | (show kitB "int" _ = _; decide +kernel)) k
    have qd : ∀ {Q : VK}, Q (.bl false) H → rIsi K [v_due, .ty "dict"] H Q := fun k => dd _ (by simp) k
    have ql : ∀ {Q : VK}, Q (.bl false) H → rIsi K [v_due, .ty "list"] H Q := fun k => dd _ (by simp) k
    have qt : ∀ {Q : VK}, Q (.bl false) H → rIsi K [v_due, .ty "tuple"] H Q := fun k => dd _ (by simp) k
    have qs : ∀ {Q : VK}, Q (.bl false) H → rIsi K [v_due, .ty "str"] H Q := fun k => dd _ (by simp) k
    by_cases hd : ∃ i, d = .int i
    · obtain ⟨i, rfl⟩ := hd
      have fi : ∀ {Q : VK}, Q (.bl true) H → rIsi K [v_found, .ty "int"] H Q := fun k => q1 _ _ _ (show kitB "int" "int" = some true by decide +kernel) k
      have fb : ∀ {Q : VK}, Q (.bl false) H → rIsi K [v_found, .ty "bool"] H Q := fun k => q1 _ _ _ (show kitB "int" "bool" = some false by decide +kernel) k
      (repeat (first | with_reducible refine qd ?_ | with_reducible refine ql ?_ | with_reducible refine qt ?_ | with_reducible refine qs ?_ | with_reducible refine fl ?_ | with_reducible refine ft ?_ | with_reducible refine fs ?_ | with_reducible refine fi ?_ | with_reducible refine fb ?_ | kp_flats | with_reducible refine DK.st_neBs ?_ | with_reducible refine DK.st_neBd1 ?_ | with_reducible refine DK.st_neBd2 ?_ | with_reducible refine DK.st_andV ?_ | with_reducible refine DK.st_andT ?_ | with_reducible refine DK.st_andF ?_ | with_reducible refine DK.st_or ?_ | with_reducible refine DK.st_if ?_))
      refine sm_eqD hs h1 h2 ⟨by simp only [noS], by simp only [dep]; omega⟩ ⟨by simp only [noS], by simp only [dep]; omega⟩ ?_
      simpa only [sameD] using k0
    · have e0 : ∀ e', (∀ es, e' ≠ .lst es) → (∀ es, e' ≠ .tup es) → (∀ s, e' ≠ .str s) → sameD d e' = false := by
        intro e' a b c
        cases e' <;> cases d <;> first | exact absurd ⟨_, rfl⟩ hd | exact absurd rfl (a _) | exact absurd rfl (b _) | exact absurd rfl (c _) | simp only [sameD]
      rw [e0 _ (by intro _ z; cases z) (by intro _ z; cases z) (by intro _ z; cases z)] at k0
      by_cases hd2 : ∃ i, d = .bl i
      · obtain ⟨i, rfl⟩ := hd2
        have fi : ∀ {Q : VK}, Q (.bl true) H → rIsi K [v_found, .ty "int"] H Q := fun k => q1 _ _ _ (show kitB "bool" "int" = some true by decide +kernel) k
        have fb : ∀ {Q : VK}, Q (.bl true) H → rIsi K [v_found, .ty "bool"] H Q := fun k => q1 _ _ _ (show kitB "bool" "bool" = some true by decide +kernel) k
        (repeat (first | with_reducible refine qd ?_ | with_reducible refine ql ?_ | with_reducible refine qt ?_ | with_reducible refine qs ?_ | with_reducible refine fl ?_ | with_reducible refine ft ?_ | with_reducible refine fs ?_ | with_reducible refine fi ?_ | with_reducible refine fb ?_ | kp_flats | with_reducible refine DK.st_neBs ?_ | with_reducible refine DK.st_neBd1 ?_ | with_reducible refine DK.st_neBd2 ?_ | with_reducible refine DK.st_andV ?_ | with_reducible refine DK.st_andT ?_ | with_reducible refine DK.st_andF ?_ | with_reducible refine DK.st_or ?_ | with_reducible refine DK.st_if ?_))
        exact k0
      · have fi : ∀ {Q : VK}, Q (.bl false) H → rIsi K [v_found, .ty "int"] H Q := fun k => q1 _ _ _ (by cases d <;> first | (simp only [dep] at z1; omega) | (first | exact absurd ⟨_, rfl⟩ hd | exact absurd ⟨_, rfl⟩ hd2 | (simp only [tyN]; decide +kernel))) k
        (repeat (first | with_reducible refine qd ?_ | with_reducible refine ql ?_ | with_reducible refine qt ?_ | with_reducible refine qs ?_ | with_reducible refine fl ?_ | with_reducible refine ft ?_ | with_reducible refine fs ?_ | with_reducible refine fi ?_ | with_reducible refine fb ?_ | kp_flats | with_reducible refine DK.st_neBs ?_ | with_reducible refine DK.st_neBd1 ?_ | with_reducible refine DK.st_neBd2 ?_ | with_reducible refine DK.st_andV ?_ | with_reducible refine DK.st_andT ?_ | with_reducible refine DK.st_andF ?_ | with_reducible refine DK.st_or ?_ | with_reducible refine DK.st_if ?_))
        exact k0
theorem okn_law_same (T : TX K mg)  : ∀ n : Nat, CalOk P w K mg base "_law_same" (1 + n) (["_law_found", "_law_due"] : List Str) (spn_law_same n K)
  | 0 => T.cal 8 21 (d := d_law_same) rfl rfl rfl rfl rfl sc_law_same (len_law_same _) (fun _ _ _ _ _ _ _ us hl => match us, hl with | [_, _], _ => rfl) (fun cdv A outer s H vs Q E hr h => (spz_law_same vs H Q E h).elim)
  | n + 1 => have c_self := okn_law_same T  n
    T.cal (k := 1 + n) 8 21 (d := d_law_same) rfl rfl rfl rfl rfl sc_law_same (len_law_same _) (fun _ _ _ _ _ _ _ us hl => match us, hl with | [_, _], _ => rfl) (fun cdv A outer s H vs Q E hr h => ⟨t_law_same (spn_law_same n K) K E, (by exact (pss_cons (ps_if (pt_val (pe_callB call_isi (by rfl) (T.free 5) (by decide +kernel) (pa_cons (pv 1) (pa_cons (pe_bltn (v := .ty "dict") rfl (T.free 4) (by decide +kernel) rfl) pa_nil)))) (pss_cons (ps_if (PW.pt (pw_or (pt_not (pt_val (pe_callB call_isi (by rfl) (T.free 5) (by decide +kernel) (pa_cons (pv 0) (pa_cons (pe_bltn (v := .ty "dict") rfl (T.free 4) (by decide +kernel) rfl) pa_nil))))) (pw_or1 (pt_cmpR (op_neU hr.units) (pe_callB call_lenU (by rfl) (T.free 3) (by decide +kernel) (pa_cons (pv 0) pa_nil)) (pe_callB call_lenU (by rfl) (T.free 3) (by decide +kernel) (pa_cons (pv 1) pa_nil)) (nomark _))))) (pss_one (ps_ret pe_bl)) pss_nil)
  (pss_one (ps_ret (pe_callB (cr_all (by rfl)) (by rfl) (T.free 6) (by decide +kernel) (pa_cons (pe_lc (own := [("_law_name", 2)]) (g := (gName 2)) (tt := tYes) (te := (tAndV (tOp (rInU K false) (tVar 2) (tVar 0)) (tCall (spn_law_same n K) [] E0 (tCons (tOp (rIxU K) (tVar 0) (tVar 2)) (tCons (tOp (rIxU K) (tVar 1) (tVar 2)) tNil))))) (by rfl) sc_law_same.nd (pi_seq (pv 1)) (blkOk_by (own := [("_law_name", 2)]) (by rfl)) (fun _ _ _ _ _ => (pg_name (i := 2) sc_law_same.nd rfl (by first | exact Or.inl rfl | exact Or.inr rfl))) (fun _ _ _ _ _ => pts_nil) (fun _ _ _ _ _ => (pe_and (pe_cmpR (op_inU hr.units) (pv 2) (pv 0) (by rfl)) (pe_one (pe_callC c_self (hr.mono (by omega)) rfl passLN (pa_cons (pe_ix ix_U (pv 0) (pv 2) (fun _ _ => rfl)) (pa_cons (pe_ix ix_U (pv 1) (pv 2) (fun _ _ => rfl)) pa_nil))))))) pa_nil))))) pss_nil)
  (pss_cons (ps_if (PW.pt (pw_or (pt_val (pe_callB call_isi (by rfl) (T.free 5) (by decide +kernel) (pa_cons (pv 1) (pa_cons (pe_bltn (v := .ty "list") rfl (T.free 7) (by decide +kernel) rfl) pa_nil)))) (pw_or1 (pt_val (pe_callB call_isi (by rfl) (T.free 5) (by decide +kernel) (pa_cons (pv 1) (pa_cons (pe_bltn (v := .ty "tuple") rfl (T.free 8) (by decide +kernel) rfl) pa_nil))))))) (pss_cons (ps_if (PW.pt (pw_or (pt_cmpR (op_neU hr.units) (pe_callB call_isi (by rfl) (T.free 5) (by decide +kernel) (pa_cons (pv 0) (pa_cons (pe_bltn (v := .ty "list") rfl (T.free 7) (by decide +kernel) rfl) pa_nil))) (pe_callB call_isi (by rfl) (T.free 5) (by decide +kernel) (pa_cons (pv 1) (pa_cons (pe_bltn (v := .ty "list") rfl (T.free 7) (by decide +kernel) rfl) pa_nil))) (nomark _)) (pw_or1 (pt_cmpR (op_neU hr.units) (pe_callB call_isi (by rfl) (T.free 5) (by decide +kernel) (pa_cons (pv 0) (pa_cons (pe_bltn (v := .ty "tuple") rfl (T.free 8) (by decide +kernel) rfl) pa_nil))) (pe_callB call_isi (by rfl) (T.free 5) (by decide +kernel) (pa_cons (pv 1) (pa_cons (pe_bltn (v := .ty "tuple") rfl (T.free 8) (by decide +kernel) rfl) pa_nil))) (nomark _))))) (pss_one (ps_ret pe_bl)) pss_nil)
  (pss_one (ps_ret (pe_and (pe_cmpR (op_eqU hr.units) (pe_callB call_lenU (by rfl) (T.free 3) (by decide +kernel) (pa_cons (pv 0) pa_nil)) (pe_callB call_lenU (by rfl) (T.free 3) (by decide +kernel) (pa_cons (pv 1) pa_nil)) (nomark _)) (pe_one (pe_callB (cr_all (by rfl)) (by rfl) (T.free 6) (by decide +kernel) (pa_cons (pe_lc (own := [("_law_one", 3), ("_law_other", 4)]) (g := (gTupU K 2 (gCons (gName 3) (gCons (gName 4) gNil)))) (tt := tYes) (te := (tCall (spn_law_same n K) [] E0 (tCons (tVar 3) (tCons (tVar 4) tNil)))) (by rfl) sc_law_same.nd (pi_zipU rfl (T.free 9) (pa_cons (pv 0) (pa_cons (pv 1) pa_nil))) (blkOk_by (own := [("_law_one", 3), ("_law_other", 4)]) (by rfl)) (fun _ _ _ _ _ => (pg_tupU (by rfl) (pgs_cons (pg_name (i := 3) sc_law_same.nd rfl (by first | exact Or.inl rfl | exact Or.inr rfl)) (pgs_cons (pg_name (i := 4) sc_law_same.nd rfl (by first | exact Or.inl rfl | exact Or.inr rfl)) pgs_nil)))) (fun _ _ _ _ _ => pts_nil) (fun _ _ _ _ _ => (pe_callC c_self (hr.mono (by omega)) rfl passLN (pa_cons (pv 3) (pa_cons (pv 4) pa_nil))))) pa_nil))))))) pss_nil)
  (pss_cons (ps_if (pt_val (pe_callB call_isi (by rfl) (T.free 5) (by decide +kernel) (pa_cons (pv 1) (pa_cons (pe_bltn (v := .ty "str") rfl (T.free 10) (by decide +kernel) rfl) pa_nil)))) (pss_one (ps_ret (pe_and (pe_callB call_isi (by rfl) (T.free 5) (by decide +kernel) (pa_cons (pv 0) (pa_cons (pe_bltn (v := .ty "str") rfl (T.free 10) (by decide +kernel) rfl) pa_nil))) (pe_one (pe_cmpR (op_eqU hr.units) (pv 0) (pv 1) (nomark _)))))) pss_nil)
  (pss_one (ps_ret (pe_and (pe_callB call_isi (by rfl) (T.free 5) (by decide +kernel) (pa_cons (pv 0) (pa_cons (pe_bltn (v := .ty "int") rfl (T.free 11) (by decide +kernel) rfl) pa_nil))) (pe_and (pe_not (pe_callB call_isi (by rfl) (T.free 5) (by decide +kernel) (pa_cons (pv 0) (pa_cons (pe_bltn (v := .ty "bool") rfl (T.free 12) (by decide +kernel) rfl) pa_nil)))) (pe_one (pe_cmpR (op_eqU hr.units) (pv 0) (pv 1) (nomark _))))))))))), pure_law_same T n vs H Q E h⟩)
theorem ok_law_same (T : TX K mg)  : CalOk P w K mg base "_law_same" 9 (["_law_found", "_law_due"] : List Str) (sp_law_same K) := okn_law_same T  8
end
end Dot
namespace Dot
open PySem PySem.Spec PyProof.Rows L2 DK
def m_law_walks (z_cells : (List (Int × Int))) (z_side : Int) : Rs (Bool) :=
Rs.thn (grd (rngOk 1 (z_cells.length : Int) = true) <| forR (R := Bool) (fun (_ : Unit) (y1 : Int) =>
(ixR z_cells (y1 - 1)).bnd fun x1 =>
(ixR z_cells y1).bnd fun x2 =>
if (((x1.1 - x2.1).natAbs : Int) + ((x1.2 - x2.2).natAbs : Int)) = 1 then (.ok (.nx ())) else (.ok (.rt false))) (rngI 1 (z_cells.length : Int)) ()) (fun _ =>
Rs.bnd (grd (mulOk z_side z_side = true) <| if (z_cells.length : Int) = (z_side * z_side) then (grd (okSet z_cells = true) <| if (z_cells.length : Int) = (z_cells.length : Int) then ((ixR z_cells ((z_cells.length : Int) - 1)).bnd fun x3 =>
.ok ((datEq ((eP Dat.int Dat.int) x3) ((eP Dat.int Dat.int) (0, (z_side - 1)))))) else (.ok false)) else (.ok false) : Rs Bool) fun b1 =>
.ok (b1)) (fun r => .ok r)
def sp_law_walks (K : PySem.W.Frag) : Sp := fun vs H Q E => ∃ (v_cells v_side : V), vs = [v_cells, v_side] ∧ (∃ (F : Hp) (z_cells : (List (Int × Int))) (z_side : Int), Same F H ∧ RD F ((eL (eP Dat.int Dat.int)) z_cells) v_cells ∧ v_side = (V.int z_side) ∧ Post (m_law_walks z_cells z_side) (fun r => ∀ F' H', Stp [] F H F' H' → Q (V.bl r) H') (fun c l => ∀ Fx Hx dx, Stp [] F H Fx Hx → ExD Fx l dx → E (.ref (He.ga K c.nm)) dx Hx))
theorem len_law_walks {K : PySem.W.Frag} : ∀ vs H Q E, sp_law_walks K vs H Q E → vs.length = ((["_law_cells", "_law_side"] : List Str)).length := fun vs H Q E h => by
  obtain ⟨_, _, rfl, _⟩ := h
  rfl
def t_law_walks (K : PySem.W.Frag) (E : XK) : TS :=
  (tSeq (tFor (iRng2 (tCons (tC (.int 1)) (tCons (tCB (rLenU K) (tCons (tVar 0) tNil)) tNil))) (gName 2) (tSeq (tAsg (tOp (rIxU K) (tVar 0) (tOp rSubI (tVar 2) (tC (.int 1)))) (gName 3))
  (tSeq (tAsg (tOp (rIxU K) (tVar 0) (tVar 2)) (gName 4))
  (tIfS (tTest (tOp (rNeU K) (tOp (rAddU K) (tCB rAbsI (tCons (tOp rSubI (tOp (rIxU K) (tVar 3) (tC (.int 0))) (tOp (rIxU K) (tVar 4) (tC (.int 0)))) tNil)) (tCB rAbsI (tCons (tOp rSubI (tOp (rIxU K) (tVar 3) (tC (.int 1))) (tOp (rIxU K) (tVar 4) (tC (.int 1)))) tNil))) (tC (.int 1)))) (tRet (tC (.bl false))) tNext))))
  (tRet (tAndV (tOp (rEqU K) (tCB (rLenU K) (tCons (tVar 0) tNil)) (tOp rMulU (tVar 1) (tVar 1))) (tAndV (tOp (rEqU K) (tLenSetT K (tVar 0)) (tCB (rLenU K) (tCons (tVar 0) tNil))) (tOp (rEqU K) (tOp (rIxU K) (tVar 0) (tOp rSubI (tCB (rLenU K) (tCons (tVar 0) tNil)) (tC (.int 1)))) (tTup (tCons (tC (.int 0)) (tCons (tOp rSubI (tVar 1) (tC (.int 1))) tNil))))))))
section
variable {P : Program} {w : World} {K : PySem.W.Frag} {mg : Str → Option Value} {base : Heap}
theorem pure_law_walks (T : TX K mg) (vs : List V) (H : Hp) (Q : VK) (E : XK) (h : sp_law_walks K vs H Q E) : t_law_walks K E { nx := fun _ H' => Q .non H', rt := Q } (start n_law_walks vs) H := by
  obtain ⟨v_cells, v_side, rfl, h⟩ := h
  change t_law_walks K E _ [some v_cells, some v_side, none, none, none] H
  unfold t_law_walks
  obtain ⟨F, z_cells, z_side, e0, hr1, rfl, h⟩ := h
  unfold m_law_walks at h
  dl_open
  (with_reducible refine cutF h (fun (s : Unit) σ' H' => ∃ F', ∃ (oj_0 : Option V) (oj_1 : Option V) (oj_2 : Option V), Stp [] F H F' H' ∧ σ' = [some v_cells, some (V.int z_side), oj_2, oj_0, oj_1]) ?_ ?_) <;> clear h
  · intro nx1 kk1 h
    refine st_for ?_
    dl_open
    dl_open
    refine st_lenM (f := (eP Dat.int Dat.int)) (F := F) (by lcg_src) (by kqd_all) ?_
    dl_open
    replace h := h.g
    obtain ⟨g1, h⟩ := h
    refine fr_R2 g1 h (fun (s : Unit) σ' H' => ∃ F', ∃ (oj_0 : Option V) (oj_1 : Option V) (oj_2 : Option V), Stp [] F H F' H' ∧ σ' = [some v_cells, some (V.int z_side), oj_2, oj_0, oj_1]) ⟨F, _, _, _, Stp.refl (by lcg_src), rfl⟩ ?_ (by intro s_k σ_k H_k q_k p_k; replace p_k := Ctl.nx_of p_k; exact kk1 s_k σ_k H_k q_k p_k)
    clear h
    rintro y1 rest1 _ σ_ H1 ⟨F1, o_1, o_2, o_3, s1, rfl⟩ h
    try dsimp only at h
    dl_open
    dl_open
    dl_open
    replace h := h.ix
    obtain ⟨x1, hx1, h⟩ := h
    refine sm_ixL (e := (eP Dat.int Dat.int)) (F := F1) (by lcg_src) (by kqd_all) hx1 ?_
    intro u2 r2
    have r2 : RD F1 ((eP Dat.int Dat.int) x1) u2 := r2
    dl_open
    dl_open
    replace h := h.ix
    obtain ⟨x2, hx2, h⟩ := h
    refine sm_ixL (e := (eP Dat.int Dat.int)) (F := F1) (by lcg_src) (by kqd_all) hx2 ?_
    intro u3 r3
    have r3 : RD F1 ((eP Dat.int Dat.int) x2) u3 := r3
    dl_open
    dl_open
    with_reducible refine DK.st_if ?_
    dl_open
    dl_open
    refine st_ixT (F := F1) (by lcg_src) (by kqd_all) (d := Dat.int x1.1) rfl ?_
    intro u4 r4
    cases (show u4 = (V.int x1.1) from r4)
    dl_open
    refine st_ixT (F := F1) (by lcg_src) (by kqd_all) (d := Dat.int x2.1) rfl ?_
    intro u5 r5
    cases (show u5 = (V.int x2.1) from r5)
    dl_open
    dl_open
    refine sm_abs ?_
    dl_open
    refine st_ixT (F := F1) (by lcg_src) (by kqd_all) (d := Dat.int x1.2) rfl ?_
    intro u6 r6
    cases (show u6 = (V.int x1.2) from r6)
    dl_open
    refine st_ixT (F := F1) (by lcg_src) (by kqd_all) (d := Dat.int x2.2) rfl ?_
    intro u7 r7
    cases (show u7 = (V.int x2.2) from r7)
    dl_open
    dl_open
    refine sm_abs ?_
    dl_open
    dl_open
    dl_open
    (refine brN h ?_ ?_) <;> clear h <;> intro c1 h
    · dl_open
      dl_open
      dl_open
      exact h F1 H1 (by kas_types)
    · dl_open
      dl_open
      exact ⟨(), ⟨F1, _, _, _, by kas_types, rfl⟩, h.onx⟩
  · rintro _ σ_ H2 ⟨F2, o_4, o_5, o_6, s2, rfl⟩ h
    try dsimp only at h
    dl_open
    dl_open
    (refine cutB F2 H2 h ?_ ?_) <;> clear h
    · intro Qkk2 kk2 h
      refine st_andV ?_
      dl_open
      refine st_lenM (f := (eP Dat.int Dat.int)) (F := F2) (by lcg_src) (by kqd_all) ?_
      dl_open
      replace h := h.g
      obtain ⟨g2, h⟩ := h
      refine st_mul (mulOk.c g2) ?_
      dl_open
      dl_open
      (refine brP h ?_ ?_) <;> clear h <;> intro c2 h
      · dl_open
        refine st_andV ?_
        dl_open
        refine st_lenSet ?_
        dl_open
        dl_open
        replace h := h.g
        obtain ⟨g3, h⟩ := h
        refine sm_lenSet (F := F2) (by lcg_src) (by kqd_all) g3 ?_
        dl_open
        refine st_lenM (f := (eP Dat.int Dat.int)) (F := F2) (by lcg_src) (by kqd_all) ?_
        dl_open
        dl_open
        (refine brP h ?_ ?_) <;> clear h <;> intro c3 h
        · dl_open
          dl_open
          refine st_lenM (f := (eP Dat.int Dat.int)) (F := F2) (by lcg_src) (by kqd_all) ?_
          dl_open
          dl_open
          replace h := h.ix
          obtain ⟨x3, hx3, h⟩ := h
          refine sm_ixL (e := (eP Dat.int Dat.int)) (F := F2) (by lcg_src) (by kqd_all) hx3 ?_
          intro u8 r8
          have r8 : RD F2 ((eP Dat.int Dat.int) x3) u8 := r8
          dl_open
          dl_open
          refine newT (by simp) (F := F2) (by lcg_src) (ds := [Dat.int 0, Dat.int (z_side - 1)]) (by nest_cls) ?_
          intro u9 F4 H4 s4 r9
          have r9 : RD F4 ((eP Dat.int Dat.int) (0, (z_side - 1))) u9 := r9
          dl_open
          refine sm_eqD (F := F4) (d := (eP Dat.int Dat.int) x3) (d' := (eP Dat.int Dat.int) (0, (z_side - 1))) (by lcg_src) (by kqd_all) (by kqd_all) ((PlE.eP PlE.int PlE.int).pl (by decide) _) ((PlE.eP PlE.int PlE.int).pl (by decide) _) ?_
          dl_open
          exact kk2 _ F4 H4 (by kas_types) h
        · try dl_open
          exact kk2 _ F2 H2 (by kas_types) h
      · try dl_open
        exact kk2 _ F2 H2 (by kas_types) h
    intro b1 F3 H3 s3 h
    dl_open
    exact h F3 H3 (by kas_types)
theorem ok_law_walks (T : TX K mg)  : CalOk P w K mg base "_law_walks" 1 (["_law_cells", "_law_side"] : List Str) (sp_law_walks K) :=
  T.cal 10 23 (d := d_law_walks) rfl rfl rfl rfl rfl sc_law_walks (len_law_walks) (fun _ _ _ _ _ _ _ us hl => match us, hl with | [_, _], _ => rfl) (fun cdv A outer s H vs Q E hr h => ⟨t_law_walks K E, (by exact (pss_cons (ps_for (passes_of rfl) rfl (pi_range2 rfl (T.free 2) (pa_cons pe_int (pa_cons (pe_callB call_lenU (by rfl) (T.free 3) (by decide +kernel) (pa_cons (pv 0) pa_nil)) pa_nil))) (pg_name (i := 2) sc_law_walks.nd rfl (by first | exact Or.inl rfl | exact Or.inr rfl)) (pss_cons (ps_set (i := 3) sc_law_walks.nd rfl (by first | exact Or.inl rfl | exact Or.inr rfl) (pe_ix ix_U (pv 0) (pe_op op_sub (pv 2) pe_int) (fun _ _ => rfl)))
  (pss_cons (ps_set (i := 4) sc_law_walks.nd rfl (by first | exact Or.inl rfl | exact Or.inr rfl) (pe_ix ix_U (pv 0) (pv 2) (fun _ _ => rfl)))
  (pss_one (ps_if (pt_cmpR (op_neU hr.units) (pe_op op_addU (pe_callB call_abs (by rfl) (T.free 13) (by decide +kernel) (pa_cons (pe_op op_sub (pe_ix ix_U (pv 3) pe_int (fun _ _ => rfl)) (pe_ix ix_U (pv 4) pe_int (fun _ _ => rfl))) pa_nil)) (pe_callB call_abs (by rfl) (T.free 13) (by decide +kernel) (pa_cons (pe_op op_sub (pe_ix ix_U (pv 3) pe_int (fun _ _ => rfl)) (pe_ix ix_U (pv 4) pe_int (fun _ _ => rfl))) pa_nil))) pe_int (nomark _)) (pss_one (ps_ret pe_bl)) pss_nil)))))
  (pss_one (ps_ret (pe_and (pe_cmpR (op_eqU hr.units) (pe_callB call_lenU (by rfl) (T.free 3) (by decide +kernel) (pa_cons (pv 0) pa_nil)) (pe_op op_mulU (pv 1) (pv 1)) (nomark _)) (pe_and (pe_cmpR (op_eqU hr.units) (pe_lenSetT rfl hr.units (by rfl) (T.free 3) (by rfl) (T.free 14) (pv 0)) (pe_callB call_lenU (by rfl) (T.free 3) (by decide +kernel) (pa_cons (pv 0) pa_nil)) (nomark _)) (pe_one (pe_cmpR (op_eqU hr.units) (pe_ix ix_U (pv 0) (pe_op op_sub (pe_callB call_lenU (by rfl) (T.free 3) (by decide +kernel) (pa_cons (pv 0) pa_nil)) pe_int) (fun _ _ => rfl)) (pe_tup (pa_cons pe_int (pa_cons (pe_op op_sub (pv 1) pe_int) pa_nil))) (nomark _))))))))), pure_law_walks T vs H Q E h⟩)
end
end Dot
namespace Dot
open PySem PySem.Spec PyProof.Rows L2 DK
def m_ask_size (z_rows : Int) (z_columns : Int) : Rs (Unit) :=
Rs.bnd (if z_rows < 1 then (.ok true) else (.ok (decide (z_columns < 1))) : Rs Bool) fun b1 =>
if b1 = true then (.exc .out none) else (.ok ())
def sp_ask_size (K : PySem.W.Frag) : Sp := fun vs H Q E => ∃ (v_rows v_columns : V), vs = [v_rows, v_columns] ∧ (∃ (F : Hp) (z_rows : Int) (z_columns : Int), Same F H ∧ v_rows = (V.int z_rows) ∧ v_columns = (V.int z_columns) ∧ Post (m_ask_size z_rows z_columns) (fun r => ∀ F' H', Stp [] F H F' H' → Q V.non H') (fun c l => ∀ Fx Hx dx, Stp [] F H Fx Hx → ExD Fx l dx → E (.ref (He.ga K c.nm)) dx Hx))
theorem len_ask_size {K : PySem.W.Frag} : ∀ vs H Q E, sp_ask_size K vs H Q E → vs.length = ((["rows", "columns"] : List Str)).length := fun vs H Q E h => by
  obtain ⟨_, _, rfl, _⟩ := h
  rfl
def t_ask_size (K : PySem.W.Frag) (E : XK) : TS :=
  (tIfS (tOr (tTest (tOp rLtI (tVar 0) (tC (.int 1)))) (tTest (tOp rLtI (tVar 1) (tC (.int 1))))) (tRaiseC (He.ga K "OutOfPicture") (fun cls d _ H => E cls d H)) tNext)
section
variable {P : Program} {w : World} {K : PySem.W.Frag} {mg : Str → Option Value} {base : Heap}
theorem pure_ask_size (T : TX K mg) (vs : List V) (H : Hp) (Q : VK) (E : XK) (h : sp_ask_size K vs H Q E) : t_ask_size K E { nx := fun _ H' => Q .non H', rt := Q } (start n_ask_size vs) H := by
  obtain ⟨v_rows, v_columns, rfl, h⟩ := h
  change t_ask_size K E _ [some v_rows, some v_columns] H
  unfold t_ask_size
  obtain ⟨F, z_rows, z_columns, e0, rfl, rfl, h⟩ := h
  unfold m_ask_size at h
  dl_open
  with_reducible refine DK.st_if ?_
  dl_open
  dl_open
  (refine cutT F H h ?_ ?_) <;> clear h
  · intro Qkk1 kk1 h
    refine st_or ?_
    dl_open
    dl_open
    (refine brP h ?_ ?_) <;> clear h <;> intro c1 h
    · try dl_open
      exact kk1 _ F H (by kas_types) h
    · dl_open
      dl_open
      dl_open
      exact kk1 _ F H (by kas_types) h
  intro b1 F1 H1 s1 h
  dl_open
  (refine brB h ?_ ?_) <;> clear h <;> intro c2 h
  · dl_open
    dl_open
    exact h F1 H1 none (by kas_types) rfl
  · dl_open
    dl_open
    exact h F1 H1 (by kas_types)
theorem ok_ask_size (T : TX K mg)  : CalOk P w K mg base "ask_size" 1 (["rows", "columns"] : List Str) (sp_ask_size K) :=
  T.cal 1 18 (d := d_ask_size) rfl rfl rfl rfl rfl sc_ask_size (len_ask_size) (fun _ _ _ _ _ _ _ us hl => match us, hl with | [_, _], _ => rfl) (fun cdv A outer s H vs Q E hr h => ⟨t_ask_size K E, (by exact (pss_one (ps_if (PW.pt (pw_or (pt_cmpR op_lt (pv 0) pe_int (nomark _)) (pw_or1 (pt_cmpR op_lt (pv 1) pe_int (nomark _))))) (pss_one (ps_raiseC rfl (L2N.takes_of rfl rfl rfl rfl) (T.exc 0) (T.glo 1))) pss_nil))), pure_ask_size T vs H Q E h⟩)
end
end Dot
namespace Dot
open PySem PySem.Spec PyProof.Rows L2 DK
def m_Way_order (z_self : Unit) (z_rows : Int) (z_columns : Int) : Rs ((List (Int × Int))) :=
(m_ask_size z_rows z_columns).bnd fun x1 =>
grd (mulOk z_rows z_columns = true) <| grd (rngOk 0 (z_rows * z_columns) = true) <| grd ((((z_rows * z_columns) : Int) - 0).toNat ≤ 1000000) <| (mapR (fun (y1 : Int) =>
 grd (divOk z_columns = true) <| grd ((0 : Int) < z_columns) <| .ok (some ((y1 / z_columns), (y1 % z_columns)))) (rngI 0 (z_rows * z_columns))).bnd fun x2 =>
.ok (x2)
def sp_Way_order (K : PySem.W.Frag) : Sp := fun vs H Q E => ∃ (v_self v_rows v_columns : V), vs = [v_self, v_rows, v_columns] ∧ (∃ (F : Hp) (z_self : Unit) (z_rows : Int) (z_columns : Int), Same F H ∧ RD F ((e_Way K) z_self) v_self ∧ v_rows = (V.int z_rows) ∧ v_columns = (V.int z_columns) ∧ Post (m_Way_order z_self z_rows z_columns) (fun r => ∀ F' H', Stp [] F H F' H' → ∀ L vs, Fre H L → Own F' H' L (.lst vs) → RDs F' (List.map (eP Dat.int Dat.int) r) vs → Q (.ref L) H') (fun c l => ∀ Fx Hx dx, Stp [] F H Fx Hx → ExD Fx l dx → E (.ref (He.ga K c.nm)) dx Hx))
theorem len_Way_order {K : PySem.W.Frag} : ∀ vs H Q E, sp_Way_order K vs H Q E → vs.length = ((["self", "rows", "columns"] : List Str)).length := fun vs H Q E h => by
  obtain ⟨_, _, _, rfl, _⟩ := h
  rfl
def t_Way_order (K : PySem.W.Frag) (E : XK) : TS :=
  (tSeq (tDrop (tCall (sp_ask_size K) [] E (tCons (tVar 1) (tCons (tVar 2) tNil))))
  (tRet (tLc (iRng1 (tCons (tOp rMulU (tVar 1) (tVar 2)) tNil)) (gName 3) tYes (tTup (tCons (tOp rDivU (tVar 3) (tVar 2)) (tCons (tOp rModI (tVar 3) (tVar 2)) tNil))) [3])))
section
variable {P : Program} {w : World} {K : PySem.W.Frag} {mg : Str → Option Value} {base : Heap}
theorem pure_Way_order (T : TX K mg) (vs : List V) (H : Hp) (Q : VK) (E : XK) (h : sp_Way_order K vs H Q E) : t_Way_order K E { nx := fun _ H' => Q .non H', rt := Q } (start n_Way_order vs) H := by
  obtain ⟨v_self, v_rows, v_columns, rfl, h⟩ := h
  change t_Way_order K E _ [some v_self, some v_rows, some v_columns, none] H
  unfold t_Way_order
  obtain ⟨F, z_self, z_rows, z_columns, e0, hr1, rfl, rfl, h⟩ := h
  unfold m_Way_order at h
  dl_open
  refine ⟨_, _, rfl, F, z_rows, z_columns, by lcg_src, rfl, rfl, h.b.mono2 ?_ (fun c_ l_ hx_ Fx_ Hx_ dx_ sx_ ex_ => by exact hx_ Fx_ Hx_ dx_ (by kas_types) ex_)⟩
  clear h
  intro x1 h F1 H1 s1
  dl_open
  dl_open
  dl_open
  refine st_lc ?_
  dl_open
  dl_open
  replace h := h.g
  obtain ⟨g1, h⟩ := h
  refine st_mul (mulOk.c g1) ?_
  dl_open
  replace h := h.g
  obtain ⟨g3, h⟩ := h
  replace h := h.g
  obtain ⟨g2, h⟩ := h
  (refine lc_R1 (e2 := (eP Dat.int Dat.int)) (F := F1) g3 (by lcg_src) g2 h.b ?_ ?_) <;> clear h
  · intro y1 F2 H2 s2 PN1 NY1 NN1 kY1 kN1 h
    dl_open
    dl_open
    refine ⟨rfl, ?_⟩
    dl_open
    dl_open
    replace h := h.g
    obtain ⟨g4, h⟩ := h
    refine st_div (divOk.c g4) ?_
    dl_open
    replace h := h.g
    obtain ⟨g5, h⟩ := h
    refine st_mod g5 ?_
    dl_open
    refine newT (by simp) (F := F2) (by lcg_src) (ds := [Dat.int (y1 / z_columns), Dat.int (y1 % z_columns)]) (by nest_cls) ?_
    intro u3 F3 H3 s3 r2
    have r2 : RD F3 ((eP Dat.int Dat.int) ((y1 / z_columns), (y1 % z_columns))) u3 := r2
    dl_open
    exact kY1 _ _ F3 H3 (by kas_types) (by kqd_all) h
  intro L1 w1 x2 F4 H4 s4 n1 o1 r3 h
  dl_open
  exact h F4 H4 (by kas_types) _ _ (by k_subL) (by kat_tups) (by nest_cls)
theorem okm_Way_order (T : TX K mg) (c_ask_size : CalOk P w K mg base "ask_size" 1 (["rows", "columns"] : List Str) (sp_ask_size K)) : MetOk P w K mg base "Way" "order" 2 (["self", "rows", "columns"] : List Str) (sp_Way_order K) :=
  T.met 3 28 30 (d := d_Way_order) rfl rfl rfl rfl rfl rfl sc_Way_order (len_Way_order) (fun _ _ _ _ _ _ _ us hl => match us, hl with | [_, _, _], _ => rfl) (fun cdv A outer s H vs Q E hr h => ⟨t_Way_order K E, (by exact (pss_cons (ps_expr (pe_callC c_ask_size (hr.mono (by decide)) rfl (L2N.passes_call (L2N.takes_of rfl rfl rfl rfl) (fun _ _ _ _ h => h)) (pa_cons (pv 1) (pa_cons (pv 2) pa_nil))))
  (pss_one (ps_ret (pe_lc (own := [("place", 3)]) (g := (gName 3)) (tt := tYes) (te := (tTup (tCons (tOp rDivU (tVar 3) (tVar 2)) (tCons (tOp rModI (tVar 3) (tVar 2)) tNil)))) (by rfl) sc_Way_order.nd (pi_range1 rfl (T.free 2) (pa_cons (pe_op op_mulU (pv 1) (pv 2)) pa_nil)) (blkOk_by (own := [("place", 3)]) (by rfl)) (fun _ _ _ _ _ => (pg_name (i := 3) sc_Way_order.nd rfl (by first | exact Or.inl rfl | exact Or.inr rfl))) (fun _ _ _ _ _ => pts_nil) (fun _ _ _ _ _ => (pe_tup (pa_cons (pe_op op_divU (pv 3) (pv 2)) (pa_cons (pe_op op_mod (pv 3) (pv 2)) pa_nil))))))))), pure_Way_order T vs H Q E h⟩)
end
end Dot
namespace Dot
open PySem PySem.Spec PyProof.Rows L2 DK
def m_FoldedWay_order (z_self : Unit) (z_rows : Int) (z_columns : Int) : Rs ((List (Int × Int))) :=
(m_ask_size z_rows z_columns).bnd fun x1 =>
Rs.thn (whileR (R := (List (Int × Int))) (fun (x2 : Int) => Rs.bnd (if x2 < z_rows then (.ok true) else (.ok (decide (x2 < z_columns))) : Rs Bool) fun b1 =>
.ok (b1)) (fun (x2 : Int) =>
.ok (.nx (x2 * 2))) 1000000 1) (fun x3 =>
(m_folded_cells x3).bnd fun x4 =>
grd (x4.length ≤ 1000000) <| (mapR (fun (y1 : (Int × Int)) =>
 Rs.bnd (if y1.1 < z_rows then (.ok (decide (y1.2 < z_columns))) else (.ok false) : Rs Bool) fun b2 =>
if b2 = true then (.ok (some (y1.1, y1.2))) else (.ok none)) x4).bnd fun x5 =>
.ok (x5)) (fun r => .ok r)
def sp_FoldedWay_order (K : PySem.W.Frag) : Sp := fun vs H Q E => ∃ (v_self v_rows v_columns : V), vs = [v_self, v_rows, v_columns] ∧ (∃ (F : Hp) (z_self : Unit) (z_rows : Int) (z_columns : Int), Same F H ∧ RD F ((e_FoldedWay K) z_self) v_self ∧ v_rows = (V.int z_rows) ∧ v_columns = (V.int z_columns) ∧ Post (m_FoldedWay_order z_self z_rows z_columns) (fun r => ∀ F' H', Stp [] F H F' H' → ∀ L vs, Fre H L → Own F' H' L (.lst vs) → RDs F' (List.map (eP Dat.int Dat.int) r) vs → Q (.ref L) H') (fun c l => ∀ Fx Hx dx, Stp [] F H Fx Hx → ExD Fx l dx → E (.ref (He.ga K c.nm)) dx Hx))
theorem len_FoldedWay_order {K : PySem.W.Frag} : ∀ vs H Q E, sp_FoldedWay_order K vs H Q E → vs.length = ((["self", "rows", "columns"] : List Str)).length := fun vs H Q E h => by
  obtain ⟨_, _, _, rfl, _⟩ := h
  rfl
def t_FoldedWay_order (K : PySem.W.Frag) (E : XK) : TS :=
  (tSeq (tDrop (tCall (sp_ask_size K) [] E (tCons (tVar 1) (tCons (tVar 2) tNil))))
  (tSeq (tAsg (tC (.int 1)) (gName 3))
  (tSeq (tWhile (tOr (tTest (tOp rLtI (tVar 3) (tVar 1))) (tTest (tOp rLtI (tVar 3) (tVar 2)))) (tAsg (tOp rMulU (tVar 3) (tC (.int 2))) (gName 3)))
  (tRet (tLc (iSeq K (tCall (sp_folded_cells K) [] E (tCons (tVar 3) tNil))) (gTupU K 2 (gCons (gName 4) (gCons (gName 5) gNil))) (tAnd (tTest (tOp rLtI (tVar 4) (tVar 1))) (tTest (tOp rLtI (tVar 5) (tVar 2)))) (tTup (tCons (tVar 4) (tCons (tVar 5) tNil))) [4, 5])))))
section
variable {P : Program} {w : World} {K : PySem.W.Frag} {mg : Str → Option Value} {base : Heap}
theorem pure_FoldedWay_order (T : TX K mg) (vs : List V) (H : Hp) (Q : VK) (E : XK) (h : sp_FoldedWay_order K vs H Q E) : t_FoldedWay_order K E { nx := fun _ H' => Q .non H', rt := Q } (start n_FoldedWay_order vs) H := by
  obtain ⟨v_self, v_rows, v_columns, rfl, h⟩ := h
  change t_FoldedWay_order K E _ [some v_self, some v_rows, some v_columns, none, none, none] H
  unfold t_FoldedWay_order
  obtain ⟨F, z_self, z_rows, z_columns, e0, hr1, rfl, rfl, h⟩ := h
  unfold m_FoldedWay_order at h
  dl_open
  refine ⟨_, _, rfl, F, z_rows, z_columns, by lcg_src, rfl, rfl, h.b.mono2 ?_ (fun c_ l_ hx_ Fx_ Hx_ dx_ sx_ ex_ => by exact hx_ Fx_ Hx_ dx_ (by kas_types) ex_)⟩
  clear h
  intro x1 h F1 H1 s1
  dl_open
  dl_open
  dl_open
  (with_reducible refine cutW h (fun (s : Int) σ' H' => ∃ F', Stp [] F1 H1 F' H' ∧ σ' = [some v_self, some (V.int z_rows), some (V.int z_columns), some (V.int s), none, none]) ?_ ?_) <;> clear h
  · intro nx1 kk1 h
    refine wh_R h (fun (s : Int) σ' H' => ∃ F', Stp [] F1 H1 F' H' ∧ σ' = [some v_self, some (V.int z_rows), some (V.int z_columns), some (V.int s), none, none]) ⟨F1, Stp.refl (by lcg_src), rfl⟩ ?_
    clear h
    rintro n_ x2 σ_ H2 Nx_ QQ_ ⟨F2, s2, rfl⟩ kN1 kT1 kF1 h
    try dsimp only at h
    dl_open
    dl_open
    (refine cutT F2 H2 h ?_ ?_) <;> clear h
    · intro Qkk2 kk2 h
      refine st_or ?_
      dl_open
      dl_open
      (refine brP h ?_ ?_) <;> clear h <;> intro c1 h
      · try dl_open
        exact kk2 _ F2 H2 (by kas_types) h
      · dl_open
        dl_open
        dl_open
        exact kk2 _ F2 H2 (by kas_types) h
    intro b1 F3 H3 s3 h
    dl_open
    refine wh_b h (fun c2 h => kT1 _ ?_) (fun c2 h => kF1 _ (kk1 x2 _ _ ⟨F3, by kas_types, rfl⟩ h))
    dl_open
    dl_open
    refine st_mul (mulR (by decide)) ?_
    dl_open
    dl_open
    exact kN1 (x2 * 2) _ _ ⟨F3, by kas_types, rfl⟩ h.onx
  · rintro x3 σ_ H4 ⟨F4, s4, rfl⟩ h
    try dsimp only at h
    dl_open
    dl_open
    refine st_lc ?_
    dl_open
    refine st_iseqL ?_
    dl_open
    dl_open
    refine ⟨_, rfl, F4, x3, by lcg_src, rfl, h.b.mono2 ?_ (fun c_ l_ hx_ Fx_ Hx_ dx_ sx_ ex_ => by exact hx_ Fx_ Hx_ dx_ (by kas_types) ex_)⟩
    clear h
    intro x4 h F5 H5 s5 L1 w1 n1 o1 r1
    obtain ⟨F6, s6, r2⟩ := own_fz (F := F5) s5.inn o1 r1
    dl_open
    replace h := h.g
    obtain ⟨g2, h⟩ := h
    (refine lc_L (e := (eP Dat.int Dat.int)) (e2 := (eP Dat.int Dat.int)) (F := F6) (by kqd_all) (by lcg_src) g2 h.b ?_ ?_) <;> clear h
    · intro y1 u3 F7 H6 r3 s7 PN2 NY2 NN2 kY2 kN2 h
      have r3 : RD F7 ((eP Dat.int Dat.int) y1) u3 := r3
      dl_open
      refine sm_g2 (F := F7) (by lcg_src) (by kqd_all) ?_
      intro u4 u5 r4 r5
      cases (show u4 = (V.int y1.1) from r4)
      cases (show u5 = (V.int y1.2) from r5)
      dl_open
      dl_open
      refine ⟨rfl, ?_⟩
      dl_open
      dl_open
      (refine cutT F7 H6 h ?_ ?_) <;> clear h
      · intro Qkk3 kk3 h
        refine st_and ?_
        dl_open
        dl_open
        (refine brP h ?_ ?_) <;> clear h <;> intro c3 h
        · dl_open
          dl_open
          dl_open
          exact kk3 _ F7 H6 (by kas_types) h
        · try dl_open
          exact kk3 _ F7 H6 (by kas_types) h
      intro b2 F8 H7 s8 h
      dl_open
      (refine brB h ?_ ?_) <;> clear h <;> intro c4 h
      · dl_open
        dl_open
        refine newT (by simp) (F := F8) (by lcg_src) (ds := [Dat.int y1.1, Dat.int y1.2]) (by nest_cls) ?_
        intro u6 F9 H8 s9 r6
        have r6 : RD F9 ((eP Dat.int Dat.int) (y1.1, y1.2)) u6 := r6
        dl_open
        exact kY2 _ _ F9 H8 (by kas_types) (by kqd_all) h
      · exact kN2 F8 H7 (by kas_types) h
    intro L2 w2 x5 F10 H9 s10 n2 o2 r7 h
    dl_open
    exact h F10 H9 (by kas_types) _ _ (by k_subL) (by kat_tups) (by nest_cls)
theorem okm_FoldedWay_order (T : TX K mg) (c_ask_size : CalOk P w K mg base "ask_size" 1 (["rows", "columns"] : List Str) (sp_ask_size K)) (c_folded_cells : CalOk P w K mg base "folded_cells" 9 (["side"] : List Str) (sp_folded_cells K)) : MetOk P w K mg base "FoldedWay" "order" 10 (["self", "rows", "columns"] : List Str) (sp_FoldedWay_order K) :=
  T.met 6 31 33 (d := d_FoldedWay_order) rfl rfl rfl rfl rfl rfl sc_FoldedWay_order (len_FoldedWay_order) (fun _ _ _ _ _ _ _ us hl => match us, hl with | [_, _, _], _ => rfl) (fun cdv A outer s H vs Q E hr h => ⟨t_FoldedWay_order K E, (by exact (pss_cons (ps_expr (pe_callC c_ask_size (hr.mono (by decide)) rfl (L2N.passes_call (L2N.takes_of rfl rfl rfl rfl) (fun _ _ _ _ h => h)) (pa_cons (pv 1) (pa_cons (pv 2) pa_nil))))
  (pss_cons (ps_set (i := 3) sc_FoldedWay_order.nd rfl (by first | exact Or.inl rfl | exact Or.inr rfl) pe_int)
  (pss_cons (ps_while (passes_of rfl) (PW.pt (pw_or (pt_cmpR op_lt (pv 3) (pv 1) (nomark _)) (pw_or1 (pt_cmpR op_lt (pv 3) (pv 2) (nomark _))))) (pss_one (ps_set (i := 3) sc_FoldedWay_order.nd rfl (by first | exact Or.inl rfl | exact Or.inr rfl) (pe_op op_mulU (pv 3) pe_int))))
  (pss_one (ps_ret (pe_lc (own := [("r", 4), ("c", 5)]) (g := (gTupU K 2 (gCons (gName 4) (gCons (gName 5) gNil)))) (tt := (tAnd (tTest (tOp rLtI (tVar 4) (tVar 1))) (tTest (tOp rLtI (tVar 5) (tVar 2))))) (te := (tTup (tCons (tVar 4) (tCons (tVar 5) tNil)))) (by rfl) sc_FoldedWay_order.nd (pi_seq (pe_callC c_folded_cells (hr.mono (by decide)) rfl (L2N.passes_call (L2N.takes_of rfl rfl rfl rfl) (fun _ _ _ _ h => h)) (pa_cons (pv 3) pa_nil))) (blkOk_by (own := [("r", 4), ("c", 5)]) (by rfl)) (fun _ _ _ _ _ => (pg_tupU (by rfl) (pgs_cons (pg_name (i := 4) sc_FoldedWay_order.nd rfl (by first | exact Or.inl rfl | exact Or.inr rfl)) (pgs_cons (pg_name (i := 5) sc_FoldedWay_order.nd rfl (by first | exact Or.inl rfl | exact Or.inr rfl)) pgs_nil)))) (fun _ _ _ _ _ => (pts_one (PW.pt (pw_and (pt_cmpR op_lt (pv 4) (pv 1) (nomark _)) (pw_and1 (pt_cmpR op_lt (pv 5) (pv 2) (nomark _))))))) (fun _ _ _ _ _ => (pe_tup (pa_cons (pv 4) (pa_cons (pv 5) pa_nil))))))))))), pure_FoldedWay_order T vs H Q E h⟩)
end
def mvR_order : WayD → Int → Int → Rs (List (Int × Int))
  | .rows, z0, z1 => m_Way_order () z0 z1
  | .fold, z0, z1 => m_FoldedWay_order () z0 z1
def spvR_order (K : PySem.W.Frag) (w : WayD) : Sp := fun vs H Q E => ∃ (v_self u0 u1 : V), vs = [v_self, u0, u1] ∧ ∃ (F : Hp) (z0 : Int) (z1 : Int), Same F H ∧ RD F (e_way K w) v_self ∧ u0 = (V.int z0) ∧ u1 = (V.int z1) ∧ Post (mvR_order w z0 z1) (fun r => ∀ F' H', Stp [] F H F' H' → ∀ L vs, Fre H L → Own F' H' L (.lst vs) → RDs F' (List.map (eP Dat.int Dat.int) r) vs → Q (.ref L) H') (fun c l => ∀ Fx Hx dx, Stp [] F H Fx Hx → ExD Fx l dx → E (.ref (He.ga K c.nm)) dx Hx)
abbrev al_order (K : PySem.W.Frag) : List (Str × Sp) := [("Way", sp_Way_order K), ("FoldedWay", sp_FoldedWay_order K)]
theorem dispR_order {K : PySem.W.Frag} {F H : Hp} {v : V} {w : WayD} {t : TA} {σ : L2.St} {Q : VK} {E : XK} (h : RD F (e_way K w) v) (s : Same F H) (k : ∀ sp : Sp, (∀ vs H2 Q E, spvR_order K w (v :: vs) H2 Q E → sp (v :: (vs ++ [])) H2 Q E) → t σ H fun vs H2 => sp (v :: (vs ++ [])) H2 Q E) : ∃ a dx fs p, p ∈ al_order K ∧ v = .ref a ∧ H a = some (.ins (He.ga K p.1) dx fs) ∧ fs.lookup ("order" : Str) = none ∧ t σ H fun vs H2 => p.2 (v :: (vs ++ [])) H2 Q E := by
  cases w with
  | rows =>
    obtain ⟨a, dx, vs0, rfl, h1, h2⟩ := h
    exact ⟨a, dx, _, ("Way", sp_Way_order K), List.mem_cons_self, rfl, s _ _ h1, rfl, k _ fun vs H2 Q E hh => by
      rw [List.append_nil]
      obtain ⟨v_self, u0, u1,  e, F0, z0, z1,  e0, hr, q0, q1,  hp⟩ := hh
      exact ⟨v_self, u0, u1,  e, F0, (), z0, z1,  e0, hr, q0, q1,  hp⟩⟩
  | fold =>
    obtain ⟨a, dx, vs0, rfl, h1, h2⟩ := h
    exact ⟨a, dx, _, ("FoldedWay", sp_FoldedWay_order K), (List.mem_cons_of_mem _ List.mem_cons_self), rfl, s _ _ h1, rfl, k _ fun vs H2 Q E hh => by
      rw [List.append_nil]
      obtain ⟨v_self, u0, u1,  e, F0, z0, z1,  e0, hr, q0, q1,  hp⟩ := hh
      exact ⟨v_self, u0, u1,  e, F0, (), z0, z1,  e0, hr, q0, q1,  hp⟩⟩
abbrev m_order : WayD → Int → Int → Rs (List (Int × Int)) := mvR_order
theorem disp_order {K : PySem.W.Frag} {F H : Hp} {v : V} {w : WayD} {t : TA} {σ : L2.St} {Q : VK} {E : XK} (h : RD F (e_way K w) v) (s : Same F H) (k : ∀ sp : Sp, (∀ vs H2 Q E, spvR_order K w (v :: vs) H2 Q E → sp (v :: (vs ++ [])) H2 Q E) → t σ H fun vs H2 => sp (v :: (vs ++ [])) H2 Q E) : ∃ a dx fs p, p ∈ al_order K ∧ v = .ref a ∧ H a = some (.ins (He.ga K p.1) dx fs) ∧ fs.lookup ("order" : Str) = none ∧ t σ H fun vs H2 => p.2 (v :: (vs ++ [])) H2 Q E := dispR_order h s k
end Dot
namespace Dot
open PySem PySem.Spec PyProof.Rows L2 DK
def m_law (z_script : List Int) : Rs (Bool) :=
Rs.thn (grd (([0] : List Int).length + (cutL z_script none (some 8)).length ≤ 1000000) <| forR (R := Bool) (fun (x2 : (List Int)) (y1 : (Int × Int)) =>
(m_law_next z_script x2).bnd fun x3 =>
(ixR ([1, 2, 4, 8, 16] : List Int) ((y1.2 + x3.1) % 5)).bnd fun x4 =>
(m_folded_cells x4).bnd fun x5 =>
grd (mulOk x4 x4 = true) <| grd (rngOk 0 (x4 * x4) = true) <| grd ((((x4 * x4) : Int) - 0).toNat ≤ 1000000) <| (mapR (fun (y2 : Int) =>
 (noX <| m_law_curve x4 y2).bnd fun x6 =>
.ok (some x6)) (rngI 0 (x4 * x4))).bnd fun x6 =>
Rs.bnd (grd (wid ((eL (eP Dat.int Dat.int)) x5) ≤ 1000000) <| if (sameD ((eL (eP Dat.int Dat.int)) x5) ((eL (eP Dat.int Dat.int)) x6)) = true then ((m_law_walks x5 x4).bnd fun x8 =>
.ok (!x8)) else (.ok true) : Rs Bool) fun b1 =>
if b1 = true then (.ok (.rt false)) else ((m_folded_cells x4).bnd fun x9 =>
grd (wid ((eL (eP Dat.int Dat.int)) x9) ≤ 1000000) <| if (sameD ((eL (eP Dat.int Dat.int)) x9) ((eL (eP Dat.int Dat.int)) x6)) = true then (Rs.bnd (if y1.1 = 0 then (.ok (decide (((x3.1 / 1500) % 3) = 0))) else (.ok false) : Rs Bool) fun b2 =>
(ixR ([8, 17] : List Int) (if b2 = true then 1 else 0)).bnd fun x10 =>
grd ((0 : Int) < x10) <| grd ((0 : Int) < x10) <| Rs.thn ((Rs.bnd (if y1.1 = 0 then (.ok (decide (((x3.1 / 1500) % 12) = 1))) else (.ok false) : Rs Bool) fun b3 =>
if b3 = true then ((ixR ([(40, 2), (1, 64), (33, 1)] : List (Int × Int)) ((x3.1 / 18000) % 3)).bnd fun x11 =>
.ok (.nx (x11.1, x11.2))) else (.ok (.nx ((1 + ((x3.1 / 5) % x10)), (1 + ((x3.1 / 85) % x10))))) : (Rs (Ctl (Int × Int) Bool)))) (fun ⟨x12, x13⟩ =>
Rs.thn (whileR (R := Bool) (fun (x14 : Int) => Rs.bnd (if x14 < x12 then (.ok true) else (.ok (decide (x14 < x13))) : Rs Bool) fun b4 =>
.ok (b4)) (fun (x14 : Int) =>
.ok (.nx (x14 * 2))) 1000000 1) (fun x15 =>
(m_order WayD.fold x12 x13).bnd fun x16 =>
grd (mulOk x15 x15 = true) <| grd (rngOk 0 (x15 * x15) = true) <| grd ((((x15 * x15) : Int) - 0).toNat ≤ 1000000) <| (mapR (fun (y3 : Int) =>
 (noX <| m_law_curve x15 y3).bnd fun x17 =>
.ok (some x17)) (rngI 0 (x15 * x15))).bnd fun x17 =>
grd (x17.length ≤ 1000000) <| (mapR (fun (y4 : (Int × Int)) =>
 Rs.bnd (if y4.1 < x12 then (.ok (decide (y4.2 < x13))) else (.ok false) : Rs Bool) fun b5 =>
if b5 = true then (.ok (some y4)) else (.ok none)) x17).bnd fun x19 =>
grd (wid ((eL (eP Dat.int Dat.int)) x16) ≤ 1000000) <| if (sameD ((eL (eP Dat.int Dat.int)) x16) ((eL (eP Dat.int Dat.int)) x19)) = true then (popR x16.reverse fun y5 x20 =>
(m_order WayD.fold x12 x13).bnd fun x21 =>
grd (wid ((eL (eP Dat.int Dat.int)) x21) ≤ 1000000) <| if (sameD ((eL (eP Dat.int Dat.int)) x21) ((eL (eP Dat.int Dat.int)) x19)) = true then (.ok (.nx x3.2)) else (.ok (.rt false))) else (.ok (.rt false))) (fun r => .ok (.rt r))) (fun r => .ok (.rt r))) else (.ok (.rt false)))) (enumI (([0] : List Int) ++ (cutL z_script none (some 8)))) ([0] : List Int)) (fun x22 =>
(m_order WayD.fold 1 1).bnd fun x23 =>
grd (wid ((eL (eP Dat.int Dat.int)) x23) ≤ 1000000) <| .ok ((sameD ((eL (eP Dat.int Dat.int)) x23) ((eL (eP Dat.int Dat.int)) ([(0, 0)] : List (Int × Int)))))) (fun r => .ok r)
def sp_law (K : PySem.W.Frag) : Sp := fun vs H Q E => ∃ (v_script : V), vs = [v_script] ∧ (∃ (F : Hp) (z_script : List Int), Same F H ∧ Scr K F v_script z_script ∧ Post (m_law z_script) (fun r => ∀ F' H', Stp [] F H F' H' → Q (V.bl r) H') (fun c l => ∀ Fx Hx dx, Stp [] F H Fx Hx → ExD Fx l dx → E (.ref (He.ga K c.nm)) dx Hx))
theorem len_law {K : PySem.W.Frag} : ∀ vs H Q E, sp_law K vs H Q E → vs.length = ((["_law_script"] : List Str)).length := fun vs H Q E h => by
  obtain ⟨_, rfl, _⟩ := h
  rfl
def t_law (K : PySem.W.Frag) (E : XK) : TS :=
  (tSeq (tAsg (tLst (tCons (tC (.int 0)) tNil)) (gName 1))
  (tSeq (tAsg (tMakePlain (He.ga K "FoldedWay")) (gName 2))
  (tSeq (tFor (iEnumU K (tCons (tOp (rAddU K) (tLst (tCons (tC (.int 0)) tNil)) (tSl (rSlU K) (tVar 0) tNoPart (tPart (tC (.int 8))))) tNil)) (gTupU K 2 (gCons (gName 3) (gCons (gName 4) gNil))) (tSeq (tAsg (tCall (sp_law_next K) [] E (tCons (tVar 0) (tCons (tVar 1) tNil))) (gName 5))
  (tSeq (tAsg (tOp (rIxU K) (tLst (tCons (tC (.int 1)) (tCons (tC (.int 2)) (tCons (tC (.int 4)) (tCons (tC (.int 8)) (tCons (tC (.int 16)) tNil)))))) (tOp rModI (tOp (rAddU K) (tVar 4) (tVar 5)) (tC (.int 5)))) (gName 6))
  (tSeq (tAsg (tCall (sp_folded_cells K) [] E (tCons (tVar 6) tNil)) (gName 7))
  (tSeq (tAsg (tLc (iRng1 (tCons (tOp rMulU (tVar 6) (tVar 6)) tNil)) (gName 15) tYes (tCall (sp_law_curve K) [] E0 (tCons (tVar 6) (tCons (tVar 15) tNil))) [15]) (gName 8))
  (tSeq (tIfS (tOr (tNot (tB (tCall (sp_law_same K) [] E (tCons (tVar 7) (tCons (tVar 8) tNil))))) (tNot (tB (tCall (sp_law_walks K) [] E (tCons (tVar 7) (tCons (tVar 6) tNil)))))) (tRet (tC (.bl false))) tNext)
  (tSeq (tDrop (tBM0 K "list" rClear (tVar 7)))
  (tSeq (tIfS (tNot (tB (tCall (sp_law_same K) [] E (tCons (tCall (sp_folded_cells K) [] E (tCons (tVar 6) tNil)) (tCons (tVar 8) tNil))))) (tRet (tC (.bl false))) tNext)
  (tSeq (tAsg (tOp (rIxU K) (tLst (tCons (tC (.int 8)) (tCons (tC (.int 17)) tNil))) (tCB rIntU (tCons (tAndV (tOp (rEqU K) (tVar 3) (tC (.int 0))) (tOp (rEqU K) (tOp rModI (tOp rDivU (tVar 5) (tC (.int 1500))) (tC (.int 3))) (tC (.int 0)))) tNil))) (gName 9))
  (tSeq (tAsg (tOp (rAddU K) (tC (.int 1)) (tOp rModI (tOp rDivU (tVar 5) (tC (.int 5))) (tVar 9))) (gName 10))
  (tSeq (tAsg (tOp (rAddU K) (tC (.int 1)) (tOp rModI (tOp rDivU (tVar 5) (tC (.int 85))) (tVar 9))) (gName 11))
  (tSeq (tIfS (tAnd (tTest (tOp (rEqU K) (tVar 3) (tC (.int 0)))) (tTest (tOp (rEqU K) (tOp rModI (tOp rDivU (tVar 5) (tC (.int 1500))) (tC (.int 12))) (tC (.int 1))))) (tAsg (tOp (rIxU K) (tLst (tCons (tTup (tCons (tC (.int 40)) (tCons (tC (.int 2)) tNil))) (tCons (tTup (tCons (tC (.int 1)) (tCons (tC (.int 64)) tNil))) (tCons (tTup (tCons (tC (.int 33)) (tCons (tC (.int 1)) tNil))) tNil)))) (tOp rModI (tOp rDivU (tVar 5) (tC (.int 18000))) (tC (.int 3)))) (gTupU K 2 (gCons (gName 10) (gCons (gName 11) gNil)))) tNext)
  (tSeq (tAsg (tC (.int 1)) (gName 12))
  (tSeq (tWhile (tOr (tTest (tOp rLtI (tVar 12) (tVar 10))) (tTest (tOp rLtI (tVar 12) (tVar 11)))) (tAsg (tOp rMulU (tVar 12) (tC (.int 2))) (gName 12)))
  (tSeq (tAsg (tMethA K "order" (al_order K) E (tVar 2) (tCons (tVar 10) (tCons (tVar 11) tNil))) (gName 13))
  (tSeq (tAsg (tLc (iRng1 (tCons (tOp rMulU (tVar 12) (tVar 12)) tNil)) (gName 15) tYes (tCall (sp_law_curve K) [] E0 (tCons (tVar 12) (tCons (tVar 15) tNil))) [15]) (gName 14))
  (tSeq (tAsg (tLc (iSeq K (tVar 14)) (gName 16) (tAnd (tTest (tOp rLtI (tOp (rIxU K) (tVar 16) (tC (.int 0))) (tVar 10))) (tTest (tOp rLtI (tOp (rIxU K) (tVar 16) (tC (.int 1))) (tVar 11)))) (tVar 16) [16]) (gName 8))
  (tSeq (tIfS (tNot (tB (tCall (sp_law_same K) [] E (tCons (tVar 13) (tCons (tVar 8) tNil))))) (tRet (tC (.bl false))) tNext)
  (tSeq (tDrop (tBM0 K "list" rReverse (tVar 13)))
  (tSeq (tDrop (tBM0 K "list" rPop (tVar 13)))
  (tIfS (tNot (tB (tCall (sp_law_same K) [] E (tCons (tMethA K "order" (al_order K) E (tVar 2) (tCons (tVar 10) (tCons (tVar 11) tNil))) (tCons (tVar 8) tNil))))) (tRet (tC (.bl false))) tNext)))))))))))))))))))))
  (tRet (tCall (sp_law_same K) [] E (tCons (tMethA K "order" (al_order K) E (tMakePlain (He.ga K "FoldedWay")) (tCons (tC (.int 1)) (tCons (tC (.int 1)) tNil))) (tCons (tLst (tCons (tTup (tCons (tC (.int 0)) (tCons (tC (.int 0)) tNil))) tNil)) tNil)))))))
section
variable {P : Program} {w : World} {K : PySem.W.Frag} {mg : Str → Option Value} {base : Heap}
theorem pure_law (T : TX K mg) (vs : List V) (H : Hp) (Q : VK) (E : XK) (h : sp_law K vs H Q E) : t_law K E { nx := fun _ H' => Q .non H', rt := Q } (start n_law vs) H := by
  obtain ⟨v_script, rfl, h⟩ := h
  change t_law K E _ [some v_script, none, none, none, none, none, none, none, none, none, none, none, none, none, none, none, none] H
  unfold t_law
  obtain ⟨F, z_script, e0, hS1, h⟩ := h
  unfold m_law at h
  dl_open
  refine newO (by simp) (F := F) (by lcg_src) ?_
  intro L1 F1 H1 s1 n1 o1
  have r1 : RDs F1 (List.map Dat.int ([0] : List Int)) [(V.int 0)] := (show RDs F1 [Dat.int 0] [(V.int 0)] by nest_cls)
  dl_open
  dl_open
  refine sm_mkPlain (C := He.ga K "FoldedWay") (F := F1) (by lcg_src) ?_
  intro u1 F2 H2 s2 r2
  have r2 : RD F2 (e_way K WayD.fold) u1 := r2
  dl_open
  dl_open
  (with_reducible refine cutF h (fun s_e σ_e H_e => ∃ F_e, (fun (s : (List Int)) F' σ' H' => ∃ (oj_1 : Option V) (oj_2 : Option V) (oj_3 : Option V) (oj_4 : Option V) (oj_5 : Option V) (oj_6 : Option V) (oj_7 : Option V) (oj_8 : Option V) (oj_9 : Option V) (oj_10 : Option V) (oj_11 : Option V) (oj_12 : Option V) (wj_0 : List V), Stp [L1] F2 H2 F' H' ∧ Own F' H' L1 (.lst wj_0) ∧ RDs F' (List.map Dat.int s) wj_0 ∧ σ' = [some v_script, some (V.ref L1), some u1, oj_11, oj_12, oj_1, oj_2, oj_3, oj_4, oj_5, oj_6, oj_7, oj_8, oj_9, oj_10, none, none]) s_e F_e σ_e H_e) ?_ ?_) <;> clear h
  · intro nx1 kk1 h
    refine st_for ?_
    dl_open
    refine st_enumL ?_
    dl_open
    refine newL (by simp) (F := F2) (by lcg_src) (ds := [Dat.int 0]) (by nest_cls) ?_
    intro u2 F3 H3 s3 r3
    have r3 : RD F3 ((eL Dat.int) ([0] : List Int)) u2 := r3
    dl_open
    refine sm_slS (F := F3) (by lcg_src) (by ktu_offI) ?_
    intro u3 F4 H4 s4 r4
    dl_open
    replace h := h.g
    obtain ⟨g1, h⟩ := h
    refine sm_cat (e := Dat.int) (F := F4) (by lcg_src) (by kqd_all) (by kqd_all) g1 ?_
    intro u4 F5 H5 s5 r5
    dl_open
    refine fr_EL (e := Dat.int) (F := F5) (by kqd_all) (by lcg_src) h (fun (s : (List Int)) F' σ' H' => ∃ (oj_1 : Option V) (oj_2 : Option V) (oj_3 : Option V) (oj_4 : Option V) (oj_5 : Option V) (oj_6 : Option V) (oj_7 : Option V) (oj_8 : Option V) (oj_9 : Option V) (oj_10 : Option V) (oj_11 : Option V) (oj_12 : Option V) (wj_0 : List V), Stp [L1] F5 H5 F' H' ∧ Own F' H' L1 (.lst wj_0) ∧ RDs F' (List.map Dat.int s) wj_0 ∧ σ' = [some v_script, some (V.ref L1), some u1, oj_11, oj_12, oj_1, oj_2, oj_3, oj_4, oj_5, oj_6, oj_7, oj_8, oj_9, oj_10, none, none]) ⟨_, _, _, _, _, _, _, _, _, _, _, _, _, Stp.refl (by lcg_src), by kat_tups, by nest_cls, rfl⟩ (by rintro _ _ _ _ ⟨_, _, _, _, _, _, _, _, _, _, _, _, _, t, _⟩; exact ⟨t.ex, t.inn⟩) ?_ (by rintro x1 σ_ H6 ⟨F6, o_1, o_2, o_3, o_4, o_5, o_6, o_7, o_8, o_9, o_10, o_11, o_12, w1, s6, o2, r6, rfl⟩ h; replace h := Ctl.nx_of h; exact kk1 x1 _ _ ⟨F6, _, _, _, _, _, _, _, _, _, _, _, _, _, by kas_types, by kat_tups, by nest_cls, rfl⟩ h)
    clear h
    rintro y1 rest1 x2 u5 F7 σ_ H8 F8 H7 ⟨o_13, o_14, o_15, o_16, o_17, o_18, o_19, o_20, o_21, o_22, o_23, o_24, w2, s8, o3, r8, rfl⟩ s7 r7 h
    have r7 : RD F8 ((eP Dat.int Dat.int) y1) u5 := r7
    try dsimp only at h
    dl_open
    refine sm_g2 (F := F8) (by lcg_src) (by kqd_all) ?_
    intro u6 u7 r9 r10
    cases (show u6 = (V.int y1.1) from r9)
    cases (show u7 = (V.int y1.2) from r10)
    dl_open
    dl_open
    refine ⟨_, _, rfl, F8, z_script, x2, by lcg_src, (by ktu_offI), ⟨L1, w2, rfl, (by kat_tups), (by nest_cls)⟩, h.b.mono2 ?_ (fun c_ l_ hx_ a_ ha_ Fx_ Hx_ dx_ sx_ ex_ => by cases ha_; exact hx_ Fx_ Hx_ dx_ (by kas_types) ex_)⟩
    clear h
    intro x3 h a_ ha_
    cases ha_
    intro F9 H9 s9 w3 o4 r11
    dl_open
    dl_open
    refine newL (by simp) (F := F9) (by lcg_src) (ds := [Dat.int 1, Dat.int 2, Dat.int 4, Dat.int 8, Dat.int 16]) (by nest_cls) ?_
    intro u9 F10 H10 s10 r12
    have r12 : RD F10 ((eL Dat.int) ([1, 2, 4, 8, 16] : List Int)) u9 := r12
    dl_open
    dl_open
    refine st_mod (by decide) ?_
    dl_open
    replace h := h.ix
    obtain ⟨x4, hx1, h⟩ := h
    refine sm_ixL (e := Dat.int) (F := F10) (by lcg_src) (by kqd_all) hx1 ?_
    intro u10 r13
    cases (show u10 = (V.int x4) from r13)
    dl_open
    dl_open
    refine ⟨_, rfl, F10, x4, by lcg_src, rfl, h.b.mono2 ?_ (fun c_ l_ hx_ Fx_ Hx_ dx_ sx_ ex_ => by exact hx_ Fx_ Hx_ dx_ (by kas_types) ex_)⟩
    clear h
    intro x5 h F11 H11 s11 L2 w4 n2 o5 r14
    dl_open
    dl_open
    refine st_lc ?_
    dl_open
    dl_open
    replace h := h.g
    obtain ⟨g3, h⟩ := h
    refine st_mul (mulOk.c g3) ?_
    dl_open
    replace h := h.g
    obtain ⟨g5, h⟩ := h
    replace h := h.g
    obtain ⟨g4, h⟩ := h
    (refine lc_R1 (e2 := (eP Dat.int Dat.int)) (F := F11) g5 (by lcg_src) g4 h.b ?_ ?_) <;> clear h
    · intro y2 F12 H12 s12 PN1 NY1 NN1 kY1 kN1 h
      dl_open
      dl_open
      refine ⟨rfl, ?_⟩
      dl_open
      dl_open
      refine ⟨_, _, rfl, F12, x4, y2, by lcg_src, rfl, rfl, h.b.nox.mono2 ?_ (fun _ _ z_ => z_.elim)⟩
      clear h
      intro x7 h F13 H13 s13 u14 r16
      dl_open
      exact kY1 _ _ F13 H13 (by kas_types) (by kqd_all) h
    intro L3 w5 x6 F14 H14 s14 n3 o6 r17 h
    obtain ⟨F15, s15, r18⟩ := own_fz (F := F14) s14.inn o6 r17
    dl_open
    dl_open
    with_reducible refine DK.st_if ?_
    dl_open
    dl_open
    (refine cutT F15 H14 h ?_ ?_) <;> clear h
    · intro Qkk2 kk2 h
      refine st_or ?_
      dl_open
      dl_open
      obtain ⟨F17, l1, s17, r19⟩ := lend1s (by lcg_src : Same F15 H14) (by kat_tups : Own F15 H14 L2 (.lst w4)) (by nest_cls : RDs F15 (List.map (eP Dat.int Dat.int) x5) w4)
      dl_open
      replace h := h.g
      obtain ⟨g6, h⟩ := h
      refine ⟨_, _, rfl, F17, ((eL (eP Dat.int Dat.int)) x5), ((eL (eP Dat.int Dat.int)) x6), (by lcg_src), (by kqd_all), (by kqd_all), ((DeE.eL (DeE.eP DeE.int DeE.int)).le _ (by decide)), ((DeE.eL (DeE.eP DeE.int DeE.int)).le _ (by decide)), (by decide), g6, ?_⟩
      intro F18 H16 s18
      have s19 : Stp [] F17 H14 F18 H16 := by kas_types
      have s20 := l1.back s19
      generalize thaw F15 F18 = F19 at s20
      try clear s19; try clear s17; try clear r19
      dl_open
      dl_open
      (refine brNB h ?_ ?_) <;> clear h <;> intro c1 h
      · try dl_open
        exact kk2 _ F19 H16 (by kas_types) h
      · dl_open
        dl_open
        dl_open
        obtain ⟨F20, l2, r20, ht1⟩ := lend1 (by lcg_src : Same F19 H16) (by kat_tups : Own F19 H16 L2 (.lst w4)) (by nest_cls : RDs F19 (List.map (eP Dat.int Dat.int) x5) w4)
        refine ⟨_, _, rfl, F20, x5, x4, l2.inn, r20, rfl, h.b.mono2 ?_ (fun c_ l_ hx_ Fx_ Hx_ dx_ sx_ ex_ => by obtain ⟨Fy_, sy_, ey_⟩ := l2.ebk sx_ ex_; exact hx_ Fy_ Hx_ dx_ (by kas_types) ey_)⟩
        clear h
        intro x8 h F21 H17 s21
        have s22 := l2.back s21
        generalize thaw F19 F21 = F22 at s22
        dl_open
        dl_open
        exact kk2 _ F22 H17 (by kas_types) h
    intro b1 F16 H15 s16 h
    dl_open
    (refine brB h ?_ ?_) <;> clear h <;> intro c2 h
    · dl_open
      dl_open
      dl_open
      exact h F16 H15 (by kas_types)
    · dl_open
      dl_open
      skip
      refine ⟨ty_own (by kat_tups : Own F16 _ _ _), ?_⟩
      dl_open
      refine sm_clear (e := (eP Dat.int Dat.int)) (F := F16) (by lcg_src) (by kat_tups) ?_
      intro w6 F23 H18 s23 o7 r21
      dl_open
      dl_open
      with_reducible refine DK.st_if ?_
      dl_open
      dl_open
      dl_open
      refine ⟨_, rfl, F23, x4, by lcg_src, rfl, h.b.mono2 ?_ (fun c_ l_ hx_ Fx_ Hx_ dx_ sx_ ex_ => by exact hx_ Fx_ Hx_ dx_ (by kas_types) ex_)⟩
      clear h
      intro x9 h F24 H19 s24 L4 w7 n4 o8 r22
      obtain ⟨F25, s25, r23⟩ := own_fz (F := F24) s24.inn o8 r22
      dl_open
      replace h := h.g
      obtain ⟨g7, h⟩ := h
      refine ⟨_, _, rfl, F25, ((eL (eP Dat.int Dat.int)) x9), ((eL (eP Dat.int Dat.int)) x6), (by lcg_src), (by kqd_all), (by kqd_all), ((DeE.eL (DeE.eP DeE.int DeE.int)).le _ (by decide)), ((DeE.eL (DeE.eP DeE.int DeE.int)).le _ (by decide)), (by decide), g7, ?_⟩
      intro F26 H20 s26
      dl_open
      dl_open
      (refine brNB h ?_ ?_) <;> clear h <;> intro c3 h
      · dl_open
        dl_open
        dl_open
        exact h F26 H20 (by kas_types)
      · dl_open
        dl_open
        refine newL (by simp) (F := F26) (by lcg_src) (ds := [Dat.int 8, Dat.int 17]) (by nest_cls) ?_
        intro u17 F27 H21 s27 r24
        have r24 : RD F27 ((eL Dat.int) ([8, 17] : List Int)) u17 := r24
        dl_open
        (refine cutB F27 H21 h ?_ ?_) <;> clear h
        · intro Qkk3 kk3 h
          refine st_andV ?_
          dl_open
          dl_open
          (refine brP h ?_ ?_) <;> clear h <;> intro c4 h
          · dl_open
            dl_open
            refine st_div (divS (by decide)) ?_
            dl_open
            refine st_mod (by decide) ?_
            dl_open
            dl_open
            exact kk3 _ F27 H21 (by kas_types) h
          · try dl_open
            exact kk3 _ F27 H21 (by kas_types) h
        intro b2 F28 H22 s28 h
        dl_open
        refine sm_intU ?_
        refine sm_intB ?_
        dl_open
        replace h := h.ix
        obtain ⟨x10, hx2, h⟩ := h
        refine sm_ixL (e := Dat.int) (F := F28) (by lcg_src) (by kqd_all) hx2 ?_
        intro u18 r25
        cases (show u18 = (V.int x10) from r25)
        dl_open
        dl_open
        refine st_div (divS (by decide)) ?_
        dl_open
        replace h := h.g
        obtain ⟨g11, h⟩ := h
        refine st_mod g11 ?_
        dl_open
        dl_open
        dl_open
        refine st_div (divS (by decide)) ?_
        dl_open
        replace h := h.g
        obtain ⟨g13, h⟩ := h
        refine st_mod g13 ?_
        dl_open
        dl_open
        dl_open
        (with_reducible refine cutI h (fun (s : Int × Int) σ' H' => ∃ F', Stp [] F28 H22 F' H' ∧ σ' = [some v_script, some (V.ref L1), some u1, some (V.int y1.1), some (V.int y1.2), some (V.int x3.1), some (V.int x4), some (V.ref L2), some (V.ref L3), some (V.int x10), some (V.int s.1), some (V.int s.2), o_20, o_21, o_22, none, none]) ?_ ?_) <;> clear h
        · intro nx2 kk4 h
          with_reducible refine DK.st_if ?_
          dl_open
          dl_open
          (refine cutT F28 H22 h ?_ ?_) <;> clear h
          · intro Qkk5 kk5 h
            refine st_and ?_
            dl_open
            dl_open
            (refine brP h ?_ ?_) <;> clear h <;> intro c5 h
            · dl_open
              dl_open
              refine st_div (divS (by decide)) ?_
              dl_open
              refine st_mod (by decide) ?_
              dl_open
              dl_open
              exact kk5 _ F28 H22 (by kas_types) h
            · try dl_open
              exact kk5 _ F28 H22 (by kas_types) h
          intro b3 F29 H23 s29 h
          dl_open
          (refine brB h ?_ ?_) <;> clear h <;> intro c6 h
          · dl_open
            dl_open
            refine newT (by simp) (F := F29) (by lcg_src) (ds := [Dat.int 40, Dat.int 2]) (by nest_cls) ?_
            intro u19 F30 H24 s30 r26
            have r26 : RD F30 ((eP Dat.int Dat.int) (40, 2)) u19 := r26
            dl_open
            refine newT (by simp) (F := F30) (by lcg_src) (ds := [Dat.int 1, Dat.int 64]) (by nest_cls) ?_
            intro u20 F31 H25 s31 r27
            have r27 : RD F31 ((eP Dat.int Dat.int) (1, 64)) u20 := r27
            dl_open
            refine newT (by simp) (F := F31) (by lcg_src) (ds := [Dat.int 33, Dat.int 1]) (by nest_cls) ?_
            intro u21 F32 H26 s32 r28
            have r28 : RD F32 ((eP Dat.int Dat.int) (33, 1)) u21 := r28
            dl_open
            refine newL (by simp) (F := F32) (by lcg_src) (ds := [(eP Dat.int Dat.int) (40, 2), (eP Dat.int Dat.int) (1, 64), (eP Dat.int Dat.int) (33, 1)]) (by nest_cls) ?_
            intro u22 F33 H27 s33 r29
            have r29 : RD F33 ((eL (eP Dat.int Dat.int)) ([(40, 2), (1, 64), (33, 1)] : List (Int × Int))) u22 := r29
            dl_open
            refine st_div (divS (by decide)) ?_
            dl_open
            refine st_mod (by decide) ?_
            dl_open
            replace h := h.ix
            obtain ⟨x11, hx3, h⟩ := h
            refine sm_ixL (e := (eP Dat.int Dat.int)) (F := F33) (by lcg_src) (by kqd_all) hx3 ?_
            intro u23 r30
            have r30 : RD F33 ((eP Dat.int Dat.int) x11) u23 := r30
            dl_open
            refine sm_g2 (F := F33) (by lcg_src) (by kqd_all) ?_
            intro u24 u25 r31 r32
            cases (show u24 = (V.int x11.1) from r31)
            cases (show u25 = (V.int x11.2) from r32)
            dl_open
            dl_open
            exact kk4 (x11.1, x11.2) _ _ ⟨F33, by kas_types, rfl⟩ h.onx
          · dl_open
            dl_open
            exact kk4 ((1 + ((x3.1 / 5) % x10)), (1 + ((x3.1 / 85) % x10))) _ _ ⟨F29, by kas_types, rfl⟩ h.onx
        · rintro ⟨x12, x13⟩ σ_ H28 ⟨F34, s34, rfl⟩ h
          try dsimp only at h
          dl_open
          have r33 : Scr K F34 v_script z_script := by ktu_offI
          have o9 : Own F34 H28 L1 (.lst w3) := by kat_tups
          have r34 : RDs F34 (List.map Dat.int x3.2) w3 := by nest_cls
          have r35 : RD F34 ((e_way K) WayD.fold) u1 := by kqd_all
          have s35 : Stp [L1] F5 H5 F34 H28 := by kas_types
          try clear s34; try clear r24; try clear s27; try clear s26; try clear r23; try clear s25; try clear r22; try clear o8; try clear n4; try clear s24; try clear r21; try clear o7
          try clear s23; try clear r18; try clear s15; try clear r17; try clear o6; try clear n3; try clear s14; try clear r14; try clear o5; try clear n2; try clear s11; try clear r13
          try clear r12; try clear s10; try clear r11; try clear o4; try clear s9; try clear r10; try clear r9; try clear r8; try clear o3; try clear s8; try clear s7; try clear r7
          dl_open
          dl_open
          (with_reducible refine cutW h (fun (s : Int) σ' H' => ∃ F', Stp [] F34 H28 F' H' ∧ σ' = [some v_script, some (V.ref L1), some u1, some (V.int y1.1), some (V.int y1.2), some (V.int x3.1), some (V.int x4), some (V.ref L2), some (V.ref L3), some (V.int x10), some (V.int x12), some (V.int x13), some (V.int s), o_21, o_22, none, none]) ?_ ?_) <;> clear h
          · intro nx3 kk6 h
            refine wh_R h (fun (s : Int) σ' H' => ∃ F', Stp [] F34 H28 F' H' ∧ σ' = [some v_script, some (V.ref L1), some u1, some (V.int y1.1), some (V.int y1.2), some (V.int x3.1), some (V.int x4), some (V.ref L2), some (V.ref L3), some (V.int x10), some (V.int x12), some (V.int x13), some (V.int s), o_21, o_22, none, none]) ⟨F34, Stp.refl (by lcg_src), rfl⟩ ?_
            clear h
            rintro n_ x14 σ_ H29 Nx_ QQ_ ⟨F35, s36, rfl⟩ kN2 kT2 kF2 h
            try dsimp only at h
            dl_open
            dl_open
            (refine cutT F35 H29 h ?_ ?_) <;> clear h
            · intro Qkk7 kk7 h
              refine st_or ?_
              dl_open
              dl_open
              (refine brP h ?_ ?_) <;> clear h <;> intro c7 h
              · try dl_open
                exact kk7 _ F35 H29 (by kas_types) h
              · dl_open
                dl_open
                dl_open
                exact kk7 _ F35 H29 (by kas_types) h
            intro b4 F36 H30 s37 h
            dl_open
            refine wh_b h (fun c8 h => kT2 _ ?_) (fun c8 h => kF2 _ (kk6 x14 _ _ ⟨F36, by kas_types, rfl⟩ h))
            dl_open
            dl_open
            refine st_mul (mulR (by decide)) ?_
            dl_open
            dl_open
            exact kN2 (x14 * 2) _ _ ⟨F36, by kas_types, rfl⟩ h.onx
          · rintro x15 σ_ H31 ⟨F37, s38, rfl⟩ h
            try dsimp only at h
            dl_open
            dl_open
            refine disp_order (F := F37) (w := WayD.fold) (show RD F37 (e_way K WayD.fold) u1 by kqd_all) (by lcg_src) fun sp1 hd1 => ?_
            dl_open
            dl_open
            refine hd1 _ _ _ _ ⟨_, _, _, rfl, F37, x12, x13, by lcg_src, (by kqd_all), rfl, rfl, h.b.mono2 ?_ (fun c_ l_ hx_ Fx_ Hx_ dx_ sx_ ex_ => by exact hx_ Fx_ Hx_ dx_ (by kas_types) ex_)⟩
            clear h
            intro x16 h F38 H32 s39 L5 w8 n5 o10 r36
            dl_open
            dl_open
            refine st_lc ?_
            dl_open
            dl_open
            replace h := h.g
            obtain ⟨g19, h⟩ := h
            refine st_mul (mulOk.c g19) ?_
            dl_open
            replace h := h.g
            obtain ⟨g21, h⟩ := h
            replace h := h.g
            obtain ⟨g20, h⟩ := h
            (refine lc_R1 (e2 := (eP Dat.int Dat.int)) (F := F38) g21 (by lcg_src) g20 h.b ?_ ?_) <;> clear h
            · intro y3 F39 H33 s40 PN3 NY3 NN3 kY3 kN3 h
              dl_open
              dl_open
              refine ⟨rfl, ?_⟩
              dl_open
              dl_open
              refine ⟨_, _, rfl, F39, x15, y3, by lcg_src, rfl, rfl, h.b.nox.mono2 ?_ (fun _ _ z_ => z_.elim)⟩
              clear h
              intro x18 h F40 H34 s41 u28 r38
              dl_open
              exact kY3 _ _ F40 H34 (by kas_types) (by kqd_all) h
            intro L6 w9 x17 F41 H35 s42 n6 o11 r39 h
            obtain ⟨F42, s43, r40⟩ := own_fz (F := F41) s42.inn o11 r39
            dl_open
            dl_open
            refine st_lc ?_
            dl_open
            refine st_iseqL ?_
            dl_open
            dl_open
            replace h := h.g
            obtain ⟨g22, h⟩ := h
            (refine lc_L (e := (eP Dat.int Dat.int)) (e2 := (eP Dat.int Dat.int)) (F := F42) (by kqd_all) (by lcg_src) g22 h.b ?_ ?_) <;> clear h
            · intro y4 u29 F43 H36 r41 s44 PN4 NY4 NN4 kY4 kN4 h
              have r41 : RD F43 ((eP Dat.int Dat.int) y4) u29 := r41
              dl_open
              dl_open
              refine ⟨rfl, ?_⟩
              dl_open
              dl_open
              (refine cutT F43 H36 h ?_ ?_) <;> clear h
              · intro Qkk8 kk8 h
                refine st_and ?_
                dl_open
                refine st_ixT (F := F43) (by lcg_src) (by kqd_all) (d := Dat.int y4.1) rfl ?_
                intro u30 r42
                cases (show u30 = (V.int y4.1) from r42)
                dl_open
                dl_open
                (refine brP h ?_ ?_) <;> clear h <;> intro c9 h
                · dl_open
                  dl_open
                  refine st_ixT (F := F43) (by lcg_src) (by kqd_all) (d := Dat.int y4.2) rfl ?_
                  intro u31 r43
                  cases (show u31 = (V.int y4.2) from r43)
                  dl_open
                  dl_open
                  exact kk8 _ F43 H36 (by kas_types) h
                · try dl_open
                  exact kk8 _ F43 H36 (by kas_types) h
              intro b5 F44 H37 s45 h
              dl_open
              (refine brB h ?_ ?_) <;> clear h <;> intro c10 h
              · dl_open
                dl_open
                exact kY4 _ _ F44 H37 (by kas_types) (by kqd_all) h
              · exact kN4 F44 H37 (by kas_types) h
            intro L7 w10 x19 F45 H38 s46 n7 o12 r44 h
            obtain ⟨F46, s47, r45⟩ := own_fz (F := F45) s46.inn o12 r44
            dl_open
            dl_open
            with_reducible refine DK.st_if ?_
            dl_open
            dl_open
            dl_open
            obtain ⟨F47, l3, s48, r46⟩ := lend1s (by lcg_src : Same F46 H38) (by kat_tups : Own F46 H38 L5 (.lst w8)) (by nest_cls : RDs F46 (List.map (eP Dat.int Dat.int) x16) w8)
            dl_open
            replace h := h.g
            obtain ⟨g23, h⟩ := h
            refine ⟨_, _, rfl, F47, ((eL (eP Dat.int Dat.int)) x16), ((eL (eP Dat.int Dat.int)) x19), (by lcg_src), (by kqd_all), (by kqd_all), ((DeE.eL (DeE.eP DeE.int DeE.int)).le _ (by decide)), ((DeE.eL (DeE.eP DeE.int DeE.int)).le _ (by decide)), (by decide), g23, ?_⟩
            intro F48 H39 s49
            have s50 : Stp [] F47 H38 F48 H39 := by kas_types
            have s51 := l3.back s50
            generalize thaw F46 F48 = F49 at s51
            try clear s50; try clear s48; try clear r46
            dl_open
            dl_open
            (refine brNB h ?_ ?_) <;> clear h <;> intro c11 h
            · dl_open
              dl_open
              dl_open
              exact h F49 H39 (by kas_types)
            · dl_open
              dl_open
              skip
              refine ⟨ty_own (by kat_tups : Own F49 _ _ _), ?_⟩
              dl_open
              refine sm_reverse (e := (eP Dat.int Dat.int)) (zs := x16) (F := F49) (by lcg_src) (by kat_tups) (by nest_cls) ?_
              intro w11 F50 H40 s52 o13 r47
              dl_open
              dl_open
              skip
              refine ⟨ty_own (by kat_tups : Own F50 _ _ _), ?_⟩
              dl_open
              replace h := h.pop
              obtain ⟨y5, hx4, h⟩ := h
              refine sm_pop (e := (eP Dat.int Dat.int)) (F := F50) (by lcg_src) (by kat_tups) (by nest_cls) hx4 ?_
              intro u32 w12 F51 H41 s53 o14 r48 r49
              generalize List.dropLast x16.reverse = x20 at h r48
              dl_open
              dl_open
              have r50 : Scr K F51 v_script z_script := by ktu_offI
              have o15 : Own F51 H41 L1 (.lst w3) := by kat_tups
              have r51 : RDs F51 (List.map Dat.int x3.2) w3 := by nest_cls
              have r52 : RD F51 ((e_way K) WayD.fold) u1 := by kqd_all
              have r53 : RD F51 ((eL (eP Dat.int Dat.int)) x19) (V.ref L7) := by kqd_all
              have s54 : Stp [L1] F5 H5 F51 H41 := by kas_types
              try clear r49; try clear r48; try clear o14; try clear s53; try clear r47; try clear o13; try clear s52; try clear s51; try clear s50; try clear s49; try clear r46; try clear s48
              try clear r45; try clear s47; try clear r44; try clear o12; try clear n7; try clear s46; try clear r40; try clear s43; try clear r39; try clear o11; try clear n6; try clear s42
              try clear r36; try clear o10; try clear n5; try clear s39; try clear s38; try clear s35; try clear r35; try clear r34; try clear o9; try clear r33
              dl_open
              with_reducible refine DK.st_if ?_
              dl_open
              dl_open
              dl_open
              dl_open
              refine disp_order (F := F51) (w := WayD.fold) (show RD F51 (e_way K WayD.fold) u1 by kqd_all) (by lcg_src) fun sp2 hd2 => ?_
              dl_open
              dl_open
              refine hd2 _ _ _ _ ⟨_, _, _, rfl, F51, x12, x13, by lcg_src, (by kqd_all), rfl, rfl, h.b.mono2 ?_ (fun c_ l_ hx_ Fx_ Hx_ dx_ sx_ ex_ => by exact hx_ Fx_ Hx_ dx_ (by kas_types) ex_)⟩
              clear h
              intro x21 h F52 H42 s55 L8 w13 n8 o16 r54
              obtain ⟨F53, s56, r55⟩ := own_fz (F := F52) s55.inn o16 r54
              dl_open
              replace h := h.g
              obtain ⟨g24, h⟩ := h
              refine ⟨_, _, rfl, F53, ((eL (eP Dat.int Dat.int)) x21), ((eL (eP Dat.int Dat.int)) x19), (by lcg_src), (by kqd_all), (by kqd_all), ((DeE.eL (DeE.eP DeE.int DeE.int)).le _ (by decide)), ((DeE.eL (DeE.eP DeE.int DeE.int)).le _ (by decide)), (by decide), g24, ?_⟩
              intro F54 H43 s57
              dl_open
              dl_open
              (refine brNB h ?_ ?_) <;> clear h <;> intro c12 h
              · dl_open
                dl_open
                dl_open
                exact h F54 H43 (by kas_types)
              · dl_open
                dl_open
                exact ⟨x3.2, ⟨F54, _, _, _, _, _, _, _, _, _, _, _, _, _, by kas_types, by kat_tups, by nest_cls, rfl⟩, h.onx⟩
  · rintro x22 σ_ H44 ⟨F55, o_25, o_26, o_27, o_28, o_29, o_30, o_31, o_32, o_33, o_34, o_35, o_36, w14, s58, o17, r56, rfl⟩ h
    try dsimp only at h
    dl_open
    dl_open
    dl_open
    refine sm_mkPlain (C := He.ga K "FoldedWay") (F := F55) (by lcg_src) ?_
    intro u33 F56 H45 s59 r57
    have r57 : RD F56 (e_way K WayD.fold) u33 := r57
    dl_open
    refine disp_order (F := F56) (w := WayD.fold) (show RD F56 (e_way K WayD.fold) u33 by kqd_all) (by lcg_src) fun sp3 hd3 => ?_
    dl_open
    dl_open
    refine hd3 _ _ _ _ ⟨_, _, _, rfl, F56, 1, 1, by lcg_src, (by kqd_all), rfl, rfl, h.b.mono2 ?_ (fun c_ l_ hx_ Fx_ Hx_ dx_ sx_ ex_ => by exact hx_ Fx_ Hx_ dx_ (by kas_types) ex_)⟩
    clear h
    intro x23 h F57 H46 s60 L9 w15 n9 o18 r58
    obtain ⟨F58, s61, r59⟩ := own_fz (F := F57) s60.inn o18 r58
    dl_open
    refine newT (by simp) (F := F58) (by lcg_src) (ds := [Dat.int 0, Dat.int 0]) (by nest_cls) ?_
    intro u34 F59 H47 s62 r60
    have r60 : RD F59 ((eP Dat.int Dat.int) (0, 0)) u34 := r60
    dl_open
    refine newL (by simp) (F := F59) (by lcg_src) (ds := [(eP Dat.int Dat.int) (0, 0)]) (by nest_cls) ?_
    intro u35 F60 H48 s63 r61
    have r61 : RD F60 ((eL (eP Dat.int Dat.int)) ([(0, 0)] : List (Int × Int))) u35 := r61
    dl_open
    replace h := h.g
    obtain ⟨g25, h⟩ := h
    refine ⟨_, _, rfl, F60, ((eL (eP Dat.int Dat.int)) x23), ((eL (eP Dat.int Dat.int)) ([(0, 0)] : List (Int × Int))), (by lcg_src), (by kqd_all), (by kqd_all), ((DeE.eL (DeE.eP DeE.int DeE.int)).le _ (by decide)), ((DeE.eL (DeE.eP DeE.int DeE.int)).le _ (by decide)), (by decide), g25, ?_⟩
    intro F61 H49 s64
    dl_open
    exact h F61 H49 (by kas_types)
theorem fn_law (T : TX K mg) {fd : FuncData} (F : FunD K d_law.name d_law.qual d_law.params d_law.body d_law.scope [] [] (He.ga K "law") fd) (c_law_next : CalOk P w K mg base "_law_next" 1 (["_law_script", "_law_at"] : List Str) (sp_law_next K)) (c_folded_cells : CalOk P w K mg base "folded_cells" 9 (["side"] : List Str) (sp_folded_cells K)) (c_law_curve : CalOk P w K mg base "_law_curve" 1 (["_law_side", "_law_place"] : List Str) (sp_law_curve K)) (c_law_same : CalOk P w K mg base "_law_same" 9 (["_law_found", "_law_due"] : List Str) (sp_law_same K)) (c_law_walks : CalOk P w K mg base "_law_walks" 1 (["_law_cells", "_law_side"] : List Str) (sp_law_walks K)) (mt_order : MetA P w K mg base "order" 10 (al_order K)) : FnOk P w K mg base (L2N.CX P w) 11 (He.ga K "law") fd (["_law_script"] : List Str) (sp_law K) :=
  FunD.ok F sc_law (len_law) (fun cdv A outer s H vs Q E hr h => ⟨t_law K E, (by exact (pss_cons (ps_set (i := 1) sc_law.nd rfl (by first | exact Or.inl rfl | exact Or.inr rfl) (pe_lst (pa_cons pe_int pa_nil)))
  (pss_cons (ps_set (i := 2) sc_law.nd rfl (by first | exact Or.inl rfl | exact Or.inr rfl) (pe_makePlain (tx_mko_FoldedWay T) rfl (T.glo 15)))
  (pss_cons (ps_for (passes_of rfl) rfl (pi_enumU rfl (T.free 16) (pa_cons (pe_op op_addU (pe_lst (pa_cons pe_int pa_nil)) (pe_slice sl_U (pv 0) po_none (po_some pe_int))) pa_nil)) (pg_tupU (by rfl) (pgs_cons (pg_name (i := 3) sc_law.nd rfl (by first | exact Or.inl rfl | exact Or.inr rfl)) (pgs_cons (pg_name (i := 4) sc_law.nd rfl (by first | exact Or.inl rfl | exact Or.inr rfl)) pgs_nil))) (pss_cons (ps_set (i := 5) sc_law.nd rfl (by first | exact Or.inl rfl | exact Or.inr rfl) (pe_callC c_law_next (hr.mono (by decide)) rfl (L2N.passes_call (L2N.takes_of rfl rfl rfl rfl) (fun _ _ _ _ h => h)) (pa_cons (pv 0) (pa_cons (pv 1) pa_nil))))
  (pss_cons (ps_set (i := 6) sc_law.nd rfl (by first | exact Or.inl rfl | exact Or.inr rfl) (pe_ix ix_U (pe_lst (pa_cons pe_int (pa_cons pe_int (pa_cons pe_int (pa_cons pe_int (pa_cons pe_int pa_nil)))))) (pe_op op_mod (pe_op op_addU (pv 4) (pv 5)) pe_int) (fun _ _ => rfl)))
  (pss_cons (ps_set (i := 7) sc_law.nd rfl (by first | exact Or.inl rfl | exact Or.inr rfl) (pe_callC c_folded_cells (hr.mono (by decide)) rfl (L2N.passes_call (L2N.takes_of rfl rfl rfl rfl) (fun _ _ _ _ h => h)) (pa_cons (pv 6) pa_nil)))
  (pss_cons (ps_setLc (i := 8) (own := [("_law_place", 15)]) (g := (gName 15)) (tt := tYes) (te := (tCall (sp_law_curve K) [] E0 (tCons (tVar 6) (tCons (tVar 15) tNil))))  (by rfl) sc_law.nd rfl rfl (sw_true rfl rfl rfl (by decide +kernel)) (pi_range1 rfl (T.free 2) (pa_cons (pe_op op_mulU (pv 6) (pv 6)) pa_nil)) (blkOk_by (own := [("_law_place", 15)]) (by rfl)) (fun _ _ _ _ _ => (pg_name (i := 15) sc_law.nd rfl (by first | exact Or.inl rfl | exact Or.inr rfl))) (fun _ _ _ _ _ => pts_nil) (fun _ _ _ _ _ => (pe_callC c_law_curve (hr.mono (by decide)) rfl passLN (pa_cons (pv 6) (pa_cons (pv 15) pa_nil)))))
  (pss_cons (ps_if (PW.pt (pw_or (pt_not (pt_val (pe_callC c_law_same (hr.mono (by decide)) rfl (L2N.passes_call (L2N.takes_of rfl rfl rfl rfl) (fun _ _ _ _ h => h)) (pa_cons (pv 7) (pa_cons (pv 8) pa_nil))))) (pw_or1 (pt_not (pt_val (pe_callC c_law_walks (hr.mono (by decide)) rfl (L2N.passes_call (L2N.takes_of rfl rfl rfl rfl) (fun _ _ _ _ h => h)) (pa_cons (pv 7) (pa_cons (pv 6) pa_nil)))))))) (pss_one (ps_ret pe_bl)) pss_nil)
  (pss_cons (ps_expr (pe_bm0 PySem.F.plainAttrs_list PySem.F.slot_list_clear PySem.F.type_list_clear mt_clear (pv 7)))
  (pss_cons (ps_if (pt_not (pt_val (pe_callC c_law_same (hr.mono (by decide)) rfl (L2N.passes_call (L2N.takes_of rfl rfl rfl rfl) (fun _ _ _ _ h => h)) (pa_cons (pe_callC c_folded_cells (hr.mono (by decide)) rfl (L2N.passes_call (L2N.takes_of rfl rfl rfl rfl) (fun _ _ _ _ h => h)) (pa_cons (pv 6) pa_nil)) (pa_cons (pv 8) pa_nil))))) (pss_one (ps_ret pe_bl)) pss_nil)
  (pss_cons (ps_set (i := 9) sc_law.nd rfl (by first | exact Or.inl rfl | exact Or.inr rfl) (pe_ix ix_U (pe_lst (pa_cons pe_int (pa_cons pe_int pa_nil))) (pe_callTy call_intU (by rfl) (T.free 11) (by decide +kernel) (pa_cons (pe_and (pe_cmpR (op_eqU hr.units) (pv 3) pe_int (nomark _)) (pe_one (pe_cmpR (op_eqU hr.units) (pe_op op_mod (pe_op op_divU (pv 5) pe_int) pe_int) pe_int (nomark _)))) pa_nil)) (fun _ _ => rfl)))
  (pss_cons (ps_set (i := 10) sc_law.nd rfl (by first | exact Or.inl rfl | exact Or.inr rfl) (pe_op op_addU pe_int (pe_op op_mod (pe_op op_divU (pv 5) pe_int) (pv 9))))
  (pss_cons (ps_set (i := 11) sc_law.nd rfl (by first | exact Or.inl rfl | exact Or.inr rfl) (pe_op op_addU pe_int (pe_op op_mod (pe_op op_divU (pv 5) pe_int) (pv 9))))
  (pss_cons (ps_if (PW.pt (pw_and (pt_cmpR (op_eqU hr.units) (pv 3) pe_int (nomark _)) (pw_and1 (pt_cmpR (op_eqU hr.units) (pe_op op_mod (pe_op op_divU (pv 5) pe_int) pe_int) pe_int (nomark _))))) (pss_one (ps_asg (pe_ix ix_U (pe_lst (pa_cons (pe_tup (pa_cons pe_int (pa_cons pe_int pa_nil))) (pa_cons (pe_tup (pa_cons pe_int (pa_cons pe_int pa_nil))) (pa_cons (pe_tup (pa_cons pe_int (pa_cons pe_int pa_nil))) pa_nil)))) (pe_op op_mod (pe_op op_divU (pv 5) pe_int) pe_int) (fun _ _ => rfl)) (pg_tupU (by rfl) (pgs_cons (pg_name (i := 10) sc_law.nd rfl (by first | exact Or.inl rfl | exact Or.inr rfl)) (pgs_cons (pg_name (i := 11) sc_law.nd rfl (by first | exact Or.inl rfl | exact Or.inr rfl)) pgs_nil))))) pss_nil)
  (pss_cons (ps_set (i := 12) sc_law.nd rfl (by first | exact Or.inl rfl | exact Or.inr rfl) pe_int)
  (pss_cons (ps_while (passes_of rfl) (PW.pt (pw_or (pt_cmpR op_lt (pv 12) (pv 10) (nomark _)) (pw_or1 (pt_cmpR op_lt (pv 12) (pv 11) (nomark _))))) (pss_one (ps_set (i := 12) sc_law.nd rfl (by first | exact Or.inl rfl | exact Or.inr rfl) (pe_op op_mulU (pv 12) pe_int))))
  (pss_cons (ps_set (i := 13) sc_law.nd rfl (by first | exact Or.inl rfl | exact Or.inr rfl) (pe_methA mt_order (hr.mono (by decide)) (L2N.passes_call (L2N.takes_of rfl rfl rfl rfl) (fun _ _ _ _ h => h)) (pv 2) (pa_cons (pv 10) (pa_cons (pv 11) pa_nil))))
  (pss_cons (ps_setLc (i := 14) (own := [("_law_place", 15)]) (g := (gName 15)) (tt := tYes) (te := (tCall (sp_law_curve K) [] E0 (tCons (tVar 12) (tCons (tVar 15) tNil))))  (by rfl) sc_law.nd rfl rfl (sw_true rfl rfl rfl (by decide +kernel)) (pi_range1 rfl (T.free 2) (pa_cons (pe_op op_mulU (pv 12) (pv 12)) pa_nil)) (blkOk_by (own := [("_law_place", 15)]) (by rfl)) (fun _ _ _ _ _ => (pg_name (i := 15) sc_law.nd rfl (by first | exact Or.inl rfl | exact Or.inr rfl))) (fun _ _ _ _ _ => pts_nil) (fun _ _ _ _ _ => (pe_callC c_law_curve (hr.mono (by decide)) rfl passLN (pa_cons (pv 12) (pa_cons (pv 15) pa_nil)))))
  (pss_cons (ps_setLc (i := 8) (own := [("_law_pair", 16)]) (g := (gName 16)) (tt := (tAnd (tTest (tOp rLtI (tOp (rIxU K) (tVar 16) (tC (.int 0))) (tVar 10))) (tTest (tOp rLtI (tOp (rIxU K) (tVar 16) (tC (.int 1))) (tVar 11))))) (te := (tVar 16))  (by rfl) sc_law.nd rfl rfl (sw_true rfl rfl rfl (by decide +kernel)) (pi_seq (pv 14)) (blkOk_by (own := [("_law_pair", 16)]) (by rfl)) (fun _ _ _ _ _ => (pg_name (i := 16) sc_law.nd rfl (by first | exact Or.inl rfl | exact Or.inr rfl))) (fun _ _ _ _ _ => (pts_one (PW.pt (pw_and (pt_cmpR op_lt (pe_ix ix_U (pv 16) pe_int (fun _ _ => rfl)) (pv 10) (nomark _)) (pw_and1 (pt_cmpR op_lt (pe_ix ix_U (pv 16) pe_int (fun _ _ => rfl)) (pv 11) (nomark _))))))) (fun _ _ _ _ _ => (pv 16)))
  (pss_cons (ps_if (pt_not (pt_val (pe_callC c_law_same (hr.mono (by decide)) rfl (L2N.passes_call (L2N.takes_of rfl rfl rfl rfl) (fun _ _ _ _ h => h)) (pa_cons (pv 13) (pa_cons (pv 8) pa_nil))))) (pss_one (ps_ret pe_bl)) pss_nil)
  (pss_cons (ps_expr (pe_bm0 PySem.F.plainAttrs_list PySem.F.slot_list_reverse PySem.F.type_list_reverse mt_reverse (pv 13)))
  (pss_cons (ps_expr (pe_bm0 PySem.F.plainAttrs_list PySem.F.slot_list_pop PySem.F.type_list_pop mt_pop (pv 13)))
  (pss_one (ps_if (pt_not (pt_val (pe_callC c_law_same (hr.mono (by decide)) rfl (L2N.passes_call (L2N.takes_of rfl rfl rfl rfl) (fun _ _ _ _ h => h)) (pa_cons (pe_methA mt_order (hr.mono (by decide)) (L2N.passes_call (L2N.takes_of rfl rfl rfl rfl) (fun _ _ _ _ h => h)) (pv 2) (pa_cons (pv 10) (pa_cons (pv 11) pa_nil))) (pa_cons (pv 8) pa_nil))))) (pss_one (ps_ret pe_bl)) pss_nil))))))))))))))))))))))
  (pss_one (ps_ret (pe_callC c_law_same (hr.mono (by decide)) rfl (L2N.passes_call (L2N.takes_of rfl rfl rfl rfl) (fun _ _ _ _ h => h)) (pa_cons (pe_methA mt_order (hr.mono (by decide)) (L2N.passes_call (L2N.takes_of rfl rfl rfl rfl) (fun _ _ _ _ h => h)) (pe_makePlain (tx_mko_FoldedWay T) rfl (T.glo 15)) (pa_cons pe_int (pa_cons pe_int pa_nil))) (pa_cons (pe_lst (pa_cons (pe_tup (pa_cons pe_int (pa_cons pe_int pa_nil))) pa_nil)) pa_nil))))))))), pure_law T vs H Q E h⟩)
end
end Dot
end
namespace Dot
open PySem PySem.Spec PyProof.Rows L2 DK
/-- a draw -/
theorem next_ok (ns : List Int) (n : Int) (h0 : 0 ≤ n) (h1 : n ≤ 1000000000) : ∃ m, m_law_next ns [n] = .ok (m, [n + 1]) ∧ 0 ≤ m ∧ m < 1999999973 := by
  unfold m_law_next
  simp only [ixR_zero, Rs.bnd_ok, setR_zero]
  have fin : ∀ c : Int, ∃ m, (grd (mulOk (n + 1) (n + 1) = true) <| grd (mulOk (((((c % 2147483647) + (((n + 1) * (n + 1)) * 7919)) + 11) * 48271) % 2147483647) (((((c % 2147483647) + (((n + 1) * (n + 1)) * 7919)) + 11) * 48271) % 2147483647) = true) <| .ok (((((((((c % 2147483647) + (((n + 1) * (n + 1)) * 7919)) + 11) * 48271) % 2147483647) * (((((c % 2147483647) + (((n + 1) * (n + 1)) * 7919)) + 11) * 48271) % 2147483647)) % 1999999973), [n + 1])) : Rs (Int × List Int)) = .ok (m, [n + 1]) ∧ 0 ≤ m ∧ m < 1999999973 := by
    intro c
    rw [grd_of (DK.mulOk_of (by omega) (by omega) (by omega) (by omega))]
    have a0 := Int.emod_nonneg (((((c % 2147483647) + (((n + 1) * (n + 1)) * 7919)) + 11) * 48271)) (b := 2147483647) (by decide)
    have a1 := Int.emod_lt_of_pos (((((c % 2147483647) + (((n + 1) * (n + 1)) * 7919)) + 11) * 48271)) (b := 2147483647) (by decide)
    generalize (((((c % 2147483647) + (((n + 1) * (n + 1)) * 7919)) + 11) * 48271)) % 2147483647 = x at *
    rw [grd_of (DK.mulOk_of (by omega) (by omega) (by omega) (by omega))]
    exact ⟨_, rfl, Int.emod_nonneg _ (by decide), Int.emod_lt_of_pos _ (by decide)⟩
  by_cases hl : 0 < (ns.length : Int)
  · rw [if_pos hl]
    rw [grd_of hl]
    obtain ⟨x, hx, _⟩ := ixR_in (xs := ns) (i := (n + 1) % (ns.length : Int)) (Int.emod_nonneg _ (by omega)) (Int.emod_lt_of_pos _ hl)
    rw [hx]
    exact fin x
  · rw [if_neg hl]
    exact fin 0

theorem w_pick {α β : Type} {xs : List α} {i : Int} {k : α → Rs β} {P : β → Prop} {X : Xc → Option Int → Prop} (h0 : 0 ≤ i) (h1 : i < (xs.length : Int)) (z : ∀ x ∈ xs, Post (k x) P X) : Post ((ixR xs i).bnd k) P X :=
  w_ix h0 h1 fun x hx => z x (List.mem_of_getElem? hx)

/-! slices -/
theorem cutL_from {α : Type} {xs : List α} {i : Int} (h : 0 ≤ i) : cutL xs (some i) none = xs.drop i.toNat := by
  obtain ⟨k, rfl⟩ : ∃ k : Nat, i = (k : Int) := ⟨i.toNat, by omega⟩
  unfold cutL
  rw [HT.sIx_nat, HT.sIx_none, Int.toNat_natCast]
  by_cases z : k ≤ xs.length
  · rw [Nat.min_eq_left z, List.take_of_length_le (by rw [List.length_drop]; omega)]
  · rw [Nat.min_eq_right (by omega), List.drop_of_length_le (by omega), List.drop_of_length_le (by omega)]; simp
theorem cutL_to {α : Type} {xs : List α} {i : Int} (h : 0 ≤ i) : cutL xs none (some i) = xs.take i.toNat := by
  obtain ⟨k, rfl⟩ : ∃ k : Nat, i = (k : Int) := ⟨i.toNat, by omega⟩
  unfold cutL
  rw [HT.sIx_nat, HT.sIx_none, Int.toNat_natCast, List.drop_zero, Nat.sub_zero]
  by_cases z : k ≤ xs.length
  · rw [Nat.min_eq_left z]
  · rw [Nat.min_eq_right (by omega), List.take_of_length_le (by omega), List.take_of_length_le (by omega)]
theorem sIx_neg {n d : Nat} {i : Int} (h : i < 0) : HT.sIx n d (some i) = (i + (n : Int)).toNat := if_pos h
theorem cutL_init {α : Type} {xs : List α} : cutL xs none (some (-1)) = xs.take (xs.length - 1) := by
  unfold cutL
  rw [sIx_neg (by decide), HT.sIx_none, List.drop_zero, Nat.sub_zero]
  congr 1; omega
theorem cutL_end {α : Type} {xs : List α} : cutL xs (some (-1)) none = xs.drop (xs.length - 1) := by
  unfold cutL
  rw [sIx_neg (by decide), HT.sIx_none, show ((-1 : Int) + (xs.length : Int)).toNat = xs.length - 1 by omega]
  exact List.take_of_length_le (by rw [List.length_drop]; omega)
theorem ixR_end {α : Type} {xs : List α} {x : α} (h : xs[xs.length - 1]? = some x) : ixR xs (-1) = .ok x := by
  have hl := (List.getElem?_eq_some_iff.mp h).1
  have : atI xs (-1) = some x := by
    unfold atI ixN
    rw [if_neg (by decide), if_pos (by omega)]
    show xs[((-1 : Int) + (xs.length : Nat)).toNat]? = _
    rw [show ((-1 : Int) + (xs.length : Nat)).toNat = xs.length - 1 by omega]
    exact h
  unfold ixR; rw [this]
theorem cutL_mid {α : Type} {xs : List α} {i t : Nat} : cutL xs (some (i : Int)) (some ((i : Int) + (t : Int))) = (xs.drop i).take t := by
  unfold cutL
  rw [show (i : Int) + (t : Int) = ((i + t : Nat) : Int) by omega, HT.sIx_nat, HT.sIx_nat]
  by_cases z : i ≤ xs.length
  · rw [Nat.min_eq_left z]
    by_cases y : i + t ≤ xs.length
    · rw [Nat.min_eq_left y, Nat.add_sub_cancel_left]
    · rw [Nat.min_eq_right (by omega), List.take_of_length_le (by rw [List.length_drop]; omega), List.take_of_length_le (by rw [List.length_drop]; omega)]
  · rw [Nat.min_eq_right (by omega), List.drop_of_length_le (by omega), List.drop_of_length_le (by omega)]; simp
theorem acc_range {β : Type} {acc : List β} {n : Nat} {f : Nat → β} (hl : acc.length = n) (h : ∀ k b, acc[k]? = some b → b = f k) : acc = (List.range n).map f := by
  refine ext_at (by rw [hl, List.length_map, List.length_range]) fun i x y hx hy => ?_
  rw [h i x hx]
  rw [List.getElem?_map] at hy
  cases hr : (List.range n)[i]? with
  | none => rw [hr] at hy; cases hy
  | some z =>
    rw [hr] at hy
    cases hy
    obtain ⟨hh1, hh2⟩ := List.getElem?_eq_some_iff.mp hr
    rw [List.getElem_range] at hh2
    rw [hh2]

/-! ways -/
theorem ask_size_ok {r c : Int} (h1 : 1 ≤ r) (h2 : 1 ≤ c) : m_ask_size r c = .ok () := by
  unfold m_ask_size
  rw [if_neg (by omega), Rs.bnd_ok, decide_eq_false (by omega), if_neg (by decide)]
theorem ask_size_no {r c : Int} (h : r < 1 ∨ c < 1) : m_ask_size r c = .exc .out none := by
  unfold m_ask_size
  by_cases z : r < 1
  · rw [if_pos z, Rs.bnd_ok, if_pos rfl]
  · rw [if_neg z, Rs.bnd_ok, decide_eq_true (by omega), if_pos rfl]
theorem rngI_nat (n : Nat) : rngI 0 (n : Int) = (List.range n).map fun k : Nat => (k : Int) := by
  unfold rngI
  rw [show ((n : Int) - 0).toNat = n by omega]
  refine List.map_congr_left fun k _ => ?_
  simp
theorem flat_succ {β : Type} (f : Nat → List β) (n : Nat) : (List.range (n + 1)).flatMap f = (List.range n).flatMap f ++ f n := by
  rw [List.range_succ, List.flatMap_append]; simp
theorem range_flat {β : Type} (f : Nat → β) (m : Nat) : ∀ n : Nat, (List.range (n * m)).map f = (List.range n).flatMap fun i => (List.range m).map fun j => f (i * m + j)
  | 0 => by simp
  | n + 1 => by
    rw [Nat.succ_mul, List.range_add, List.map_append, flat_succ, range_flat f m n, List.map_map]
    rfl
theorem rev_range {β : Type} (f : Nat → β) (m : Nat) : ((List.range m).map f).reverse = (List.range m).map fun j => f (m - 1 - j) := by
  refine ext_at (by simp) fun i x y hx hy => ?_
  have hl := lt_of_at hy
  rw [List.length_map, List.length_range] at hl
  rw [List.getElem?_reverse (by rw [List.length_map, List.length_range]; exact hl), List.length_map, List.length_range, List.getElem?_map, List.getElem?_range (by omega)] at hx
  rw [List.getElem?_map, List.getElem?_range hl] at hy
  cases hx; cases hy; rfl
theorem flat_congr {β : Type} {f g : Nat → List β} : ∀ n : Nat, (∀ i, i < n → f i = g i) → (List.range n).flatMap f = (List.range n).flatMap g
  | 0, _ => rfl
  | n + 1, h => by rw [flat_succ, flat_succ, flat_congr n (fun i hi => h i (by omega)), h n (by omega)]
theorem flat_len2 {β : Type} {f : Nat → List β} {m : Nat} : ∀ n : Nat, (∀ i, i < n → (f i).length = m) → ((List.range n).flatMap f).length = n * m
  | 0, _ => by simp
  | n + 1, h => by rw [flat_succ, List.length_append, flat_len2 n (fun i hi => h i (by omega)), h n (by omega), Nat.succ_mul]
def rowsF (c k : Nat) : Int × Int := (((k / c : Nat) : Int), ((k % c : Nat) : Int))
def froF (c k : Nat) : Int × Int := (((k / c : Nat) : Int), if k / c % 2 = 0 then ((k % c : Nat) : Int) else ((c - 1 - k % c : Nat) : Int))
def colsF (r k : Nat) : Int × Int := (((k % r : Nat) : Int), ((k / r : Nat) : Int))
def rowsO (r c : Nat) : List (Int × Int) := (List.range (r * c)).map (rowsF c)
def froO (r c : Nat) : List (Int × Int) := (List.range (r * c)).map (froF c)
def colsO (r c : Nat) : List (Int × Int) := (List.range (r * c)).map (colsF r)
section
variable {r c : Nat} (r1 : 1 ≤ r) (c1 : 1 ≤ c) (r2 : r ≤ 1000) (c2 : c ≤ 1000)
include r1 c1 r2 c2
theorem area_le : r * c ≤ 1000000 := Nat.le_trans (Nat.mul_le_mul r2 c2) (by decide)
theorem rows_map : mapR (fun (y1 : Int) => grd (divOk (c : Int) = true) <| grd ((0 : Int) < (c : Int)) <| .ok (some ((y1 / (c : Int)), (y1 % (c : Int))))) (rngI 0 ((r : Int) * (c : Int))) = .ok (rowsO r c) := by
  rw [mapR_map (fun y : Int => (y / (c : Int), y % (c : Int))) _ fun y _ => by rw [grd_of (DK.divOk_of (by omega) (by omega)), grd_of (by omega)]]
  rw [← Int.natCast_mul, rngI_nat, List.map_map]
  unfold rowsO
  congr 1
theorem rows_order : m_Way_order () r c = .ok (rowsO r c) := by
  have a := area_le r1 c1 r2 c2
  unfold m_Way_order
  have e : ((r : Int) * (c : Int)) = ((r * c : Nat) : Int) := (Int.natCast_mul r c).symm
  rw [ask_size_ok (by omega) (by omega), Rs.bnd_ok, grd_of (DK.mulOk_of (by omega) (by omega) (by omega) (by omega)), grd_of (DK.rngOk_of (by omega) (by omega) (by rw [e]; omega) (by rw [e]; omega)), grd_of (by rw [e]; omega), rows_map r1 c1 r2 c2]
  rfl
end
/-! the folded curve -/
def foldC : Nat → List (Int × Int)
  | 0 => [(0, 0)]
  | n + 1 => (((foldC n).map fun y => (y.2, y.1)) ++ ((foldC n).map fun y => (((2 ^ n : Nat) : Int) + y.1, y.2)) ++ ((foldC n).map fun y => (((2 ^ n : Nat) : Int) + y.1, ((2 ^ n : Nat) : Int) + y.2))) ++ (foldC n).map fun y => ((((2 ^ n : Nat) : Int) - 1) - y.2, ((2 * ((2 ^ n : Nat) : Int)) - 1) - y.1)
theorem foldC_len : ∀ n, (foldC n).length = 4 ^ n
  | 0 => rfl
  | n + 1 => by
    unfold foldC
    simp only [List.length_append, List.length_map, foldC_len n]
    rw [Nat.pow_succ]; omega
theorem folded_ok : ∀ (n d : Nat), n < d → n ≤ 8 → mn_folded_cells d ((2 ^ n : Nat) : Int) = .ok (foldC n)
  | _, 0, h, _ => by omega
  | 0, d + 1, _, _ => by
    unfold mn_folded_cells
    rw [if_pos (by decide)]; rfl
  | n + 1, d + 1, h, h8 => by
    have l := foldC_len n
    have p : 4 ^ n ≤ 4 ^ 7 := Nat.pow_le_pow_right (by decide) (by omega)
    have e : (((2 ^ (n + 1) : Nat) : Int) / 2) = ((2 ^ n : Nat) : Int) := by rw [Nat.pow_succ]; omega
    have p2 : 0 < 2 ^ n := Nat.pow_pos (by decide)
    unfold mn_folded_cells
    rw [if_neg (by rw [Nat.pow_succ]; omega), e, folded_ok n d (by omega) (by omega), Rs.bnd_ok, grd_of (by omega), mapR_map (fun y : Int × Int => (y.2, y.1)) _ (fun _ _ => rfl), Rs.bnd_ok, grd_of (by omega), mapR_map (fun y : Int × Int => (((2 ^ n : Nat) : Int) + y.1, y.2)) _ (fun _ _ => rfl), Rs.bnd_ok]
    rw [grd_of (by rw [List.length_map, List.length_map]; omega), grd_of (by omega), mapR_map (fun y : Int × Int => (((2 ^ n : Nat) : Int) + y.1, ((2 ^ n : Nat) : Int) + y.2)) _ (fun _ _ => rfl), Rs.bnd_ok]
    rw [grd_of (by rw [List.length_append, List.length_map, List.length_map, List.length_map]; omega), grd_of (by omega), mapR_map (fun y : Int × Int => ((((2 ^ n : Nat) : Int) - 1) - y.2, ((2 * ((2 ^ n : Nat) : Int)) - 1) - y.1)) _ (fun _ _ => rfl), Rs.bnd_ok]
    rw [grd_of (by rw [List.length_append, List.length_append, List.length_map, List.length_map, List.length_map, List.length_map]; omega)]
    rfl
/-- the least curve that has a size -/
def foldN : Nat → Nat → Nat → Nat
  | 0, n, _ => n
  | d + 1, n, m => if 2 ^ n < m then foldN d (n + 1) m else n
theorem foldN_ge : ∀ d n m, n ≤ foldN d n m
  | 0, n, m => Nat.le_refl _
  | d + 1, n, m => by
    unfold foldN
    split
    · have := foldN_ge d (n + 1) m; omega
    · exact Nat.le_refl _
theorem foldN_le : ∀ d n m, foldN d n m ≤ n + d
  | 0, n, m => Nat.le_refl _
  | d + 1, n, m => by
    unfold foldN
    split
    · have := foldN_le d (n + 1) m; omega
    · omega
theorem foldN_has : ∀ d n m, m ≤ 2 ^ (n + d) → m ≤ 2 ^ foldN d n m
  | 0, n, m, h => h
  | d + 1, n, m, h => by
    unfold foldN
    split
    · exact foldN_has d (n + 1) m (by rw [show n + 1 + d = n + (d + 1) by omega]; exact h)
    · omega
def foldO (r c : Nat) : List (Int × Int) := (foldC (foldN 7 0 (max r c))).filter fun p => decide (p.1 < (r : Int)) && decide (p.2 < (c : Int))
theorem fold_order {r c : Nat} (r1 : 1 ≤ r) (c1 : 1 ≤ c) (r2 : r ≤ 128) (c2 : c ≤ 128) : m_FoldedWay_order () r c = .ok (foldO r c) := by
  have key : Post (m_FoldedWay_order () r c) (fun x => x = foldO r c) fun _ _ => False := by
    unfold m_FoldedWay_order
    rw [ask_size_ok (by omega) (by omega), Rs.bnd_ok]
    have step : ∀ d n : Nat, n + d = 7 → ∀ N, d < N → (∀ {P : Ctl Int (List (Int × Int)) → Prop}, P (.nx ((2 ^ foldN d n (max r c) : Nat) : Int)) → Post (whileR (R := (List (Int × Int))) (fun (x2 : Int) => Rs.bnd (if x2 < (r : Int) then (.ok true) else (.ok (decide (x2 < (c : Int)))) : Rs Bool) fun b1 => .ok (b1)) (fun (x2 : Int) => .ok (.nx (x2 * 2))) N ((2 ^ n : Nat) : Int)) P fun _ _ => False) := by
      intro d
      induction d with
      | zero =>
        intro n hn N hN P h
        obtain ⟨N, rfl⟩ : ∃ N', N = N' + 1 := ⟨N - 1, by omega⟩
        have e : n = 7 := by omega
        subst e
        rw [whileR_end (by
          rw [if_neg (by have : (2 ^ 7 : Nat) = 128 := rfl; omega), Rs.bnd_ok, decide_eq_false (by have : (2 ^ 7 : Nat) = 128 := rfl; omega)])]
        exact h
      | succ d ih =>
        intro n hn N hN P h
        obtain ⟨N, rfl⟩ : ∃ N', N = N' + 1 := ⟨N - 1, by omega⟩
        by_cases z : 2 ^ n < max r c
        · rw [whileR_step (s' := ((2 ^ (n + 1) : Nat) : Int)) (by
            by_cases y : ((2 ^ n : Nat) : Int) < (r : Int)
            · rw [if_pos y, Rs.bnd_ok]
            · rw [if_neg y, Rs.bnd_ok, decide_eq_true (by omega)]) (by rw [Nat.pow_succ]; push_cast; rfl)]
          refine ih (n + 1) (by omega) N (by omega) ?_
          unfold foldN at h
          rw [if_pos z] at h
          exact h
        · rw [whileR_end (by rw [if_neg (by omega), Rs.bnd_ok, decide_eq_false (by omega)])]
          unfold foldN at h
          rw [if_neg z] at h
          exact h
    refine w_thn (step 7 0 rfl 1000000 (by decide) ?_)
    have n7 := foldN_le 7 0 (max r c)
    show Post ((m_folded_cells _).bnd _) _ _
    unfold m_folded_cells
    have l := foldC_len (foldN 7 0 (max r c))
    have p : 4 ^ (foldN 7 0 (max r c)) ≤ 4 ^ 7 := Nat.pow_le_pow_right (by decide) (by omega)
    rw [folded_ok _ 8 (by omega) (by omega), Rs.bnd_ok, grd_of (by omega)]
    rw [mapR_filter (fun p : Int × Int => decide (p.1 < (r : Int)) && decide (p.2 < (c : Int))) _ fun y _ => by
      by_cases z : y.1 < (r : Int)
      · rw [if_pos z, Rs.bnd_ok, decide_eq_true z, Bool.true_and]; split <;> rfl
      · rw [if_neg z, Rs.bnd_ok, decide_eq_false z, Bool.false_and]; rfl]
    rfl
  exact key.okD

theorem walks_ok : ∀ n < 5, m_law_walks (foldC n) ((2 ^ n : Nat) : Int) = .ok true := by decide +kernel
theorem mapR_rng {β : Type} {f : Int → Rs (Option β)} {L : List β} (h : ∀ (j : Nat) x, L[j]? = some x → f (j : Int) = .ok (some x)) : mapR f (rngI 0 (L.length : Int)) = .ok L := by
  refine Post.okD (w_mapI _ (fun j x => L[j]? = some x) ?_ ?_)
  · intro i x hx
    have il := lt_of_at hx
    rw [rngI_len] at il
    have e := rngI_at hx
    have e' : x = (i : Int) := by omega
    subst e'
    obtain ⟨y, hy⟩ := at_of_lt (xs := L) (i := i) (by omega)
    exact w_eq (h i y hy) ⟨y, rfl, hy⟩
  · intro r hl hr
    rw [rngI_len] at hl
    refine ext_at (by omega) fun i x y hx hy => ?_
    have := hr i x hx
    rw [this] at hy
    exact Option.some.inj hy
def turnT (n d : Nat) (y : Int × Int) : Int × Int := if d = 0 then (y.2, y.1) else if d = 1 then (((2 ^ n : Nat) : Int) + y.1, y.2) else if d = 2 then (((2 ^ n : Nat) : Int) + y.1, ((2 ^ n : Nat) : Int) + y.2) else ((((2 ^ n : Nat) : Int) - 1) - y.2, ((2 * ((2 ^ n : Nat) : Int)) - 1) - y.1)
theorem foldC_at {n d q : Nat} {y : Int × Int} (hd : d < 4) (h : (foldC n)[q]? = some y) : (foldC (n + 1))[d * 4 ^ n + q]? = some (turnT n d y) := by
  have l := foldC_len n
  have ql := lt_of_at h
  unfold foldC
  rcases (show d = 0 ∨ d = 1 ∨ d = 2 ∨ d = 3 by omega) with rfl | rfl | rfl | rfl
  · rw [List.getElem?_append_left (by simp only [List.length_append, List.length_map]; omega), List.getElem?_append_left (by simp only [List.length_append, List.length_map]; omega), List.getElem?_append_left (by simp only [List.length_map]; omega), List.getElem?_map, show 0 * 4 ^ n + q = q by omega, h]; rfl
  · rw [List.getElem?_append_left (by simp only [List.length_append, List.length_map]; omega), List.getElem?_append_left (by simp only [List.length_append, List.length_map]; omega), List.getElem?_append_right (by simp only [List.length_map]; omega), List.getElem?_map, List.length_map, show 1 * 4 ^ n + q - (foldC n).length = q by omega, h]; rfl
  · rw [List.getElem?_append_left (by simp only [List.length_append, List.length_map]; omega), List.getElem?_append_right (by simp only [List.length_append, List.length_map]; omega), List.getElem?_map, List.length_append, List.length_map, List.length_map, show 2 * 4 ^ n + q - ((foldC n).length + (foldC n).length) = q by omega, h]; rfl
  · rw [List.getElem?_append_right (by simp only [List.length_append, List.length_map]; omega), List.getElem?_map, List.length_append, List.length_append, List.length_map, List.length_map, List.length_map, show 3 * 4 ^ n + q - ((foldC n).length + (foldC n).length + (foldC n).length) = q by omega, h]; rfl
theorem curve_ok {n : Nat} (hn : n ≤ 8) {p : Nat} {y : Int × Int} (h : (foldC n)[p]? = some y) : m_law_curve ((2 ^ n : Nat) : Int) (p : Int) = .ok y := by
  have pl := lt_of_at h
  rw [foldC_len] at pl
  refine Post.okD ?_
  unfold m_law_curve
  refine w_thn (w_while (fun (s : Int × Int × Int) => ∃ k, k ≤ n ∧ s.2.2 = ((2 ^ k : Nat) : Int) ∧ (foldC k)[p % 4 ^ k]? = some (s.1, s.2.1)) (fun s => (1000 - s.2.2).toNat) ?_ _ _ ⟨0, Nat.zero_le _, rfl, by rw [Nat.pow_zero, Nat.mod_one]; rfl⟩ (by decide))
  rintro ⟨a, b, hf⟩ ⟨k, hk, e, hq⟩
  dsimp only at e hq ⊢
  subst e
  have p0 : 0 < 2 ^ k := Nat.pow_pos (by decide)
  by_cases z : k < n
  · have lt : 2 ^ k < 2 ^ n := Nat.pow_lt_pow_right (by decide) z
    have le : 2 ^ k ≤ 2 ^ 7 := Nat.pow_le_pow_right (by decide) (by omega)
    have le : 2 ^ k ≤ 128 := le
    refine w_ok ?_
    rw [if_pos (decide_eq_true (by omega))]
    have sq : ((2 ^ k : Nat) : Int) * ((2 ^ k : Nat) : Int) = ((4 ^ k : Nat) : Int) := by
      rw [← Int.natCast_mul, ← Nat.mul_pow]
    have q0 : 0 < 4 ^ k := Nat.pow_pos (by decide)
    have q1 : 4 ^ k ≤ 4 ^ 7 := Nat.pow_le_pow_right (by decide) (by omega)
    have q1 : 4 ^ k ≤ 16384 := q1
    rw [sq]
    refine w_grd (DK.mulOk_of (by omega) (by omega) (by omega) (by omega)) (w_grd (DK.divOk_of (by omega) (by omega)) ?_)
    have ed : (p : Int) / ((4 ^ k : Nat) : Int) % 4 = ((p / 4 ^ k % 4 : Nat) : Int) := by
      rw [Int.natCast_emod, Int.natCast_ediv]; rfl
    rw [ed]
    have dl : p / 4 ^ k % 4 < 4 := Nat.mod_lt _ (by decide)
    have eq : p % 4 ^ (k + 1) = (p / 4 ^ k % 4) * 4 ^ k + p % 4 ^ k := by
      rw [Nat.pow_succ, Nat.mod_mul, Nat.mul_comm]; omega
    have nx := foldC_at dl hq
    rw [← eq] at nx
    generalize p / 4 ^ k % 4 = d at dl nx ⊢
    have e2 : ((2 ^ k : Nat) : Int) * 2 = ((2 ^ (k + 1) : Nat) : Int) := by rw [Nat.pow_succ]; push_cast; rfl
    refine w_thn ?_
    rcases (show d = 0 ∨ d = 1 ∨ d = 2 ∨ d = 3 by omega) with rfl | rfl | rfl | rfl
    · rw [if_pos (by decide)]
      exact w_ok (X := fun _ _ => False) ⟨⟨k + 1, by omega, e2, by rw [nx]; rfl⟩, by dsimp only; omega⟩
    · rw [if_neg (by decide), if_pos (by decide)]
      exact w_thn (w_ok (X := fun _ _ => False) (w_ok (X := fun _ _ => False) ⟨⟨k + 1, by omega, e2, by rw [nx]; rfl⟩, by dsimp only; omega⟩))
    · rw [if_neg (by decide), if_neg (by decide), if_pos (by decide)]
      exact w_thn (w_thn (w_ok (X := fun _ _ => False) (w_ok (X := fun _ _ => False) (w_ok (X := fun _ _ => False) ⟨⟨k + 1, by omega, e2, by rw [nx]; rfl⟩, by dsimp only; omega⟩))))
    · rw [if_neg (by decide), if_neg (by decide), if_neg (by decide)]
      exact w_thn (w_thn (w_ok (X := fun _ _ => False) (w_ok (X := fun _ _ => False) (w_ok (X := fun _ _ => False) ⟨⟨k + 1, by omega, e2, by rw [nx]; rfl⟩, by dsimp only; omega⟩))))
  · have ek : k = n := by omega
    subst ek
    refine w_ok ?_
    rw [if_neg (by rw [decide_eq_false (by omega)]; decide)]
    rw [Nat.mod_eq_of_lt pl, h] at hq
    exact w_ok (X := fun _ _ => False) (Option.some.inj hq).symm
theorem curves_ok {n : Nat} (hn : n ≤ 6) : mapR (fun (y2 : Int) => (noX <| m_law_curve ((2 ^ n : Nat) : Int) y2).bnd fun x6 => (.ok (some x6) : Rs (Option (Int × Int)))) (rngI 0 (((2 ^ n : Nat) : Int) * ((2 ^ n : Nat) : Int))) = .ok (foldC n) := by
  have e : ((2 ^ n : Nat) : Int) * ((2 ^ n : Nat) : Int) = ((foldC n).length : Int) := by
    rw [foldC_len, ← Int.natCast_mul, ← Nat.mul_pow]
  rw [e]
  exact mapR_rng fun j x hx => by rw [curve_ok (by omega) hx]; rfl
theorem least_ok {R : Type} {r c : Nat} (r2 : r ≤ 128) (c2 : c ≤ 128) : Post (whileR (R := R) (fun (x14 : Int) => Rs.bnd (if x14 < (r : Int) then (.ok true) else (.ok (decide (x14 < (c : Int)))) : Rs Bool) fun b4 => .ok (b4)) (fun (x14 : Int) => .ok (.nx (x14 * 2))) 1000000 1) (fun q => q = .nx ((2 ^ foldN 7 0 (max r c) : Nat) : Int)) fun _ _ => False := by
  refine w_while (fun (s : Int) => ∃ n, n ≤ 7 ∧ s = ((2 ^ n : Nat) : Int) ∧ foldN (7 - n) n (max r c) = foldN 7 0 (max r c)) (fun s => (1000 - s).toNat) ?_ _ _ ⟨0, by omega, rfl, rfl⟩ (by decide)
  rintro s ⟨n, hn, rfl, e⟩
  have p0 : 0 < 2 ^ n := Nat.pow_pos (by decide)
  have le : 2 ^ n ≤ 2 ^ 7 := Nat.pow_le_pow_right (by decide) hn
  have le : 2 ^ n ≤ 128 := le
  have cond : (Rs.bnd (if ((2 ^ n : Nat) : Int) < (r : Int) then (.ok true) else (.ok (decide (((2 ^ n : Nat) : Int) < (c : Int)))) : Rs Bool) fun b4 => .ok (b4)) = .ok (decide (2 ^ n < max r c)) := by
    by_cases z : ((2 ^ n : Nat) : Int) < (r : Int)
    · rw [if_pos z, Rs.bnd_ok, decide_eq_true (by omega)]
    · rw [if_neg z, Rs.bnd_ok]
      congr 1
      rw [decide_eq_decide]
      omega
  rw [cond]
  refine w_ok ?_
  by_cases z : 2 ^ n < max r c
  · rw [if_pos (decide_eq_true z)]
    have n7 : n < 7 := by
      rcases Nat.lt_or_ge n 7 with h | h
      · exact h
      · have : n = 7 := by omega
        subst this
        have : (2 ^ 7 : Nat) = 128 := rfl
        omega
    refine w_ok (X := fun _ _ => False) ⟨⟨n + 1, by omega, by rw [Nat.pow_succ]; push_cast; rfl, ?_⟩, by omega⟩
    rw [← e, show 7 - n = (7 - (n + 1)) + 1 by omega]
    conv => rhs; unfold foldN
    rw [if_pos z]
  · rw [if_neg (by rw [decide_eq_false z]; decide)]
    have : foldN (7 - n) n (max r c) = n := by
      cases h : 7 - n with
      | zero => rfl
      | succ d => unfold foldN; rw [if_neg z]
    rw [← e, this]
theorem foldN_low : ∀ d n m k, m ≤ 2 ^ k → n ≤ k → foldN d n m ≤ k
  | 0, n, m, k, _, h => h
  | d + 1, n, m, k, hm, hn => by
    unfold foldN
    split
    · rename_i z
      have : n < k := by
        rcases Nat.lt_or_ge n k with h | h
        · exact h
        · have : n = k := by omega
          subst this; omega
      exact foldN_low d (n + 1) m k hm this
    · exact hn
theorem foldC_hd : ∀ n, (foldC n)[0]? = some (0, 0)
  | 0 => rfl
  | n + 1 => by
    have := foldC_at (d := 0) (by decide) (foldC_hd n)
    rw [show 0 * 4 ^ n + 0 = 0 by omega] at this
    exact this
theorem foldO_last {r c : Nat} (r1 : 1 ≤ r) (c1 : 1 ≤ c) : ∃ y, (foldO r c).reverse.getLast? = some y := by
  have h : ((0 : Int), (0 : Int)) ∈ foldO r c := List.mem_filter.mpr ⟨List.mem_of_getElem? (foldC_hd _), by rw [decide_eq_true (show (0 : Int) < (r : Int) by omega), decide_eq_true (show (0 : Int) < (c : Int) by omega)]; rfl⟩
  cases e : (foldO r c).reverse.getLast? with
  | some y => exact ⟨y, rfl⟩
  | none =>
    have := List.getLast?_eq_none_iff.mp e
    rw [List.reverse_eq_nil_iff] at this
    rw [this] at h
    cases h
theorem foldC_le {n : Nat} (h : n ≤ 6) : (foldC n).length ≤ 4096 := by
  rw [foldC_len]
  exact Nat.pow_le_pow_right (n := 4) (by decide) h
theorem pairs_wid {L : List (Int × Int)} (h : L.length ≤ 4096) : wid ((eL (eP Dat.int Dat.int)) L) ≤ 1000000 := wid_eL (by omega) fun x _ => wid_eP (by omega) (by rw [wid_int]; omega) (by rw [wid_int]; omega)
theorem pairs_same (L : List (Int × Int)) : sameD ((eL (eP Dat.int Dat.int)) L) ((eL (eP Dat.int Dat.int)) L) = true := (SamE.eL (SamE.eP SamE.int SamE.int)).refl L
theorem foldO_le {r c : Nat} (r2 : r ≤ 64) (c2 : c ≤ 64) : (foldO r c).length ≤ 4096 :=
  Nat.le_trans (List.length_filter_le _ _) (foldC_le (foldN_low 7 0 _ 6 (show max r c ≤ 64 by omega) (by omega)))
theorem folded7 {n : Nat} (h : n ≤ 7) : m_folded_cells ((2 ^ n : Nat) : Int) = .ok (foldC n) := by
  unfold m_folded_cells
  exact folded_ok n 8 (by omega) (by omega)
theorem side_ok {i : Int} (h0 : 0 ≤ i) (h1 : i < 5) : ∃ n, n < 5 ∧ ixR ([1, 2, 4, 8, 16] : List Int) i = .ok ((2 ^ n : Nat) : Int) := by
  refine ⟨i.toNat, by omega, ?_⟩
  rcases (show i = 0 ∨ i = 1 ∨ i = 2 ∨ i = 3 ∨ i = 4 by omega) with rfl | rfl | rfl | rfl | rfl <;> rfl
theorem curves_w {β : Type} {n : Nat} (hn : n ≤ 6) {k : List (Int × Int) → Rs β} {P : β → Prop} {X : Xc → Option Int → Prop} (g : Post (k (foldC n)) P X) : Post (grd (mulOk ((2 ^ n : Nat) : Int) ((2 ^ n : Nat) : Int) = true) <| grd (rngOk 0 (((2 ^ n : Nat) : Int) * ((2 ^ n : Nat) : Int)) = true) <| grd ((((((2 ^ n : Nat) : Int) * ((2 ^ n : Nat) : Int)) : Int) - 0).toNat ≤ 1000000) <| (mapR (fun (y2 : Int) => (noX <| m_law_curve ((2 ^ n : Nat) : Int) y2).bnd fun x6 => (.ok (some x6) : Rs (Option (Int × Int)))) (rngI 0 (((2 ^ n : Nat) : Int) * ((2 ^ n : Nat) : Int)))).bnd k) P X := by
  have sq : ((2 ^ n : Nat) : Int) * ((2 ^ n : Nat) : Int) = ((4 ^ n : Nat) : Int) := by
    rw [← Int.natCast_mul, ← Nat.mul_pow]
  have le : 2 ^ n ≤ 2 ^ 6 := Nat.pow_le_pow_right (by decide) hn
  have le : 2 ^ n ≤ 64 := le
  have q1 : 4 ^ n ≤ 4 ^ 6 := Nat.pow_le_pow_right (by decide) hn
  have q1 : 4 ^ n ≤ 4096 := q1
  have p0 : 0 < 2 ^ n := Nat.pow_pos (by decide)
  have p1 : 0 < 4 ^ n := Nat.pow_pos (by decide)
  refine w_grd (DK.mulOk_of (by omega) (by omega) (by omega) (by omega)) (w_grd (by rw [sq]; exact DK.rngOk_of (by omega) (by omega) (by omega) (by omega)) (w_grd (by rw [sq]; omega) ?_))
  rw [curves_ok hn, Rs.bnd_ok]
  exact g
theorem law_true (ns : List Int) (hl : ns.length ≤ 63) : Post (m_law ns) (fun b => b = true) fun _ _ => False := by
  unfold m_law
  have last : Post ((m_order WayD.fold 1 1).bnd fun x23 => grd (wid ((eL (eP Dat.int Dat.int)) x23) ≤ 1000000) <| .ok ((sameD ((eL (eP Dat.int Dat.int)) x23) ((eL (eP Dat.int Dat.int)) ([(0, 0)] : List (Int × Int)))))) (fun b => b = true) fun _ _ => False := by
    have ord : m_order WayD.fold 1 1 = .ok (foldO 1 1) := fold_order (r := 1) (c := 1) (by decide) (by decide) (by decide) (by decide)
    have e : foldO 1 1 = [(0, 0)] := by decide
    rw [ord, Rs.bnd_ok, e, grd_of (pairs_wid (by decide)), pairs_same]
    exact w_ok (X := fun _ _ => False) rfl
  have cl : (cutL ns none (some 8)).length ≤ 63 := by rw [cutL_to (by decide), List.length_take]; omega
  refine w_thn (w_grd (by simp only [List.length_cons, List.length_nil]; omega) (w_drL _ 0 1 (by omega) ?_ fun _ _ _ => ?_))
  · intro i y k hy k0 k1
    have il := lt_of_at hy
    rw [show (enumI (([0] : List Int) ++ (cutL ns none (some 8)))).length = 1 + (cutL ns none (some 8)).length by simp [enumI]; omega] at il
    obtain ⟨m, hm, m0, m1⟩ := next_ok ns k (by omega) (by omega)
    show Post ((m_law_next ns [k]).bnd _) _ _
    rw [hm, Rs.bnd_ok]
    dsimp only
    obtain ⟨n, hn, e4⟩ := side_ok (i := (y.2 + m) % 5) (by omega) (by omega)
    rw [e4, Rs.bnd_ok, folded7 (by omega), Rs.bnd_ok]
    refine curves_w (by omega) ?_
    rw [grd_of (pairs_wid (foldC_le (by omega))), pairs_same, if_pos rfl, walks_ok n hn, Rs.bnd_ok, Rs.bnd_ok, if_neg (by decide)]
    refine w_grd (pairs_wid (foldC_le (by omega))) ?_
    rw [pairs_same, if_pos rfl]
    obtain ⟨v, hv⟩ : ∃ v, (if y.1 = 0 then (.ok (decide (((m / 1500) % 3) = 0))) else (.ok false) : Rs Bool) = .ok v := by split <;> exact ⟨_, rfl⟩
    rw [hv, Rs.bnd_ok]
    obtain ⟨x10, e10, hx10⟩ : ∃ x, ixR ([8, 17] : List Int) (if v = true then 1 else 0) = .ok x ∧ (x = 8 ∨ x = 17) := by
      cases v
      · exact ⟨8, rfl, .inl rfl⟩
      · exact ⟨17, rfl, .inr rfl⟩
    rw [e10, Rs.bnd_ok]
    refine w_grd (by omega) (w_grd (by omega) (w_thn (Post.mono (P := fun q => ∃ r c : Nat, q = Ctl.nx ((r : Int), (c : Int)) ∧ 1 ≤ r ∧ r ≤ 64 ∧ 1 ≤ c ∧ c ≤ 64) ?_ ?_)))
    · obtain ⟨v3, hv3⟩ : ∃ v, (if y.1 = 0 then (.ok (decide (((m / 1500) % 12) = 1))) else (.ok false) : Rs Bool) = .ok v := by split <;> exact ⟨_, rfl⟩
      rw [hv3, Rs.bnd_ok]
      cases v3 with
      | true =>
        rw [if_pos rfl]
        rcases (show m / 18000 % 3 = 0 ∨ m / 18000 % 3 = 1 ∨ m / 18000 % 3 = 2 by omega) with e | e | e
        · rw [e, show ixR ([(40, 2), (1, 64), (33, 1)] : List (Int × Int)) 0 = .ok (40, 2) from rfl, Rs.bnd_ok]
          exact w_ok (X := fun _ _ => False) ⟨40, 2, rfl, by decide, by decide, by decide, by decide⟩
        · rw [e, show ixR ([(40, 2), (1, 64), (33, 1)] : List (Int × Int)) 1 = .ok (1, 64) from rfl, Rs.bnd_ok]
          exact w_ok (X := fun _ _ => False) ⟨1, 64, rfl, by decide, by decide, by decide, by decide⟩
        · rw [e, show ixR ([(40, 2), (1, 64), (33, 1)] : List (Int × Int)) 2 = .ok (33, 1) from rfl, Rs.bnd_ok]
          exact w_ok (X := fun _ _ => False) ⟨33, 1, rfl, by decide, by decide, by decide, by decide⟩
      | false =>
        rw [if_neg (by decide)]
        rcases hx10 with rfl | rfl
        · exact w_ok (X := fun _ _ => False) ⟨(1 + m / 5 % 8).toNat, (1 + m / 85 % 8).toNat, by rw [Int.toNat_of_nonneg (by omega), Int.toNat_of_nonneg (by omega)], by omega, by omega, by omega, by omega⟩
        · exact w_ok (X := fun _ _ => False) ⟨(1 + m / 5 % 17).toNat, (1 + m / 85 % 17).toNat, by rw [Int.toNat_of_nonneg (by omega), Int.toNat_of_nonneg (by omega)], by omega, by omega, by omega, by omega⟩
    rintro _ ⟨r, c, rfl, r1, r2, c1, c2⟩
    show Post (Rs.thn _ _ _) _ _
    refine w_thn ((least_ok (by omega) (by omega)).mono ?_)
    rintro _ rfl
    show Post ((m_order WayD.fold (r : Int) (c : Int)).bnd _) _ _
    have ord : m_order WayD.fold (r : Int) (c : Int) = .ok (foldO r c) := fold_order r1 c1 (by omega) (by omega)
    have n6 : foldN 7 0 (max r c) ≤ 6 := foldN_low 7 0 _ 6 (show max r c ≤ 64 by omega) (by omega)
    have le := foldC_le n6
    have ol := foldO_le r2 c2
    rw [ord, Rs.bnd_ok]
    refine curves_w n6 ?_
    refine w_grd (by omega) ?_
    rw [mapR_filter (fun p : Int × Int => decide (p.1 < (r : Int)) && decide (p.2 < (c : Int))) _ fun y _ => by
      by_cases z : y.1 < (r : Int)
      · rw [if_pos z, Rs.bnd_ok, decide_eq_true z, Bool.true_and]; split <;> rfl
      · rw [if_neg z, Rs.bnd_ok, decide_eq_false z, Bool.false_and]; rfl]
    rw [Rs.bnd_ok]
    have fo : (foldC (foldN 7 0 (max r c))).filter (fun p : Int × Int => decide (p.1 < (r : Int)) && decide (p.2 < (c : Int))) = foldO r c := rfl
    rw [fo, grd_of (pairs_wid ol), pairs_same, if_pos rfl]
    obtain ⟨z, hz⟩ := foldO_last r1 c1
    unfold popR
    rw [hz]
    dsimp only
    rw [Rs.bnd_ok, grd_of (pairs_wid ol), pairs_same, if_pos rfl]
    exact w_ok (X := fun _ _ => False) ⟨k + 1, rfl, by omega, by omega⟩
  · exact last

end Dot
namespace Dot
open PySem PySem.Spec PyProof.Rows L2 DK
theorem end_law {P : Program} {w : World} {K : PySem.W.Frag} {mg : Str → Option Value} (T : TX K mg) : ∃ fd : FuncData, (∀ (s : Shared) (v : Value), BindsTo s fd ⟨[v], []⟩ [("_law_script", v)]) ∧ ∀ base : Heap, FnOk P w K mg base (L2N.CX P w) 11 (He.ga K "law") fd (["_law_script"] : List Str) (sp_law K) := by
  obtain ⟨fd, F0⟩ := T.says.def_ 11 (d := d_law) rfl
  have F : FunD K d_law.name d_law.qual d_law.params d_law.body d_law.scope [] [] (He.ga K "law") fd := F0
  refine ⟨fd, fun s v => (FunD.bindsA (ps := (["_law_script"] : List Str)) F fun _ _ _ _ _ _ us hl => match us, hl with | [_], _ => rfl) s [v] rfl, fun base => ?_⟩
  have c_law_next := ok_law_next (P := P) (w := w) (base := base) T 
  have c_folded_cells := ok_folded_cells (P := P) (w := w) (base := base) T 
  have c_law_curve := ok_law_curve (P := P) (w := w) (base := base) T 
  have c_law_same := ok_law_same (P := P) (w := w) (base := base) T 
  have c_law_walks := ok_law_walks (P := P) (w := w) (base := base) T 
  have c_ask_size := ok_ask_size (P := P) (w := w) (base := base) T 
  have met_Way_order := okm_Way_order (P := P) (w := w) (base := base) T c_ask_size
  have met_FoldedWay_order := okm_FoldedWay_order (P := P) (w := w) (base := base) T c_ask_size c_folded_cells
  have mt_order : MetA P w K mg base "order" 10 (al_order K) := (MetA.cons met_Way_order (by decide) (MetA.cons met_FoldedWay_order (by decide) MetA.nil))
  exact fn_law T F c_law_next c_folded_cells c_law_curve c_law_same c_law_walks mt_order
theorem law_asked {K : PySem.W.Frag} (H : Hp) (a : Addr) (ns : List Int) (hl : ns.length ≤ 63) (hO : Only H) (hS : SqL K H a (ns.map V.int)) : sp_law K [.ref a] H (fun v _ => v = .bl true) fun _ _ _ => False :=
  ⟨_, rfl, H, ns, Same.refl H, ⟨⟨a, rfl, hS⟩, hl⟩, (law_true ns hl).mono2 (fun b hb _ _ _ => by rw [hb]) fun _ _ z => z.elim⟩
end Dot
open PySem PySem.W PySem.Calls PyProof.Rows
set_option maxRecDepth 100000 in
set_option maxHeartbeats 0 in
theorem PySem.Challenge.cw_dotscreen_k21_folded_holds : PySem.Challenge.rw_dotscreen_k21_folded.Holds := by
  w_on; o_law
  refine HandSHeadRun.head_any (r := OpenLaw.row PySem.Challenge.rw_dotscreen_k21_folded) (q := view (OpenLaw.row PySem.Challenge.rw_dotscreen_k21_folded).prog [14]) (H := Dot.hk) (ob := Dot.ob) (M := 20000) (loose := Dot.loose) (d := HandSHeadRun.topDef (OpenLaw.row PySem.Challenge.rw_dotscreen_k21_folded).prog 14) (kwd := []) Dot.ob_eq
    (by kernel_rfl) (fun s => by kernel_rfl) Dot.run (by kernel_rfl) (by kernel_rfl) (by kernel_rfl) (by rfl) (by first | assumption | decide +kernel) (by decide +kernel) ⟨rfl, rfl, rfl, rfl, rfl, by decide +kernel⟩ ?hw ?hc
  case hw => w_witness2
  case hc =>
    refine DK.walk_ofX (l := PySem.Challenge.rw_dotscreen_k21_folded) (n := 63) (k := 11) (x := "_law_script") rfl (by decide) (by kernel_rfl) ⟨rfl, by decide, by decide⟩ ?F
    intro w mg fa h Y G hmg0
    obtain ⟨K, KX, c⟩ := Y
    have hmg : mg ("law" : PySem.Str) = some (.ref fa) := by
      have e : (HandSHeadRun.topDef (OpenLaw.row PySem.Challenge.rw_dotscreen_k21_folded).prog 14).name = ("law" : PySem.Str) := by kernel_rfl
      rw [← e]
      exact hmg0
    have T : Dot.TX K mg := DK.FactsB.mk' c KX G
    have e := hmg.symm.trans (T.glo 24 (x := "law") rfl)
    cases e
    obtain ⟨fd, hb, hF⟩ := Dot.end_law (P := (PySem.Challenge.rw_dotscreen_k21_folded).prog) (w := w) T
    exact ⟨K, fd, Dot.sp_law K, KX, hb, fun H a ns hl hO hS => Dot.law_asked H a ns hl hO hS, fun base _ _ => hF base⟩
