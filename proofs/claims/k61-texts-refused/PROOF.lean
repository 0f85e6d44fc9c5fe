import PyProof.Rows.All
import Wide.All
import OpenK.AllK
import Wide.FinOn
import KE.KStateDown
import KE.GoesEnum
import HandS.ForMost
import HandS.ForExc
import HandS.More
import HandS.Deep
import HandS.Wide
import HandS.Walk
import HandS.IsInst
import HandS.Defaults
import HandS.SortInts
import HandS.RevRange
import HandS.Zip
import HandS.Flow
import HandS.Steps
import HandS.Head0
import HandS.Head1
import HandS.Head2
import HandS.HeadEnd
import HandS.HeadHook1
import HandS.HeadHook2
import HandS.Conv
import HandS.Dict
import HandS.Exc
import HandS.ExcOwn
import HandS.ExcIs
import HandS.CallSlots
import HandS.Rev
import HandS.ExcCtx
import HandS.HotCalls
import KE.KTupSum
import KE.KIsAll
import HandS.DeepEq
import HandS.Text
import HandS.StrMore
import HandS.ExcInit
import HandS.DictTup
import PyProof.DictMoreH
import KE.KExcIs
import PyProof.StrBlock2
import PySem.Challenge.RW_dotscreen_k61_texts_refused
set_option Elab.async false
set_option linter.all false
set_option maxRecDepth 100000
set_option maxHeartbeats 4000000
set_option maxRecDepth 100000
set_option maxHeartbeats 2000000
/-! DK: unions of the layer's rules, so that a derivation needs no types; a few rules more. -/
namespace DK
open PySem PySem.Spec PyProof.Rows L2

/-! ### unions -/
theorem OpR.or {X : Cx} {f : Value → Value → Sem Value} {r r' : R2} (h : OpR X f r) (h' : OpR X f r') : OpR X f (fun x y H Q => r x y H Q ∨ r' x y H Q) := by
  intro pins s σ H x y v u Q I rx ry q
  rcases q with q | q
  · exact h pins s σ H x y v u Q I rx ry q
  · exact h' pins s σ H x y v u Q I rx ry q
theorem CallR.or {X : Cx} {f : Value} {r r' : List V → Hp → VK → Prop} (h : CallR X f r) (h' : CallR X f r') : CallR X f (fun xs H Q => r xs H Q ∨ r' xs H Q) := by
  intro pins s σ H xs us Q I r q
  rcases q with q | q
  · exact h pins s σ H xs us Q I r q
  · exact h' pins s σ H xs us Q I r q
theorem pe_or {X : Cx} {e : Expr} {t t' : TE} (h : PE X e t) (h' : PE X e t') : PE X e (fun σ H Q => t σ H Q ∨ t' σ H Q) := by
  refine ⟨fun pins s σ H Q I q => ?_⟩
  rcases q with q | q
  · exact h.run pins s σ H Q I q
  · exact h'.run pins s σ H Q I q
theorem pt_or {X : Cx} {e : Expr} {t t' : TT} (h : PT X e t) (h' : PT X e t') : PT X e (fun σ H Q => t σ H Q ∨ t' σ H Q) := by
  refine ⟨fun pins s σ H Q I q => ?_⟩
  rcases q with q | q
  · exact h.run pins s σ H Q I q
  · exact h'.run pins s σ H Q I q
theorem pi_or {X : Cx} {tg e : Expr} {t t' : TI} (h : PI X tg e t) (h' : PI X tg e t') : PI X tg e (fun σ H R => t σ H R ∨ t' σ H R) := by
  refine ⟨fun pins s σ H Q I q => ?_⟩
  rcases q with q | q
  · exact h.run pins s σ H Q I q
  · exact h'.run pins s σ H Q I q
theorem pg_or {X : Cx} {tg : Expr} {g g' : TG} (h : PG X tg g) (h' : PG X tg g') : PG X tg (fun v σ H Q => g v σ H Q ∨ g' v σ H Q) := by
  refine ⟨fun pins s σ H v u Q I r q => ?_⟩
  rcases q with q | q
  · exact h.run pins s σ H v u Q I r q
  · exact h'.run pins s σ H v u Q I r q

def rAddStr : R2 := fun x y H Q => ∃ i j, x = .str i ∧ y = .str j ∧ i.length + j.length ≤ sizeLine ∧ Q (.str (i ++ j)) H
def rAddI : R2 := rI0 fun i j => .int (i + j)
def rAddU (K : PySem.W.Frag) : R2 := fun x y H Q => rAddI x y H Q ∨ (rCat x y H Q ∨ (rCatT K x y H Q ∨ rAddStr x y H Q))
theorem op_addU {X : Cx} : OpR X (binaryOp .Add) (rAddU X.K) := OpR.or op_add (OpR.or op_cat (OpR.or op_catT op_add_str))
abbrev rSubI : R2 := rI0 fun i j => .int (i - j)
abbrev rModI : R2 := rI (fun _ j => 0 < j) fun i j => .int (i % j)
def CMulU (i j : Int) : Prop := CMul i j ∨ CMulW i j
def rMulI : R2 := rI CMulU fun i j => .int (i * j)
theorem op_mulI {X : Cx} : OpR X (binaryOp .Mult) rMulI := by
  intro pins s σ H x y v u Q I rx ry h
  obtain ⟨i, j, rfl, rfl, hc, q⟩ := h
  rcases hc with hc | hc
  · exact op_mul pins s σ H _ _ v u Q I rx ry ⟨i, j, rfl, rfl, hc, q⟩
  · exact op_mulW pins s σ H _ _ v u Q I rx ry ⟨i, j, rfl, rfl, hc, q⟩
def rMulU : R2 := fun x y H Q => rMulI x y H Q ∨ rRep x y H Q
theorem op_mulU {X : Cx} : OpR X (binaryOp .Mult) rMulU := OpR.or op_mulI op_rep
def CDivU (i j : Int) : Prop := CDiv i j ∨ CDivW i j
def rDivU : R2 := rI CDivU fun i j => .int (i / j)
theorem op_divU {X : Cx} : OpR X (binaryOp .FloorDiv) rDivU := by
  intro pins s σ H x y v u Q I rx ry h
  obtain ⟨i, j, rfl, rfl, hc, q⟩ := h
  rcases hc with hc | hc
  · exact op_fdiv pins s σ H _ _ v u Q I rx ry ⟨i, j, rfl, rfl, hc, q⟩
  · exact op_fdivW pins s σ H _ _ v u Q I rx ry ⟨i, j, rfl, rfl, hc, q⟩
abbrev rLtI : R2 := rI0 fun i j => .bl (decide (i < j))
abbrev rLeI : R2 := rI0 fun i j => .bl (decide (i ≤ j))
abbrev rGtI : R2 := rI0 fun i j => .bl (decide (j < i))
abbrev rGeI : R2 := rI0 fun i j => .bl (decide (j ≤ i))
def rEqU (K : PySem.W.Frag) : R2 := fun x y H Q => rEq x y H Q ∨ rEqD K x y H Q
def rNeU (K : PySem.W.Frag) : R2 := fun x y H Q => rNe x y H Q ∨ rNeD K x y H Q
theorem op_eqU {X : Cx} (hu : X.A.units + 64 < cLine) : OpR X (compareOp .Eq) (rEqU X.K) := OpR.or op_eq (op_eqD hu)
theorem op_neU {X : Cx} (hu : X.A.units + 64 < cLine) : OpR X (compareOp .NotEq) (rNeU X.K) := OpR.or op_ne (op_neD hu)
/-- a power of written numbers -/
theorem pe_powC {X : Cx} {a b n : Int} {i j : Nat} {p p2 p3 : Pos} (h : 0 ≤ b ∧ b ≤ 1000000 ∧ a.natAbs < 2 ^ 64) (e : a ^ b.toNat = n) : PE X (.BinOp (.Constant (.int a) i p) .Pow (.Constant (.int b) j p2) p3) (tC (.int n)) := by
  refine ⟨fun pins s σ H Q I q => ?_⟩
  exact (pe_op (X := X) op_pow pe_int pe_int).run pins s σ H Q I ⟨a, b, rfl, rfl, h, by show Q (.int (a ^ b.toNat)) H; rw [e]; exact q⟩

/-! ### len, list, tuple -/
def rLenU (K : PySem.W.Frag) : List V → Hp → VK → Prop := fun xs H Q => (∃ x n, xs = [x] ∧ LenV K x H n ∧ Q (.int n) H)
theorem call_lenU {X : Cx} : CallR X (.builtin "len") (rLenU X.K) := call_len
def rListU (K : PySem.W.Frag) : List V → Hp → VK → Prop := fun xs H Q => ∃ p ys, xs = [.ref p] ∧ (SqL K H p ys ∨ SqT K H p ys) ∧ ∀ l, H l = none → Q (.ref l) (upd H l (.lst ys))
theorem call_listU {X : Cx} : CallR X (.type "list") (rListU X.K) := call_list_of
def rTupU (K : PySem.W.Frag) : List V → Hp → VK → Prop := fun xs H Q => ∃ p ys, xs = [.ref p] ∧ ((SqL K H p ys ∧ ∀ l, H l = none → Q (.ref l) (upd H l (.tup ys))) ∨ (SqT K H p ys ∧ Q (.ref p) H))
theorem call_tupU {X : Cx} : CallR X (.type "tuple") (rTupU X.K) := call_tuple_of
abbrev rAbsI : List V → Hp → VK → Prop := fun xs H Q => ∃ i, xs = [.int i] ∧ Q (.int (if i < 0 then -i else i)) H
abbrev rMax2I : List V → Hp → VK → Prop := fun xs H Q => ∃ i j, xs = [.int i, .int j] ∧ Q (.int (if j > i then j else i)) H
abbrev rMin2I : List V → Hp → VK → Prop := fun xs H Q => ∃ i j, xs = [.int i, .int j] ∧ Q (.int (if j < i then j else i)) H
abbrev rInt1 : List V → Hp → VK → Prop := fun xs H Q => (∃ i, xs = [.int i] ∧ Q (.int i) H) ∨ ∃ k, xs = [.bl k] ∧ Q (.int (if k then 1 else 0)) H
abbrev rBool1 : List V → Hp → VK → Prop := fun xs H Q => (∃ i, xs = [.int i] ∧ Q (.bl (i != 0)) H) ∨ ∃ k, xs = [.bl k] ∧ Q (.bl k) H
abbrev rStrInt : List V → Hp → VK → Prop := fun xs H Q => ∃ i, xs = [.int i] ∧ i.natAbs.log2 < 1920 ∧ Q (.str (toString i)) H
/-- divmod by a positive divisor, small or wide -/
def rDivmodU : List V → Hp → VK → Prop := fun xs H Q => ∃ i j, xs = [.int i, .int j] ∧ CDivU i j ∧ ∀ p, H p = none → Q (.ref p) (upd H p (.tup [.int (i / j), .int (i % j)]))
theorem call_divmodU {X : Cx} : CallR X (.builtin "divmod") rDivmodU := by
  intro pins s σ H xs us Q I r h
  obtain ⟨i, j, rfl, hc, q⟩ := h
  obtain ⟨u, w', rfl, ⟨t, rfl⟩, ⟨t', rfl⟩⟩ := vals2 r
  have hn : H s.heap.objs.size = none := I.hok.fresh (Nat.le_refl _)
  have fin : 0 < j → (EP X pins σ Q (.ref s.heap.objs.size) { s with heap := s.heap.push { cls := .type "tuple", data := .seq #[.int (i / j) s.toks, .int (i % j) (s.toks + 1)] }, toks := s.toks + 2 }) := fun hj => by
    refine ⟨.ref s.heap.objs.size, _, ?_, rfl, q _ hn⟩
    refine I.laid (fun b o e => Heap.get?_push_of_some _ e) (Nat.le_refl _) ⟨by simp only [List.length_cons, List.length_nil]; rw [sizeLine_eq]; decide, [.int (i / j) s.toks, .int (i % j) (s.toks + 1)], .cons ⟨_, rfl⟩ (.cons ⟨_, rfl⟩ .nil), ?_⟩
    exact ⟨_, Heap.get?_push_size s.heap rfl, rfl, 0, rfl⟩
  rcases hc with hc | hc
  · have h1 : 0 < j := hc.1
    have h2 : j < 1073741824 := hc.2
    refine divmod_int (by omega) ?_ (.inl (PyProof.noPylong_small (by omega)))
    rw [Int.fdiv_eq_ediv_of_nonneg i (by omega), Int.fmod_eq_emod_of_nonneg i (by omega)]
    exact fin h1
  · have h1 : 0 < j := hc.1
    refine divmod_int (by omega) ?_ (.inl (PyProof.noPylong_of_log2 hc.2))
    rw [Int.fdiv_eq_ediv_of_nonneg i (by omega), Int.fmod_eq_emod_of_nonneg i (by omega)]
    exact fin h1

/-! ### subscripts, slices -/
def rIxU (K : PySem.W.Frag) : R2 := rIx K
theorem ix_U {X : Cx} : IxR X (rIxU X.K) := ix_seq

/-- a slice that is the whole tuple: the tuple itself -/
theorem getItem_tuple_all {prog : Program} {w : World} {A : Around} {E : Value → Shared → Prop} {s : Shared} {t sl : Addr} {items : Array Value} {vl vu : Value} {lo hi : Option Int} {Q : Value → Shared → Prop} (ht : IsTup s.heap t items) (hs : s.heap.IsSliceOf sl vl vu .none) (pl : IsPart vl lo) (pu : IsPart vu hi)
    (hw : HT.sIx items.size 0 lo = 0 ∧ HT.sIx items.size items.size hi = items.size) (h : Q (.ref t) s) : wpAny (model prog w) A (getItem (.ref t) (.ref sl)) Q E s := by
  obtain ⟨os, hos, hcs, hds⟩ := id hs
  have hTs : s.TypeIs (.ref sl) "slice" := ⟨os, hos, hcs⟩
  unfold getItem
  try with_reducible refine wpAny_holding ?_
  first | refine wpAny_bind (wpAny_pure ?_) | skip
  refine wpAny_bind (wpAny_sequenceKey ht.typeIs (by decide) ?_)
  refine wpAny_bind (wpAny_callSpecial?_slot (name := Str.ofString "__getitem__") ht.typeIs PyProof.Rows.slot_tuple_getitem
    (wpAny_call_entry PyProof.Rows.slot_tuple_getitem ht.typeIs entry_tuple_getitem ?_ (args_tuple_getitem _ _)))
  show wpAny _ _ (Builtin.Tuple.tupleItemsOf (.ref t) >>= _) _ _ s
  refine wpAny_bind (PyProof.Rows.tupleItemsOf_ ht ?_)
  refine wpAny_bind (wpAny_typeOf hTs ?_)
  rw [if_pos (by decide)]
  refine wpAny_bind (HT.sliceApplied_gen hs pl pu ?_)
  have hy : ((((HT.sIx items.size 0 lo : Nat) : Int) == 0 && (1 : Int) == 1 && (HT.sIx items.size items.size hi - HT.sIx items.size 0 lo) == items.size) = true) := by
    rw [hw.1, hw.2]
    simp
  show wpAny _ _ (if (((HT.sIx items.size 0 lo : Nat) : Int) == 0 && (1 : Int) == 1 && (HT.sIx items.size items.size hi - HT.sIx items.size 0 lo) == items.size) = true then _ else _) _ _ s
  rw [if_pos hy]
  unfold Builtin.Tuple.tupleIsExact
  refine wpAny_bind (wpAny_bind (wpAny_typeOf ht.typeIs (wpAny_pure ?_)))
  rw [if_pos (by decide)]
  refine wpAny_bind (wpAny_rule ?_)
  first
    | exact wpAny_bind (wpAny_pure (wpAny_pure ⟨_, rfl, wpAny_pure h⟩))
    | exact wpAny_pure ⟨_, rfl, wpAny_pure h⟩
    | exact wpAny_bind (wpAny_pure ⟨_, rfl, wpAny_pure h⟩)
def rSlTW (K : PySem.W.Frag) : V → Option Int → Option Int → Hp → VK → Prop := fun x lo hi H Q => ∃ a xs, x = .ref a ∧ SqT K H a xs ∧
  (HT.sIx xs.length 0 lo = 0 ∧ HT.sIx xs.length xs.length hi = xs.length) ∧ Q (.ref a) H
theorem sl_tupW {X : Cx} : SlR X (rSlTW X.K) := by
  intro pins s σ H x v vl vu lo hi sl Q I rx hs pl pu h
  obtain ⟨a, xs, rfl, hx, hw, q⟩ := h
  cases rx
  obtain ⟨its, r, ht, hz⟩ := I.tuple hx
  have hlen : its.toArray.size = xs.length := by rw [List.size_toArray]; exact r.length.symm
  refine ⟨"tuple", _, PyProof.Rows.slot_tuple_getitem.lookup, ht.typeIs, ?_⟩
  exact getItem_tuple_all ht hs pl pu (by rw [hlen]; exact hw) ⟨.ref a, H, I, rfl, q⟩
def rSlStr : V → Option Int → Option Int → Hp → VK → Prop := fun _ _ _ _ _ => False
def rSlU (K : PySem.W.Frag) : V → Option Int → Option Int → Hp → VK → Prop := fun x lo hi H Q => rSlL K x lo hi H Q ∨ (rSlT K x lo hi H Q ∨ rSlTW K x lo hi H Q)
theorem sl_U {X : Cx} : SlR X (rSlU X.K) := sl_list.or (sl_tup.or sl_tupW)

/-! ### what is walked -/
def iSeq (K : PySem.W.Frag) (te : TE) : TI := fun σ H R => iList K te σ H R ∨ iTup K te σ H R
theorem pi_seq {X : Cx} {tg e : Expr} {te : TE} (h : PE X e te) : PI X tg e (iSeq X.K te) := pi_or (pi_list h) (pi_tup h)
def gTupU (K : PySem.W.Frag) (n : Nat) (t : TGs) : TG := fun v σ H Q => gTup K n t v σ H Q ∨ gLst K n t v σ H Q
theorem pg_tupU {X : Cx} {es : List Expr} {k : Nat} {pos : Pos} {t : TGs} {n : Nat} (hc : X.calm = true) (h : PGs X es t)
    (hn : (assignEach es X.env).length = n := by rfl) (hst : (assignEach es X.env).findIdx? (·.1) = none := by rfl) : PG X (.Tuple es k pos) (gTupU X.K n t) := pg_or (pg_tup hc h hn hst) (pg_lst hc h hn hst)

/-! ### enumerate of a tuple -/
theorem meets_enumerate_newT (l : Addr) (items : Array Value) :
    Meets (Builtin.«enumerate.__new__» ⟨[.type "enumerate", .ref l], []⟩) (fun _ R s => s.heap.IsTuple l items ∧
      R (.ok (.ret (.ref (s.heap.push { cls := .type "tuple_iterator", data := .fields #[.ref l, .int 0 0] }).objs.size)))
        { s with heap := (s.heap.push { cls := .type "tuple_iterator", data := .fields #[.ref l, .int 0 0] }).push { cls := .type "enumerate", data := .fields #[.none, .bool false, .ref s.heap.objs.size, rawInt 0, .none, .none] } }) :=
  .of_wp fun prog w A R s h => by
    obtain ⟨hp, g, d, tk, os⟩ := s; obtain ⟨hl, h⟩ := h
    have hsub := sub_enumerate
    have q1 : ∀ {A' : Around} {E : Value → Shared → Prop} {Q : Value → Shared → Prop}, Q (.ref hp.objs.size) ⟨hp.push { cls := .type "tuple_iterator", data := .fields #[.ref l, .int 0 0] }, g, d, tk, os⟩ → wpAny (model prog w) A' (pyIter (.ref l)) Q E ⟨hp, g, d, tk, os⟩ :=
      fun q => wpAny_pyIter_tuple hl q
    wp_walk using q1
    refine wpAny_stack_any fun st => wpAny_pure ?_
    split
    · rename_i c _ _ _ _ _
      cases (c == Value.type "enumerate")
      · wp_walk using q1
        exact ⟨_, rfl, h⟩
      · wp_walk using q1
        exact ⟨_, rfl, h⟩
    · wp_walk using q1
      exact ⟨_, rfl, h⟩
theorem call_enumerate_tuple {prog : Program} {w : World} {A : Around} {E : Value → Shared → Prop} {s : Shared} {l : Addr} {items : Array Value} {Q : Value → Shared → Prop} (hL : s.heap.IsTuple l items)
    (h : ∀ h', IsEnum h' (s.heap.objs.size + 1) s.heap.objs.size 0 .none → h'.IsTupleIter s.heap.objs.size l 0 → h'.objs.size = s.heap.objs.size + 2 →
      (∀ b o, s.heap.get? b = some o → h'.get? b = some o) → Q (.ref (s.heap.objs.size + 1)) { s with heap := h' }) :
    wpAny (model prog w) A (call (.type "enumerate") [.ref l]) Q E s := by
  refine callType_new F.called_enumerate (by decide) (F.typeCall_enumerate_1 _) (F.newCall_enumerate_1 _) (fun obj => F.args_object_init_2 obj _) F.entry_enumerate_new
    (meets_enumerate_newT l items) ⟨hL, ?_⟩
  have hz : (s.heap.push { cls := .type "tuple_iterator", data := .fields #[.ref l, .int 0 0] }).objs.size = s.heap.objs.size + 1 := Heap.size_push ..
  show _ ∧ _
  rw [hz]
  have he : IsEnum ((s.heap.push { cls := .type "tuple_iterator", data := .fields #[.ref l, .int 0 0] }).push
      { cls := .type "enumerate", data := .fields #[.none, .bool false, .ref s.heap.objs.size, rawInt 0, .none, .none] }) (s.heap.objs.size + 1) s.heap.objs.size 0 .none := by
    have := Heap.get?_push_size (s.heap.push { cls := .type "tuple_iterator", data := .fields #[.ref l, .int 0 0] })
      (o := { cls := .type "enumerate", data := .fields #[.none, .bool false, .ref s.heap.objs.size, rawInt 0, .none, .none] }) rfl
    rw [hz] at this; exact this
  refine ⟨⟨_, he, rfl⟩, h _ he ⟨_, Heap.get?_push_of_some _ (Heap.get?_push_size _ rfl), rfl, rfl⟩ (by rw [Heap.size_push, hz]) fun b o x => Heap.get?_push_of_some _ (Heap.get?_push_of_some _ x)⟩
def IteT (K : PySem.W.Frag) (a : Addr) : It :=
  ⟨fun i H => ∃ (xs : List V) (x : V), SqT K H a xs ∧ xs[i]? = some x, fun i H v H' => ∃ T x, v = .ref T ∧ H T = none ∧ H' = upd H T (.tup [.int (i : Nat), x]) ∧ ∀ xs, SqT K H a xs → xs[i]? = some x, fun i H => ∃ xs : List V, SqT K H a xs ∧ xs.length ≤ i⟩
theorem turn_enumT {P : Program} {w : World} {K : PySem.W.Frag} {elts : List Expr} {kk : Nat} {tpos : Pos} (a e it : Addr) :
    Turn P w K (.Tuple elts kk tpos) (IteT K a) [e, it] e (fun i h => (∃ old, IsEnum h e it ((i : Nat) : Int) old) ∧ h.IsTupleIter it a i ∧ e ≠ it ∧ a ≠ it ∧ a ≠ e) where
  mem := by simp
  obj := fun i h st b hb => by
    obtain ⟨⟨old, he⟩, ⟨o, ho, hc, hd⟩, _⟩ := st
    have e' : b = e ∨ b = it := by simpa using hb
    rcases e' with z | z
    · rw [z]; exact ⟨_, he, fun v q => nomatch q⟩
    · rw [z]; exact ⟨o, ho, fun v q => by rw [hd] at q; cases q⟩
  keep := fun i h h' st k => let ⟨⟨old, he⟩, hi, hne⟩ := st; ⟨⟨old, k e (by simp) _ he⟩, hi.at fun o q => k it (by simp) o q, hne⟩
  item := by
    intro X hP hw hK hc i pins s σ H E I hf st hg
    subst hP hw hK
    obtain ⟨⟨old, he⟩, hit, hne, hai, hae⟩ := st
    obtain ⟨xs, x, hq, hx⟩ := hg
    obtain ⟨its, rv, p, hz⟩ := I.tuple hq
    obtain ⟨u, hu, ru⟩ := rv.get hx
    have hel : e < s.heap.objs.size := Heap.lt_size he
    have hil : it < s.heap.objs.size := by obtain ⟨_, q, _⟩ := hit; exact Heap.lt_size q
    have hlt : i < its.toArray.size := by
      have := (List.getElem?_eq_some_iff.mp hu).1
      simpa using this
    have hef : e ∉ [it, a] := by
      simp only [List.mem_cons, List.not_mem_nil, or_false, not_or]
      exact ⟨hne, fun z => hae z.symm⟩
    have hh1 : X.A.in1.handled = none := I.ok.hd hc
    refine wpAny_pyNext_enum_itemC (P := fun i v => its.toArray[i]? = some v) (St := fun i h => h.IsTupleIter it a i ∧ h.IsTuple a its.toArray) (Draws.tuple hh1 it a hai its.toArray) he ⟨hit, p⟩ hlt hne hef fun y h' tk hy ho hst' hT hsz hk => ?_
    have ey : y = u := by
      have h1 : its.toArray[i]? = some u := by simpa using hu
      exact Option.some.inj (hy.symm.trans h1)
    subst ey
    obtain ⟨hit', hp'⟩ := hst'
    refine ⟨_, rfl, wpAny_letOwnedTupleGo_enum (s := { s with heap := h', toks := tk + 1 }) ho fun h'' he' sb => ?_⟩
    have hT2 : h''.get? s.heap.objs.size = some { cls := .type "tuple", data := .seq #[.int i tk, y] } := (sb.2 _ (Nat.ne_of_gt hel)).trans hT
    have new : ObjOk X.prog X.w (upd H s.heap.objs.size (.tup [.int (i : Nat), x])) h'' s.heap.objs.size (.tup [.int (i : Nat), x]) :=
      ⟨by show 2 ≤ sizeLine; decide, [.int i tk, y], .cons ⟨_, rfl⟩ (.cons ru .nil), ⟨_, hT2, rfl, _, rfl⟩⟩
    have I1 : L2.Inv X pins σ (upd H s.heap.objs.size (.tup [.int (i : Nat), x])) { s with heap := h'', toks := tk + 1 } :=
      I.turnedNew (ch := [e, it]) (fun b ob hb q => (sb.2 b (fun z => hb (by simp [z]))).trans (hk b ob (fun z => hb (by simp [z])) (fun z => hb (by simp [z])) q)) hf (Nat.le_refl _) new
    refine ⟨.ref s.heap.objs.size, _, I1, rfl, ⟨_, x, rfl, I.hok.fresh (Nat.le_refl _), rfl, fun ys hy => by rw [I.tuple_inj hy hq]; exact hx⟩, ⟨⟨y, ?_⟩, hit'.at fun o q => (sb.2 it (Ne.symm hne)).trans q, hne, hai, hae⟩, fun b hb => ?_⟩
    · have e1 : ((i + 1 : Nat) : Int) = (i : Int) + 1 := by omega
      rw [e1]; exact he'
    · have hb' : b < s.heap.objs.size := by
        have e' : b = e ∨ b = it := by simpa using hb
        rcases e' with z | z
        · rw [z]; exact hel
        · rw [z]; exact hil
      rw [upd_ne (Nat.ne_of_lt hb')]
      exact (hf b hb).1
  done := by
    intro X hP hw hK hc i pins s σ H E I hf st hg
    subst hP hw hK
    obtain ⟨⟨old, he⟩, hit, hne, hai, hae⟩ := st
    obtain ⟨xs, hq, hx⟩ := hg
    obtain ⟨its, rv, p, hz⟩ := I.tuple hq
    obtain ⟨f0, f1, f2, f3, f4, f5⟩ := hf it (by simp)
    have hl := rv.length
    have hh1 : X.A.in1.handled = none := I.ok.hd hc
    have D : Draws X.prog X.w X.A.in1 it [it, a] i (fun _ _ => False) (fun j h => j = i ∧ h.IsTupleIter it a i ∧ h.IsTuple a its.toArray) :=
      { live := fun j h st => let ⟨o, ho, _⟩ := st.2.1; ⟨o, ho⟩
        frame := fun j h h' st hk => ⟨st.1, st.2.1.at fun o e => hk it (by simp) o e, st.2.2.at fun o e => hk a (by simp) o e⟩
        item := fun j s Q E hj st _ => absurd st.1 (Nat.ne_of_lt hj)
        done := fun s Q E st hE => wpAny_nextOf_tuple_end hh1 st.2.1 st.2.2 (by simp; omega) hE }
    exact wpAny_pyNext_enum_endD D he ⟨rfl, hit, p⟩ fun h' eb => ⟨rfl, I.turned (t' := s.toks) (fun b o hb q => eb b o hb q) f0 f1 f3 f4 f5⟩
  self := fun A i s Q E st h => let ⟨⟨_, he⟩, _⟩ := st; wpAny_pyIter_enum he h
def iEnumT (K : PySem.W.Frag) (ta : TA) : TI := fun σ H R => ta σ H fun vs H1 => ∃ a xs, vs = [.ref a] ∧ SqT K H1 a xs ∧ R (IteT K a) H1
theorem pi_enumT {X : Cx} {e : Expr} {ta : TA} {p pos tpos : Pos} {elts : List Expr} {kk : Nat} (hg : Gl X "enumerate") (hm : X.mg "enumerate" = none) (ha : PA X [e] ta) (hs : starEach [e] X.env = [(false, eval e X.env)] := by rfl) :
    PI X (.Tuple elts kk tpos) (.Call (.Name "enumerate" p) [e] [] pos) (iEnumT X.K ta) := by
  refine ⟨fun pins s σ H R I h => ?_⟩
  refine Call_ (ld_blt I hg hm boot_enumerate (PyProof.Rows.callWith_type1 (thn (ha.run pos pins s σ H _ I h) fun us s1 ⟨vs, H1, I1, r1, q1⟩ => ?_) hs rfl))
  obtain ⟨a, xs, ex, hq, q⟩ := q1
  subst ex
  cases r1 with
  | cons r rr =>
    cases rr
    cases r
    obtain ⟨its, rv, p', hz⟩ := I1.tuple hq
    have la : a < s1.heap.objs.size := p'.lt
    refine call_enumerate_tuple p' fun h' he hit hsz hk => wpAny_pyIter_enum he ?_
    have I2 : L2.Inv X pins σ H1 { s1 with heap := h' } := I1.kept (t' := s1.toks) hk
    refine ⟨s1.heap.objs.size + 1, [s1.heap.objs.size + 1, s1.heap.objs.size], _, _, H1, rfl, I2, turn_enumT a (s1.heap.objs.size + 1) s1.heap.objs.size, ⟨⟨.none, he⟩, hit, Nat.succ_ne_self _, Nat.ne_of_lt la, Nat.ne_of_lt (Nat.lt_succ_of_lt la)⟩, fun b hb => ?_, q⟩
    have e' : b = s1.heap.objs.size + 1 ∨ b = s1.heap.objs.size := by simpa using hb
    have hle : s1.heap.objs.size ≤ b := by
      rcases e' with z | z
      · rw [z]; exact Nat.le_add_right _ _
      · rw [z]; exact Nat.le_refl _
    exact I1.fpOk hle (I1.hok.fresh hle)
theorem walk_enumT {K : PySem.W.Frag} {a : Addr} {xs : List V} : Walk (IteT K a) xs.length (fun H => SqT K H a xs) (YPair (fun i => some (.int (i : Nat))) (fun i => xs[i]?)) := by
  refine ⟨fun i _ hi q => ⟨xs, xs[i], q, by simp [hi]⟩, fun _ q => ⟨xs, q, Nat.le_refl _⟩, fun i H v H' _ q y => ?_⟩
  obtain ⟨T, x, h1, h2, h3, h4⟩ := y
  exact ⟨T, .int (i : Nat), x, h1, h2, h3, rfl, h4 xs q⟩
def iEnumU (K : PySem.W.Frag) (ta : TA) : TI := fun σ H R => iEnum K ta σ H R ∨ iEnumT K ta σ H R
theorem pi_enumU {X : Cx} {e : Expr} {ta : TA} {p pos tpos : Pos} {elts : List Expr} {kk : Nat} (hg : Gl X "enumerate") (hm : X.mg "enumerate" = none) (ha : PA X [e] ta) (hs : starEach [e] X.env = [(false, eval e X.env)] := by rfl) :
    PI X (.Tuple elts kk tpos) (.Call (.Name "enumerate" p) [e] [] pos) (iEnumU X.K ta) := pi_or (pi_enum hg hm ha hs) (pi_enumT hg hm ha hs)
def iZipU (K : PySem.W.Frag) (ta : TA) : TI := RZ.iZipA K ta
theorem pi_zipU {X : Cx} {e e2 : Expr} {ta : TA} {p pos tpos : Pos} {elts : List Expr} {kk : Nat} (hg : Gl X "zip") (hm : X.mg "zip" = none) (ha : PA X [e, e2] ta)
    (hs : starEach [e, e2] X.env = (false, eval e X.env) :: starEach [e2] X.env := by rfl) (hpl : (backTo pos (starEach [e2] X.env)).any (·.1) = false := by rfl) :
    PI X (.Tuple elts kk tpos) (.Call (.Name "zip" p) [e, e2] [] pos) (iZipU X.K ta) := RZ.pi_zipA hg hm ha hs hpl

/-! ### own defs, classes, constants, errors -/
theorem pe_gint {X : Cx} {x : Str} {i : Int} {pos : Pos} (hg : Gl X x) (hm : ∃ t, X.mg x = some (.int i t)) (hd : (x == ("__debug__" : Str)) = false := by decide) : PE X (.Name x pos) (tC (.int i)) := by
  obtain ⟨t, hm⟩ := hm
  exact pe_glob hg hm ⟨t, rfl⟩ hd
theorem pe_gstr {X : Cx} {x z : Str} {pos : Pos} (hg : Gl X x) (hm : ∃ t, X.mg x = some (.str z t)) (hd : (x == ("__debug__" : Str)) = false := by decide) : PE X (.Name x pos) (tC (.str z)) := by
  obtain ⟨t, hm⟩ := hm
  exact pe_glob hg hm ⟨t, rfl⟩ hd

/-- a def of the module, as callers see it -/
def CalOk (P : Program) (w : World) (K : PySem.W.Frag) (mg : Str → Option Value) (base : Heap) (x : Str) (k : Nat) (ps : List Str) (sp : Sp) : Prop :=
  ∃ fd : FuncData, FnOk P w K mg base (L2N.CX P w) k (He.ga K x) fd ps sp ∧ mg x = some (.ref (He.ga K x)) ∧ PySem.W.keepIn K (.ref (He.ga K x)) = true ∧ Binds K fd ps []
/-- .. called with the last arguments left to their defaults -/
def CalDf (P : Program) (w : World) (K : PySem.W.Frag) (mg : Str → Option Value) (base : Heap) (x : Str) (k : Nat) (ps : List Str) (sp : Sp) (dvs : List V) : Prop :=
  ∃ (fd : FuncData) (ds : List Value), FnOk P w K mg base (L2N.CX P w) k (He.ga K x) fd ps sp ∧ mg x = some (.ref (He.ga K x)) ∧ PySem.W.keepIn K (.ref (He.ga K x)) = true ∧ Vals dvs ds ∧ Binds K fd ps ds
section
variable {X : Cx} {k : Nat} {ps : List Str} {sp : Sp} {E : XK} {x : Str} {p pos : Pos} {e : Expr} {es : List Expr} {t : TA} {dvs : List V}
theorem pe_callC (c : CalOk X.prog X.w X.K X.mg X.base x k ps sp) (hr : Room k X.A) (hg : Gl X x) (hx : Passes (L2N.CX X.prog X.w) X E)
    (ha : PA X (e :: es) t) (hdb : (x == ("__debug__" : Str)) = false := by decide) (he : starEach (e :: es) X.env = (false, eval e X.env) :: starEach es X.env := by rfl) (hpl : (backTo pos (starEach es X.env)).any (·.1) = false := by rfl) :
    PE X (.Call (.Name x p) (e :: es) [] pos) (tCall sp [] E t) := by
  obtain ⟨fd, F, hm, hk, hb⟩ := c
  exact pe_call F hr hg hm hk hb .nil hx ha hdb he hpl
theorem pe_call0C (c : CalOk X.prog X.w X.K X.mg X.base x k ps sp) (hr : Room k X.A) (hg : Gl X x) (hx : Passes (L2N.CX X.prog X.w) X E)
    (hdb : (x == ("__debug__" : Str)) = false := by decide) : PE X (.Call (.Name x p) [] [] pos) (tCall sp [] E tNil) := by
  obtain ⟨fd, F, hm, hk, hb⟩ := c
  exact pe_call0 F hr hg hm hk hb .nil hx hdb
theorem pe_callD (c : CalDf X.prog X.w X.K X.mg X.base x k ps sp dvs) (hr : Room k X.A) (hg : Gl X x) (hx : Passes (L2N.CX X.prog X.w) X E)
    (ha : PA X (e :: es) t) (hdb : (x == ("__debug__" : Str)) = false := by decide) (he : starEach (e :: es) X.env = (false, eval e X.env) :: starEach es X.env := by rfl) (hpl : (backTo pos (starEach es X.env)).any (·.1) = false := by rfl) :
    PE X (.Call (.Name x p) (e :: es) [] pos) (tCall sp dvs E t) := by
  obtain ⟨fd, ds, F, hm, hk, hd, hb⟩ := c
  exact pe_call F hr hg hm hk hb hd hx ha hdb he hpl
end
theorem passLN {X : Cx} : Passes (L2N.CX X.prog X.w) X E0 := fun _ _ _ _ _ _ _ h => by
  obtain ⟨_, _, _, _, _, _, _, _, _, _, _, _, z⟩ := h
  exact z.elim
/-- a class with an __init__ of its own -/
def MakOk (P : Program) (w : World) (K : PySem.W.Frag) (mg : Str → Option Value) (base : Heap) (x : Str) (k : Nat) (ps : List Str) (sp : Sp) : Prop :=
  ∃ (f : Addr) (fd : FuncData), Mk K (He.ga K x) f ∧ FnOk P w K mg base (L2N.CX P w) k f fd ps sp ∧ mg x = some (.ref (He.ga K x)) ∧ Binds K fd ps []
section
variable {X : Cx} {k : Nat} {ps : List Str} {sp : Sp} {E : XK} {x : Str} {p pos : Pos} {e : Expr} {es : List Expr} {t : TA}
theorem pe_makeC (c : MakOk X.prog X.w X.K X.mg X.base x k ps sp) (hr : Room (k + 1) X.A) (hg : Gl X x) (hx : Passes (L2N.CX X.prog X.w) X E)
    (ha : PA X (e :: es) t) (hdb : (x == ("__debug__" : Str)) = false := by decide) (he : starEach (e :: es) X.env = (false, eval e X.env) :: starEach es X.env := by rfl) (hpl : (backTo pos (starEach es X.env)).any (·.1) = false := by rfl) :
    PE X (.Call (.Name x p) (e :: es) [] pos) (tMake (He.ga X.K x) sp [] E t) := by
  obtain ⟨f, fd, M, F, hm, hb⟩ := c
  exact pe_make M F hr hg hm hb .nil hx ha hdb he hpl
end
/-- raise X('..') -/
def tRaiseC (C : Addr) (W : WX) : TS := fun _ σ H => W (.ref C) none σ H
theorem ps_raiseC {X : Cx} {W : WX} {x m : Str} {j : Nat} {p p2 pos pos2 : Pos} (hc : X.calm = true) (tk : L2N.Takes X W) (hx : PySem.W.excIn X.K (He.ga X.K x) He.veBase "ValueError.__new__" = true ∧ PySem.W.keepIn X.K (.ref (He.ga X.K x)) = true ∧
      PySem.W.subIn X.K (.ref (He.ga X.K x)) (.type "BaseException") = some true ∧ PySem.W.typeIn X.K (.ref (He.ga X.K x)) = some (.type "type")) (hm : X.mg x = some (.ref (He.ga X.K x))) (hg : Gl X x := by rfl)
    (hdb : (x == ("__debug__" : Str)) = false := by decide) : PS X (.Raise (some (.Call (.Name x p) [.Constant (.str m) j p2] [] pos)) none pos2) (tRaiseC (He.ga X.K x) W) :=
  L2N.ps_raise hc tk (L2N.pmk_own PySem.F.excBase_ValueError hx.1 hm hx.2.1 (raises_own hx.2.2.1 hx.2.2.2) hg hdb)

/-! ### the facts of the top -/
structure Facts (fa : List He.Fa) (fn : List He.DefD) (K : PySem.W.Frag) (mg : Str → Option Value) : Prop where
  says : He.SaysD fa fn K
  here : ∃ h : Heap, K.In h ∧ h.Ns mainGlobals mg
section
variable {fa : List He.Fa} {fn : List He.DefD} {K : PySem.W.Frag} {mg : Str → Option Value}
theorem Facts.glo (T : Facts fa fn K mg) (i : Nat) {x : Str} (h : fa[i]? = some (.glo x) := by rfl) : mg x = some (.ref (He.ga K x)) := by
  obtain ⟨hp, X, G⟩ := T.here
  exact He.glo_ok X G (T.says.fact i h)
theorem Facts.free (T : Facts fa fn K mg) (i : Nat) {x : Str} (h : fa[i]? = some (.free x) := by rfl) : mg x = none := by
  obtain ⟨hp, X, G⟩ := T.here
  exact He.free_ok X G (T.says.fact i h)
theorem Facts.gint (T : Facts fa fn K mg) (i : Nat) {x : Str} {n : Int} (h : fa[i]? = some (.int x n) := by rfl) : ∃ t, mg x = some (.int n t) := by
  obtain ⟨hp, X, G⟩ := T.here
  exact He.int_ok X G (T.says.fact i h)
theorem Facts.gstr (T : Facts fa fn K mg) (i : Nat) {x z : Str} (h : fa[i]? = some (.str x z) := by rfl) : ∃ t, mg x = some (.str z t) := by
  obtain ⟨hp, X, G⟩ := T.here
  exact He.str_ok X G (T.says.fact i h)
theorem Facts.exc (T : Facts fa fn K mg) (i : Nat) {x : Str} (h : fa[i]? = some (.exc x) := by rfl) : PySem.W.excIn K (He.ga K x) He.veBase "ValueError.__new__" = true ∧ PySem.W.keepIn K (.ref (He.ga K x)) = true ∧
      PySem.W.subIn K (.ref (He.ga K x)) (.type "BaseException") = some true ∧ PySem.W.typeIn K (.ref (He.ga K x)) = some (.type "type") := He.exc_ok (T.says.fact i h)
theorem Facts.cls (T : Facts fa fn K mg) (i : Nat) {x : Str} (h : fa[i]? = some (.cls x) := by rfl) : Cls K (He.ga K x) := He.cls_ok (T.says.fact i h)
theorem Facts.noat (T : Facts fa fn K mg) (i : Nat) {x f : Str} (h : fa[i]? = some (.noat x f) := by rfl) : NoAttr K (He.ga K x) f := He.noat_ok (T.says.fact i h)
theorem Facts.mkr (T : Facts fa fn K mg) (i : Nat) {x : Str} (h : fa[i]? = some (.mkr x) := by rfl) : Mk K (He.ga K x) (He.ma K (He.ga K x) "__init__") := He.mkr_ok (T.says.fact i h)
theorem Facts.meth (T : Facts fa fn K mg) (i : Nat) {x m : Str} (h : fa[i]? = some (.meth x m) := by rfl) : Meth K (He.ga K x) m (He.ma K (He.ga K x) m) := He.meth_ok (T.says.fact i h)
/-- a def without defaults keeps its promise: so its callers see it -/
theorem Facts.cal (T : Facts fa fn K mg) {P : Program} {w : World} {base : Heap} {k : Nat} {N ps : List Str} {sp : Sp} (i j : Nat) {d : He.DefD} {x : Str} (hi : fn[i]? = some d) (hd : d.at_ = (x, none)) (hdf : d.dfl = []) (hkw : d.kwd = []) (hj : fa[j]? = some (.glo x))
    (S : FnScope N ps d.scope) (len : ∀ vs H Q E, sp vs H Q E → vs.length = ps.length)
    (hb : ∀ (dV kV doc pm : Value) (an : Option Addr) (cdv ct : Value) (us : List Value), us.length = ps.length → bindArgs (PySem.W.fnOf d.name d.qual d.params d.body d.scope .none kV doc pm an cdv ct) ⟨us, []⟩ = pure (ps.zip us))
    (hbody : ∀ (cdv : Value) (A : Around) (outer : List Env) (s : Shared) (H : Hp) (vs : List V) (Q : VK) (E : XK), Room k (A.deeper (envOfC d.qual d.scope s.heap.objs.size (He.ga K x) cdv)) → sp vs H Q E →
      ∃ t, PSs (cxOf (L2N.CX P w) P w K mg base N d.qual d.scope (He.ga K x) cdv A outer s H E) d.body t ∧ t { nx := fun _ H' => Q .non H', rt := Q } (start N vs) H) :
    CalOk P w K mg base x (k + 1) ps sp := by
  obtain ⟨fd, F⟩ := T.says.def_ i hi
  have e1 : He.fAd K d.at_ = He.ga K x := by rw [hd]; rfl
  rw [e1] at F
  refine ⟨fd, FunD.ok F S len hbody, T.glo j hj, F.kp, ?_⟩
  have F2 : FunD K d.name d.qual d.params d.body d.scope [] [] (He.ga K x) fd := by
    have z1 : d.dvs K = [] := by unfold He.DefD.dvs; rw [hdf]; rfl
    have z2 : d.kws K = [] := by unfold He.DefD.kws; rw [hkw]; rfl
    rw [z1, z2] at F
    exact F
  exact F2.bindsN fun kV doc pm an cdv ct us hl => hb .none kV doc pm an cdv ct us hl
/-- an __init__ -/
theorem Facts.mak (T : Facts fa fn K mg) {P : Program} {w : World} {base : Heap} {k : Nat} {N ps : List Str} {sp : Sp} (i j l : Nat) {d : He.DefD} {x : Str} (hi : fn[i]? = some d) (hd : d.at_ = (x, some ("__init__" : Str))) (hdf : d.dfl = []) (hkw : d.kwd = []) (hj : fa[j]? = some (.glo x)) (hl : fa[l]? = some (.mkr x))
    (S : FnScope N ps d.scope) (len : ∀ vs H Q E, sp vs H Q E → vs.length = ps.length)
    (hb : ∀ (dV kV doc pm : Value) (an : Option Addr) (cdv ct : Value) (us : List Value), us.length = ps.length → bindArgs (PySem.W.fnOf d.name d.qual d.params d.body d.scope .none kV doc pm an cdv ct) ⟨us, []⟩ = pure (ps.zip us))
    (hbody : ∀ (cdv : Value) (A : Around) (outer : List Env) (s : Shared) (H : Hp) (vs : List V) (Q : VK) (E : XK), Room k (A.deeper (envOfC d.qual d.scope s.heap.objs.size (He.fAd K d.at_) cdv)) → sp vs H Q E →
      ∃ t, PSs (cxOf (L2N.CX P w) P w K mg base N d.qual d.scope (He.fAd K d.at_) cdv A outer s H E) d.body t ∧ t { nx := fun _ H' => Q .non H', rt := Q } (start N vs) H) :
    MakOk P w K mg base x (k + 1) ps sp := by
  obtain ⟨fd, F⟩ := T.says.def_ i hi
  have F2 : FunD K d.name d.qual d.params d.body d.scope [] [] (He.fAd K d.at_) fd := by
    have z1 : d.dvs K = [] := by unfold He.DefD.dvs; rw [hdf]; rfl
    have z2 : d.kws K = [] := by unfold He.DefD.kws; rw [hkw]; rfl
    rw [z1, z2] at F
    exact F
  have M := T.mkr l hl
  have e1 : He.fAd K d.at_ = He.ma K (He.ga K x) "__init__" := by rw [hd]; rfl
  refine ⟨He.fAd K d.at_, fd, by rw [e1]; exact M, FunD.ok F S len hbody, T.glo j hj, F2.bindsN fun kV doc pm an cdv ct us hl => hb .none kV doc pm an cdv ct us hl⟩
end
end DK
set_option maxRecDepth 100000
set_option maxHeartbeats 2000000
/-! DK, second part: data, steps between heaps, readings step by step. -/
namespace DK
open PySem PySem.Spec PyProof.Rows L2
abbrev Sg := L2.St

/-! ### data -/
inductive Dat where
  | non | bl (b : Bool) | int (i : Int) | str (s : Str) | lst (ds : List Dat) | tup (ds : List Dat) | obj (C : Addr) (ns : List Str) (ds : List Dat) | exc (C : Addr) (l : Option Int) | dct (kvs : List (List Key × V))
/-- an exception object, caught -/
def ExK (cls : Value) (d : Option Addr) (a : Addr) : HO := .ext fun h => ∃ (oe : Obj) (vs : Array Value), h.get? a = some oe ∧ Zc cls d oe ∧ oe.data = .fields vs
/-- its own dict -/
def ExD (F : Hp) : Option Int → Option Addr → Prop
  | none, d => d = none
  | some n, d => ∃ dx, d = some dx ∧ F dx = some (.xd [("line", .int n)])
theorem ExD.up {F F' : Hp} (e : Same F F') {l : Option Int} {d : Option Addr} (h : ExD F l d) : ExD F' l d := by
  cases l with
  | none => exact h
  | some n =>
    obtain ⟨dx, rfl, q⟩ := h
    exact ⟨dx, rfl, e _ _ q⟩
mutual
/-- v bears the datum in the heap F -/
def RD (F : Hp) : Dat → V → Prop
  | .non, v => v = .non
  | .bl b, v => v = .bl b
  | .int i, v => v = .int i
  | .str s, v => v = .str s
  | .lst ds, v => ∃ a vs, v = .ref a ∧ F a = some (.lst vs) ∧ RDs F ds vs
  | .tup ds, v => ∃ a vs, v = .ref a ∧ F a = some (.tup vs) ∧ RDs F ds vs
  | .obj C ns ds, v => ∃ a dx vs, v = .ref a ∧ F a = some (.ins C dx (ns.zip vs)) ∧ RDs F ds vs
  | .exc C l, v => ∃ a d, v = .ref a ∧ F a = some (ExK (.ref C) d a) ∧ ExD F l d
  | .dct kvs, v => ∃ a, v = .ref a ∧ F a = some (.dT kvs)
def RDs (F : Hp) : List Dat → List V → Prop
  | [], vs => vs = []
  | d :: ds, vs => ∃ v r, vs = v :: r ∧ RD F d v ∧ RDs F ds r
end
abbrev dI (ns : List Int) : List Dat := ns.map Dat.int
/-- a list of ints, a tuple of ints, a list (tuple) of such -/
abbrev dL (ns : List Int) : Dat := .lst (dI ns)
abbrev dT (ns : List Int) : Dat := .tup (dI ns)
abbrev dLL (r : List (List Int)) : Dat := .lst (r.map dL)
abbrev dTT (r : List (List Int)) : Dat := .tup (r.map dT)
abbrev dC (c : Int × Int) : Dat := .tup [.int c.1, .int c.2]
abbrev dLC (cs : List (Int × Int)) : Dat := .lst (cs.map dC)

section
variable {F F' H H' : Hp} {d : Dat} {ds es : List Dat} {v u : V} {vs us : List V}
mutual
theorem RD.up (e : Same F F') : ∀ {d : Dat} {v : V}, RD F d v → RD F' d v
  | .non, _, h => h
  | .bl _, _, h => h
  | .int _, _, h => h
  | .str _, _, h => h
  | .lst ds, v, h => by
    obtain ⟨a, vs, rfl, h1, h2⟩ := h
    exact ⟨a, vs, rfl, e a _ h1, RDs.up e h2⟩
  | .tup ds, v, h => by
    obtain ⟨a, vs, rfl, h1, h2⟩ := h
    exact ⟨a, vs, rfl, e a _ h1, RDs.up e h2⟩
  | .obj C ns ds, v, h => by
    obtain ⟨a, dx, vs, rfl, h1, h2⟩ := h
    exact ⟨a, dx, vs, rfl, e a _ h1, RDs.up e h2⟩
  | .exc C l, v, h => by
    obtain ⟨a, d, rfl, h1, h2⟩ := h
    exact ⟨a, d, rfl, e a _ h1, h2.up e⟩
  | .dct kvs, v, h => by
    obtain ⟨a, rfl, h1⟩ := h
    exact ⟨a, rfl, e a _ h1⟩
theorem RDs.up (e : Same F F') : ∀ {ds : List Dat} {vs : List V}, RDs F ds vs → RDs F' ds vs
  | [], _, h => h
  | d :: ds, vs, h => by
    obtain ⟨v, r, rfl, h1, h2⟩ := h
    exact ⟨v, r, rfl, RD.up e h1, RDs.up e h2⟩
end
theorem RD.int_ {i : Int} : RD F (.int i) (.int i) := rfl
theorem RD.bl_ {b : Bool} : RD F (.bl b) (.bl b) := rfl
theorem RD.str_ {s : Str} : RD F (.str s) (.str s) := rfl
theorem RD.non_ : RD F .non .non := rfl
theorem RDs.nil : RDs F [] [] := rfl
theorem RDs.cons (h : RD F d v) (t : RDs F ds vs) : RDs F (d :: ds) (v :: vs) := ⟨v, vs, rfl, h, t⟩
theorem RDs.len : ∀ {ds : List Dat} {vs : List V}, RDs F ds vs → vs.length = ds.length
  | [], _, h => by rw [show _ = [] from h]; rfl
  | d :: ds, vs, h => by
    obtain ⟨v, r, rfl, _, h2⟩ := h
    exact congrArg Nat.succ (RDs.len h2)
theorem RDs.app : ∀ {ds : List Dat} {vs : List V}, RDs F ds vs → RDs F es us → RDs F (ds ++ es) (vs ++ us)
  | [], _, h, k => by rw [show _ = [] from h]; exact k
  | d :: ds, vs, h, k => by
    obtain ⟨v, r, rfl, h1, h2⟩ := h
    exact ⟨v, r ++ us, rfl, h1, RDs.app h2 k⟩
theorem RDs.snoc (t : RDs F ds vs) (h : RD F d v) : RDs F (ds ++ [d]) (vs ++ [v]) := t.app (RDs.nil.cons h)
theorem RDs.at : ∀ {ds : List Dat} {vs : List V} {i : Nat} {d : Dat}, RDs F ds vs → ds[i]? = some d → ∃ v, vs[i]? = some v ∧ RD F d v
  | [], _, _, _, _, e => by simp at e
  | d :: ds, vs, 0, d', h, e => by
    obtain ⟨v, r, rfl, h1, _⟩ := h
    have e1 : d = d' := Option.some.inj (by simpa using e)
    subst e1
    exact ⟨v, rfl, h1⟩
  | d :: ds, vs, i + 1, d', h, e => by
    obtain ⟨v, r, rfl, _, h2⟩ := h
    exact RDs.at (i := i) h2 (by simpa using e)
theorem RDs.of_at {i : Nat} (t : RDs F ds vs) (e : vs[i]? = some v) : ∃ d, ds[i]? = some d ∧ RD F d v := by
  have hl := t.len
  have hi := (List.getElem?_eq_some_iff.mp e).1
  obtain ⟨d, hd⟩ : ∃ d, ds[i]? = some d := ⟨ds[i]'(by omega), List.getElem?_eq_getElem (by omega)⟩
  obtain ⟨u, hu, r⟩ := t.at hd
  rw [e] at hu
  cases hu
  exact ⟨d, hd, r⟩
theorem RDs.take : ∀ {ds : List Dat} {vs : List V} (n : Nat), RDs F ds vs → RDs F (ds.take n) (vs.take n)
  | ds, vs, 0, _ => by simp; exact RDs.nil
  | [], _, n + 1, h => by rw [show _ = [] from h]; exact RDs.nil
  | d :: ds, vs, n + 1, h => by
    obtain ⟨v, r, rfl, h1, h2⟩ := h
    exact ⟨v, r.take n, rfl, h1, RDs.take n h2⟩
theorem RDs.drop : ∀ {ds : List Dat} {vs : List V} (n : Nat), RDs F ds vs → RDs F (ds.drop n) (vs.drop n)
  | ds, vs, 0, h => h
  | [], _, n + 1, h => by rw [show _ = [] from h]; exact RDs.nil
  | d :: ds, vs, n + 1, h => by
    obtain ⟨v, r, rfl, h1, h2⟩ := h
    exact RDs.drop n h2
theorem RDs.set : ∀ {ds : List Dat} {vs : List V} (n : Nat), RDs F ds vs → RD F d v → RDs F (ds.set n d) (vs.set n v)
  | [], _, n, h, _ => by rw [show _ = [] from h]; exact RDs.nil
  | d' :: ds, vs, 0, h, k => by
    obtain ⟨v', r, rfl, h1, h2⟩ := h
    exact ⟨v, r, rfl, k, h2⟩
  | d' :: ds, vs, n + 1, h, k => by
    obtain ⟨v', r, rfl, h1, h2⟩ := h
    exact ⟨v', r.set n v, rfl, h1, RDs.set n h2 k⟩
/-- ints are their values -/
theorem RDs.ints : ∀ {ns : List Int} {vs : List V}, RDs F (ns.map Dat.int) vs → vs = ns.map V.int
  | [], _, h => h
  | n :: ns, vs, h => by
    obtain ⟨v, r, rfl, h1, h2⟩ := h
    rw [show v = V.int n from h1, RDs.ints (ns := ns) h2]; rfl
theorem RDs.of_ints : ∀ (ns : List Int), RDs F (ns.map Dat.int) (ns.map V.int)
  | [] => rfl
  | n :: ns => ⟨_, _, rfl, rfl, RDs.of_ints ns⟩
theorem RDs.eq_len {n : Nat} (t : RDs F ds vs) (h : ds.length = n) : vs.length = n := t.len.trans h
end

/-! ### steps between heaps: F is frozen, H stands -/
def NT : HO → Prop
  | .tup _ => False
  | _ => True
structure Stp (S : List Addr) (F H F' H' : Hp) : Prop where
  pre : Same F H
  ex : Same F F'
  inn : Same F' H'
  own : ∀ p o, p ∉ S → F p = none → H p = some o → NT o → H' p = some o ∧ F' p = none
  dom : ∀ p, H' p = none → H p = none
  tup : ∀ p xs, H p = some (.tup xs) → H' p = some (.tup xs)
/-- the object at L is ours alone: not frozen -/
structure Own (F H : Hp) (L : Addr) (o : HO) : Prop where
  f : F L = none
  h : H L = some o
  nt : NT o
def Fre (H : Hp) (L : Addr) : Prop := H L = none
section
variable {S S' : List Addr} {F H F1 H1 F2 H2 : Hp} {p L : Addr} {o o' : HO} {d : Dat} {ds : List Dat} {v : V} {vs : List V}
theorem Stp.refl (h : Same F H) : Stp S F H F H := ⟨h, Same.refl F, h, fun _ _ _ a b _ => ⟨b, a⟩, fun _ a => a, fun _ _ e => e⟩
theorem Stp.trans (a : Stp S F H F1 H1) (b : Stp S' F1 H1 F2 H2) (h : ∀ p ∈ S', p ∈ S ∨ H p = none) : Stp S F H F2 H2 :=
  ⟨a.pre, a.ex.trans b.ex, b.inn, fun p o n f e nt => by
    obtain ⟨h1, h2⟩ := a.own p o n f e nt
    exact b.own p o (fun z => (h p z).elim n fun q => by rw [q] at e; cases e) h2 h1 nt, fun p e => a.dom p (b.dom p e), fun p xs e => b.tup p xs (a.tup p xs e)⟩
theorem Stp.up (a : Stp S F H F1 H1) (h : RD F d v) : RD F1 d v := h.up a.ex
theorem Stp.ups (a : Stp S F H F1 H1) (h : RDs F ds vs) : RDs F1 ds vs := h.up a.ex
theorem Stp.keep (a : Stp S F H F1 H1) (n : L ∉ S) (h : Own F H L o) : Own F1 H1 L o := let ⟨h1, h2⟩ := a.own L o n h.f h.h h.nt; ⟨h2, h1, h.nt⟩
theorem Stp.back (a : Stp S F H F1 H1) (h : Fre H1 L) : Fre H L := a.dom L h
theorem Own.ne (h : Own F H p o) (n : Fre H L) : p ≠ L := ne_of_none h.h n
theorem RD.ne {a : Addr} (e : Same F H) (h : F a = some o) (n : Own F H L o') : a ≠ L := ne_of_none h n.f
/-- a new frozen thing -/
theorem Stp.new (h : Same F H) (n : H p = none) : Stp S F H (upd F p o) (upd H p o) := by
  have nF : F p = none := h.free n
  refine ⟨h, fun b x e => by rw [upd_ne (ne_of_none e nF)]; exact e, fun b x e => ?_, fun b x _ f e _ => ?_, fun b e => ?_, fun b xs e => by rw [upd_ne (ne_of_none e n)]; exact e⟩
  · by_cases z : b = p
    · subst z; rw [upd_same] at e ⊢; exact e
    · rw [upd_ne z] at e ⊢; exact h b x e
  · have z := ne_of_none e n
    rw [upd_ne z, upd_ne z]; exact ⟨e, f⟩
  · by_cases z : b = p
    · subst z; exact n
    · rw [upd_ne z] at e; exact e
/-- a new thing of ours -/
theorem Stp.newO (h : Same F H) (n : H p = none) : Stp S F H F (upd H p o) := by
  refine ⟨h, Same.refl F, fun b x e => by rw [upd_ne (ne_of_none (h b x e) n)]; exact h b x e, fun b x _ f e _ => ?_, fun b e => ?_, fun b xs e => by rw [upd_ne (ne_of_none e n)]; exact e⟩
  · rw [upd_ne (ne_of_none e n)]; exact ⟨e, f⟩
  · by_cases z : b = p
    · subst z; exact n
    · rw [upd_ne z] at e; exact e
/-- a thing of ours changes -/
theorem Stp.put (h : Same F H) (n : Own F H L o) : Stp [L] F H F (upd H L o') := by
  refine ⟨h, Same.refl F, fun b x e => by rw [upd_ne (ne_of_none e n.f)]; exact h b x e, fun b x z f e _ => ?_, fun b e => ?_, fun b xs e => ?_⟩
  · rw [upd_ne (fun q => z (by rw [q]; exact List.mem_cons_self))]; exact ⟨e, f⟩
  · by_cases z : b = L
    · subst z; rw [upd_same] at e; cases e
    · rw [upd_ne z] at e; exact e
  · by_cases z : b = L
    · subst z
      have q := n.nt
      rw [n.h] at e
      cases e
      exact q.elim
    · rw [upd_ne z]; exact e
/-- a thing of ours is frozen -/
theorem Stp.frz (h : Same F H) (n : Own F H L o) : Stp [L] F H (upd F L o) H := by
  refine ⟨h, fun b x e => by rw [upd_ne (ne_of_none e n.f)]; exact e, fun b x e => ?_, fun b x z f e _ => ?_, fun b e => e, fun b xs e => e⟩
  · by_cases z : b = L
    · subst z; rw [upd_same] at e; rw [← e]; exact n.h
    · rw [upd_ne z] at e; exact h b x e
  · rw [upd_ne (fun q => z (by rw [q]; exact List.mem_cons_self))]; exact ⟨e, f⟩
/-- a tuple is frozen -/
theorem Stp.frzT {p : Addr} {xs : List V} (h : Same F H) (e : H p = some (.tup xs)) : ∃ F', Stp [] F H F' H ∧ F' p = some (.tup xs) := by
  cases q : F p with
  | some o =>
    have := h p o q
    rw [e] at this
    cases this
    exact ⟨F, Stp.refl h, q⟩
  | none =>
    refine ⟨upd F p (.tup xs), ⟨h, fun b x z => by rw [upd_ne (ne_of_none z q)]; exact z, fun b x z => ?_, fun b x _ f z nt => ?_, fun b z => z, fun b xs z => z⟩, upd_same⟩
    · by_cases w : b = p
      · subst w; rw [upd_same] at z; rw [← z]; exact e
      · rw [upd_ne w] at z; exact h b x z
    · have w : b ≠ p := by
        rintro rfl
        rw [e] at z
        cases z
        exact nt
      rw [upd_ne w]; exact ⟨z, f⟩
theorem nm_nil : p ∉ ([] : List Addr) := by simp
theorem nm_cons (h : p ≠ L) (t : p ∉ S) : p ∉ L :: S := by
  simp only [List.mem_cons, not_or]; exact ⟨h, t⟩
theorem sub_nil : ∀ q ∈ ([] : List Addr), q ∈ S ∨ H q = none := by simp
theorem sub_in (h : L ∈ S) (t : ∀ q ∈ S', q ∈ S ∨ H q = none) : ∀ q ∈ L :: S', q ∈ S ∨ H q = none := fun q hq => by
  rcases List.mem_cons.mp hq with e | e
  · subst e; exact .inl h
  · exact t q e
theorem sub_new (h : Fre H L) (t : ∀ q ∈ S', q ∈ S ∨ H q = none) : ∀ q ∈ L :: S', q ∈ S ∨ H q = none := fun q hq => by
  rcases List.mem_cons.mp hq with e | e
  · subst e; exact .inr h
  · exact t q e
end

/-! ### readings step by step -/
section
variable {K : PySem.W.Frag} {S : List Addr} {F H : Hp} {σ : Sg} {Q : VK} {D : Ends} {ta tb te : TE} {t u : TS} {c c2 : TT} {x y v : V} {i j : Int}
theorem st_seq (k : t { D with nx := u D } σ H) : tSeq t u D σ H := k
theorem st_next (k : D.nx σ H) : tNext D σ H := k
theorem st_ret (k : te σ H D.rt) : tRet te D σ H := k
theorem st_retN (k : D.rt .non H) : tRetN D σ H := k
theorem st_drop (k : te σ H fun _ H1 => D.nx σ H1) : tDrop te D σ H := k
theorem st_if (k : c σ H fun b H1 => if b = true then t D σ H1 else u D σ H1) : tIfS c t u D σ H := k
theorem st_asg {g : TG} (k : te σ H fun x H1 => g x σ H1 D.nx) : tAsg te g D σ H := k
theorem st_gname {n : Nat} {σ' : Sg} {Q : Sg → Hp → Prop} (e : σ.set n (some v) = σ') (k : Q σ' H) : gName n v σ H Q := by
  show Q (σ.set n (some v)) H
  rw [e]; exact k
theorem st_var {n : Nat} (h : σ[n]? = some (some v)) (k : Q v H) : tVar n σ H Q := ⟨v, h, k⟩
theorem st_c (k : Q v H) : tC v σ H Q := k
theorem st_op {r : R2} (k : ta σ H fun x H1 => tb σ H1 fun y H2 => r x y H2 Q) : tOp r ta tb σ H Q := k
theorem st_un {r : V → Hp → VK → Prop} (k : ta σ H fun x H1 => r x H1 Q) : tUn r ta σ H Q := k
theorem st_rU {g : Int → V} (k : Q (g i) H) : rU g (.int i) H Q := ⟨i, rfl, k⟩
theorem st_test {Q : Bool → Hp → Prop} (k : te σ H fun x H' => ∃ b, x = .bl b ∧ Q b H') : tTest te σ H Q := k
theorem st_B {Q : Bool → Hp → Prop} (k : te σ H fun x H' => ∃ b, x = .bl b ∧ Q b H') : tB te σ H Q := k
theorem st_exb {b : Bool} {Q : Bool → Prop} (k : Q b) : ∃ b', V.bl b = .bl b' ∧ Q b' := ⟨b, rfl, k⟩
theorem st_not {Q : Bool → Hp → Prop} (k : c σ H fun b H1 => Q (!b) H1) : tNot c σ H Q := k
theorem st_and {Q : Bool → Hp → Prop} (k : c σ H fun b H1 => if b = true then c2 σ H1 Q else Q false H1) : tAnd c c2 σ H Q := k
theorem st_or {Q : Bool → Hp → Prop} (k : c σ H fun b H1 => if b = true then Q true H1 else c2 σ H1 Q) : tOr c c2 σ H Q := k
theorem st_notV (k : te σ H fun x H1 => ∃ b, x = .bl b ∧ Q (.bl (!b)) H1) : tNotV te σ H Q := k
theorem st_andV (k : ta σ H fun x H1 => ∃ b, x = .bl b ∧ if b = true then tb σ H1 Q else Q (.bl false) H1) : tAndV ta tb σ H Q := k
theorem st_orV (k : ta σ H fun x H1 => ∃ b, x = .bl b ∧ if b = true then Q (.bl true) H1 else tb σ H1 Q) : tOrV ta tb σ H Q := k
theorem st_ifE (k : c σ H fun b H1 => if b = true then ta σ H1 Q else tb σ H1 Q) : tIf c ta tb σ H Q := k
theorem st_chain {r r' : R2} {tc : TE} (k : ta σ H fun x H1 => tb σ H1 fun y H2 => r x y H2 fun z H3 => ∃ b, z = .bl b ∧ (if b = true then tc σ H3 fun w' H4 => r' y w' H4 Q else Q (.bl false) H3)) : tChain r r' ta tb tc σ H Q := k
theorem st_nil {Q : List V → Hp → Prop} (k : Q [] H) : tNil σ H Q := k
theorem st_cons {tr : TA} {Q : List V → Hp → Prop} (k : ta σ H fun x H1 => tr σ H1 fun xs H2 => Q (x :: xs) H2) : tCons ta tr σ H Q := k
theorem st_cb {r : List V → Hp → VK → Prop} {t : TA} (k : t σ H fun vs H1 => r vs H1 Q) : tCB r t σ H Q := k
theorem st_call {sp : Sp} {dvs : List V} {E : XK} {t : TA} (k : t σ H fun vs H1 => sp (vs ++ dvs) H1 Q E) : tCall sp dvs E t σ H Q := k
theorem st_fld {f : Str} (k : ta σ H fun x H1 => ∃ a C dx fs v, x = .ref a ∧ H1 a = some (.ins C dx fs) ∧ Cls K C ∧ NoAttr K C f ∧ fs.lookup f = some v ∧ Q v H1) : tFld K ta f σ H Q := k
theorem st_gsub {to ti : TE} {r : TSet} {Q : Sg → Hp → Prop} (k : to σ H fun o H1 => ti σ H1 fun i H2 => r o i v H2 fun H3 => Q σ H3) : gSub to ti r v σ H Q := k
/-! operators on ints -/
theorem st_add (k : Q (.int (i + j)) H) : rAddU K (.int i) (.int j) H Q := .inl ⟨i, j, rfl, rfl, k⟩
theorem st_I0 {g : Int → Int → V} (k : Q (g i j) H) : rI0 g (.int i) (.int j) H Q := ⟨i, j, rfl, rfl, k⟩
theorem st_mod (h : 0 < j) (k : Q (.int (i % j)) H) : rI (fun _ j => 0 < j) (fun i j => .int (i % j)) (.int i) (.int j) H Q := ⟨i, j, rfl, rfl, h, k⟩
theorem st_mul (h : CMulU i j) (k : Q (.int (i * j)) H) : rMulU (.int i) (.int j) H Q := .inl ⟨i, j, rfl, rfl, h, k⟩
theorem st_div (h : CDivU i j) (k : Q (.int (i / j)) H) : rDivU (.int i) (.int j) H Q := ⟨i, j, rfl, rfl, h, k⟩
theorem mulL (h : -(2 ^ 64) < i ∧ i < 2 ^ 64) : CMulU i j := .inl (.inl h)
theorem mulR (h : -(2 ^ 64) < j ∧ j < 2 ^ 64) : CMulU i j := .inl (.inr h)
theorem divS (h : 0 < j ∧ j < 1073741824) : CDivU i j := .inl h
theorem st_eqI (k : Q (.bl (decide (i = j))) H) : rEqU K (.int i) (.int j) H Q := .inl ⟨rfl, by rw [show decide (V.int i = V.int j) = decide (i = j) by simp]; exact k⟩
theorem st_neI (k : Q (.bl (!decide (i = j))) H) : rNeU K (.int i) (.int j) H Q := .inl ⟨rfl, by rw [show decide (V.int i = V.int j) = decide (i = j) by simp]; exact k⟩
theorem st_isN1 (k : Q (.bl true) H) : rIsN .non .non H Q := ⟨rfl, k⟩
theorem st_isN0 (h : x ≠ .non) (k : Q (.bl false) H) : rIsN x .non H Q := ⟨rfl, by rw [decide_eq_false h]; exact k⟩
theorem st_notN1 (k : Q (.bl false) H) : rNotN .non .non H Q := ⟨rfl, k⟩
theorem st_notN0 (h : x ≠ .non) (k : Q (.bl true) H) : rNotN x .non H Q := ⟨rfl, by rw [decide_eq_false h]; exact k⟩
/-! branches -/
theorem br {p A B : Prop} {_ : Decidable p} (h1 : p → A) (h2 : ¬ p → B) : if decide p = true then A else B := by
  by_cases h : p
  · rw [if_pos (decide_eq_true h)]; exact h1 h
  · rw [if_neg (by simp [h])]; exact h2 h
theorem brT {p A B : Prop} {_ : Decidable p} (h : p) (k : A) : if decide p = true then A else B := br (fun _ => k) fun z => absurd h z
theorem brF {p A B : Prop} {_ : Decidable p} (h : ¬ p) (k : B) : if decide p = true then A else B := br (fun z => absurd z h) fun _ => k
theorem brn {p A B : Prop} {_ : Decidable p} (h1 : ¬ p → A) (h2 : p → B) : if (!decide p) = true then A else B := by
  by_cases h : p
  · rw [if_neg (by simp [h])]; exact h2 h
  · rw [if_pos (by simp [h])]; exact h1 h
theorem brnT {p A B : Prop} {_ : Decidable p} (h : ¬ p) (k : A) : if (!decide p) = true then A else B := brn (fun _ => k) fun z => absurd z h
theorem brnF {p A B : Prop} {_ : Decidable p} (h : p) (k : B) : if (!decide p) = true then A else B := brn (fun z => absurd h z) fun _ => k
theorem br_t {A B : Prop} (k : A) : if true = true then A else B := by rw [if_pos rfl]; exact k
theorem br_f {A B : Prop} (k : B) : if false = true then A else B := by rw [if_neg (by decide)]; exact k
theorem br_nt {A B : Prop} (k : B) : if (!true) = true then A else B := by rw [if_neg (by decide)]; exact k
theorem br_nf {A B : Prop} (k : A) : if (!false) = true then A else B := by rw [if_pos (by decide)]; exact k

/-! ### what is read: frozen data, things of ours -/
variable {ds : List Dat} {vs : List V} {d : Dat} {ns : List Int} {L : Addr} {xs : List V}
theorem same_l {a : Addr} (e : Same F H) (h : F a = some (.lst vs)) : SqL K H a vs := SqL.of (e a _ h)
theorem same_t {a : Addr} (e : Same F H) (h : F a = some (.tup vs)) : SqT K H a vs := SqT.of (e a _ h)
theorem st_lenL (e : Same F H) (h : RD F (.lst ds) v) (k : Q (.int (ds.length : Nat)) H) : rLenU K [v] H Q := by
  obtain ⟨a, vs, rfl, h1, h2⟩ := h
  exact ⟨_, _, rfl, .inl ⟨_, same_l e h1, rfl⟩, by rw [h2.len]; exact k⟩
theorem st_lenT (e : Same F H) (h : RD F (.tup ds) v) (k : Q (.int (ds.length : Nat)) H) : rLenU K [v] H Q := by
  obtain ⟨a, vs, rfl, h1, h2⟩ := h
  exact ⟨_, _, rfl, .inr ⟨_, same_t e h1, rfl⟩, by rw [h2.len]; exact k⟩
theorem st_lenO (h : Own F H L (.lst xs)) (k : Q (.int (xs.length : Nat)) H) : rLenU K [.ref L] H Q := ⟨_, _, rfl, .inl ⟨_, SqL.of h.h, rfl⟩, k⟩
theorem st_lenM {α : Type} {f : α → Dat} {zs : List α} (e : Same F H) (h : RD F (.lst (zs.map f)) v) (k : Q (.int (zs.length : Nat)) H) : rLenU K [v] H Q := st_lenL e h (by rw [List.length_map]; exact k)
theorem st_lenMT {α : Type} {f : α → Dat} {zs : List α} (e : Same F H) (h : RD F (.tup (zs.map f)) v) (k : Q (.int (zs.length : Nat)) H) : rLenU K [v] H Q := st_lenT e h (by rw [List.length_map]; exact k)
/-- x[i] -/
theorem st_ixL (e : Same F H) (h : RD F (.lst ds) v) (hd : atI ds i = some d) (k : ∀ u, RD F d u → Q u H) : rIxU K v (.int i) H Q := by
  obtain ⟨a, vs, rfl, h1, h2⟩ := h
  unfold atI at hd
  cases q : ixN ds.length i with
  | none => rw [q] at hd; cases hd
  | some n =>
    rw [q] at hd
    obtain ⟨u, hu, r⟩ := h2.at hd
    exact .inl ⟨a, vs, i, u, rfl, rfl, same_l e h1, by unfold atI; rw [h2.len, q]; exact hu, k u r⟩
theorem st_ixT (e : Same F H) (h : RD F (.tup ds) v) (hd : atI ds i = some d) (k : ∀ u, RD F d u → Q u H) : rIxU K v (.int i) H Q := by
  obtain ⟨a, vs, rfl, h1, h2⟩ := h
  unfold atI at hd
  cases q : ixN ds.length i with
  | none => rw [q] at hd; cases hd
  | some n =>
    rw [q] at hd
    obtain ⟨u, hu, r⟩ := h2.at hd
    exact .inr (.inl ⟨a, vs, i, u, rfl, rfl, same_t e h1, by unfold atI; rw [h2.len, q]; exact hu, k u r⟩)
theorem atI_in {α : Type} {zs : List α} (h0 : 0 ≤ i) (h1 : i < zs.length) : ∃ z, zs[i.toNat]? = some z ∧ atI zs i = some z := by
  have hl : i.toNat < zs.length := by omega
  obtain ⟨z, hz⟩ : ∃ z, zs[i.toNat]? = some z := ⟨_, List.getElem?_eq_getElem hl⟩
  refine ⟨z, hz, ?_⟩
  have e : i = (i.toNat : Int) := by omega
  rw [e]
  exact atI_nat hz
theorem atI_map {α β : Type} {f : α → β} {zs : List α} {z : α} (h : atI zs i = some z) : atI (zs.map f) i = some (f z) := by
  unfold atI at h ⊢
  rw [List.length_map]
  cases q : ixN zs.length i with
  | none => rw [q] at h; cases h
  | some n =>
    rw [q] at h
    show (zs.map f)[n]? = some (f z)
    rw [List.getElem?_map, show zs[n]? = some z from h]; rfl
/-- .. of a list told by a map, at a place within -/
theorem st_ixM {α : Type} {f : α → Dat} {zs : List α} (e : Same F H) (h : RD F (.lst (zs.map f)) v) (h0 : 0 ≤ i) (h1 : i < zs.length) (k : ∀ z u, zs[i.toNat]? = some z → RD F (f z) u → Q u H) : rIxU K v (.int i) H Q := by
  obtain ⟨z, hz, hz2⟩ := atI_in h0 h1
  exact st_ixL e h (atI_map hz2) fun u r => k z u hz r
theorem st_ixMT {α : Type} {f : α → Dat} {zs : List α} (e : Same F H) (h : RD F (.tup (zs.map f)) v) (h0 : 0 ≤ i) (h1 : i < zs.length) (k : ∀ z u, zs[i.toNat]? = some z → RD F (f z) u → Q u H) : rIxU K v (.int i) H Q := by
  obtain ⟨z, hz, hz2⟩ := atI_in h0 h1
  exact st_ixT e h (atI_map hz2) fun u r => k z u hz r
theorem st_ixI (e : Same F H) (h : RD F (.lst (ns.map Dat.int)) v) (h0 : 0 ≤ i) (h1 : i < ns.length) (k : ∀ z, ns[i.toNat]? = some z → Q (.int z) H) : rIxU K v (.int i) H Q :=
  st_ixM e h h0 h1 fun z u hz r => by rw [show u = V.int z from r]; exact k z hz
theorem st_ixIT (e : Same F H) (h : RD F (.tup (ns.map Dat.int)) v) (h0 : 0 ≤ i) (h1 : i < ns.length) (k : ∀ z, ns[i.toNat]? = some z → Q (.int z) H) : rIxU K v (.int i) H Q :=
  st_ixMT e h h0 h1 fun z u hz r => by rw [show u = V.int z from r]; exact k z hz
theorem st_ixO (h : Own F H L (.lst xs)) (hd : atI xs i = some v) (k : Q v H) : rIxU K (.ref L) (.int i) H Q := .inl ⟨L, xs, i, v, rfl, rfl, SqL.of h.h, hd, k⟩
/-- a field of a frozen instance -/
theorem st_fldD {C : Addr} {nms : List Str} {f : Str} {n : Nat} (e : Same F H) (h : RD F (.obj C nms ds) v) (cl : Cls K C) (na : NoAttr K C f) (hf : nms.idxOf f = n) (hl : n < nms.length) {P : V → Prop} (hd : ds[n]? = some d) (k : ∀ u, RD F d u → P u) :
    ∃ a C dx fs u, v = .ref a ∧ H a = some (.ins C dx fs) ∧ Cls K C ∧ NoAttr K C f ∧ fs.lookup f = some u ∧ P u := by
  obtain ⟨a, dx, vs, rfl, h1, h2⟩ := h
  obtain ⟨u, hu, r⟩ := h2.at hd
  refine ⟨a, C, dx, _, u, rfl, e a _ h1, cl, na, ?_, k u r⟩
  clear h1 h2 hd k
  induction nms generalizing n vs with
  | nil => simp at hl
  | cons m ms ih =>
    cases vs with
    | nil => simp at hu
    | cons w ws =>
      rw [List.zip_cons_cons, List.lookup_cons]
      by_cases z : f = m
      · have zb : (f == m) = true := by simpa using z
        rw [zb]
        have hn : n = 0 := by rw [← hf, List.idxOf_cons]; simp [z]
        subst hn
        simpa using hu
      · have zb : (f == m) = false := by simpa using z
        have zc : (m == f) = false := by simpa using fun q => z q.symm
        rw [zb]
        have hn : n = ms.idxOf f + 1 := by rw [← hf, List.idxOf_cons]; simp [zc]
        subst hn
        exact ih (n := ms.idxOf f) rfl (by simpa using hl) ws (by simpa using hu)
/-! ### what is made -/
/-- a new list, a new tuple is owed -/
def NewL (vs : List V) (H : Hp) (Q : VK) : Prop := vs.length ≤ sizeLine ∧ ∀ p, H p = none → Q (.ref p) (upd H p (.lst vs))
def NewT (vs : List V) (H : Hp) (Q : VK) : Prop := vs.length ≤ sizeLine ∧ ∀ p, H p = none → Q (.ref p) (upd H p (.tup vs))
theorem st_tup {t : TA} (k : t σ H fun xs H1 => NewT xs H1 Q) : tTup t σ H Q := k
theorem st_lst {t : TA} (k : t σ H fun xs H1 => NewL xs H1 Q) : tLst t σ H Q := k
theorem sz_le {n : Nat} (h : n ≤ 1000000) : n ≤ sizeLine := Nat.le_trans h (by decide)
theorem sz_lt {n : Nat} (h : n < 1000000) : n < sizeLine := Nat.lt_of_lt_of_le h (by decide)
theorem nw_lst (e : Same F H) (h : RDs F ds vs) (k : ∀ u F' H', Stp [] F H F' H' → RD F' (.lst ds) u → Q u H') : ∀ p, H p = none → Q (.ref p) (upd H p (.lst vs)) := fun p n => by
  have s : Stp [] F H (upd F p (.lst vs)) (upd H p (.lst vs)) := Stp.new e n
  exact k _ _ _ s ⟨p, vs, rfl, upd_same, h.up s.ex⟩
theorem nw_tup (e : Same F H) (h : RDs F ds vs) (k : ∀ u F' H', Stp [] F H F' H' → RD F' (.tup ds) u → Q u H') : ∀ p, H p = none → Q (.ref p) (upd H p (.tup vs)) := fun p n => by
  have s : Stp [] F H (upd F p (.tup vs)) (upd H p (.tup vs)) := Stp.new e n
  exact k _ _ _ s ⟨p, vs, rfl, upd_same, h.up s.ex⟩
/-- a new list of ours -/
theorem nw_own {o : HO} (e : Same F H) (nt : NT o := by trivial) (k : ∀ L F' H', Stp [] F H F' H' → Fre H L → Own F' H' L o → Q (.ref L) H') : ∀ p, H p = none → Q (.ref p) (upd H p o) := fun p n =>
  k p _ _ (Stp.newO e n) n ⟨e.free n, upd_same, nt⟩
theorem newL (z : vs.length ≤ 1000000) (e : Same F H) (h : RDs F ds vs) (k : ∀ u F' H', Stp [] F H F' H' → RD F' (.lst ds) u → Q u H') : NewL vs H Q := ⟨sz_le z, nw_lst e h k⟩
theorem newT (z : vs.length ≤ 1000000) (e : Same F H) (h : RDs F ds vs) (k : ∀ u F' H', Stp [] F H F' H' → RD F' (.tup ds) u → Q u H') : NewT vs H Q := ⟨sz_le z, nw_tup e h k⟩
theorem newO (z : vs.length ≤ 1000000) (e : Same F H) (k : ∀ L F' H', Stp [] F H F' H' → Fre H L → Own F' H' L (.lst vs) → Q (.ref L) H') : NewL vs H Q := ⟨sz_le z, nw_own e (k := k)⟩
/-- made.append(e) -/
theorem st_bm {T : String} {r : V → List V → Hp → VK → Prop} {to : TE} {t : TA} (k : to σ H fun x H1 => tyV K T x H1 ∧ t σ H1 fun xs H2 => r x xs H2 Q) : tBM K T r to t σ H Q := k
theorem st_bm0 {T : String} {r : V → List V → Hp → VK → Prop} {to : TE} (k : to σ H fun x H1 => tyV K T x H1 ∧ r x [] H1 Q) : tBM0 K T r to σ H Q := k
theorem ty_own (h : Own F H L (.lst xs)) : tyV K "list" (.ref L) H := .inl ⟨rfl, _, SqL.of h.h⟩
theorem st_app (e : Same F H) (h : Own F H L (.lst xs)) (z : xs.length < 1000000) (k : ∀ F' H', Stp [L] F H F' H' → Own F' H' L (.lst (xs ++ [v])) → Q .non H') : rAppend (.ref L) [v] H Q :=
  ⟨L, xs, v, rfl, rfl, h.h, sz_lt z, k _ _ (Stp.put e h) ⟨h.f, upd_same, trivial⟩⟩
theorem st_setO {n : Nat} {Q : Hp → Prop} (e : Same F H) (h : Own F H L (.lst xs)) (hn : ixN xs.length i = some n) (k : ∀ F' H', Stp [L] F H F' H' → Own F' H' L (.lst (xs.set n v)) → Q H') : rSetL (.ref L) (.int i) v H Q :=
  ⟨L, xs, i, n, rfl, rfl, h.h, hn, k _ _ (Stp.put e h) ⟨h.f, upd_same, trivial⟩⟩
/-- tuple(x) of a list of ours, of frozen data -/
theorem st_tupO (e : Same F H) (h : Own F H L (.lst xs)) (hd : RDs F ds xs) (k : ∀ u F' H', Stp [] F H F' H' → RD F' (.tup ds) u → Q u H') : rTupU K [.ref L] H Q :=
  ⟨L, xs, rfl, .inl ⟨SqL.of h.h, nw_tup e hd k⟩⟩
theorem st_tupL (e : Same F H) (h : RD F (.lst ds) v) (k : ∀ u F' H', Stp [] F H F' H' → RD F' (.tup ds) u → Q u H') : rTupU K [v] H Q := by
  obtain ⟨a, vs, rfl, h1, h2⟩ := h
  exact ⟨a, vs, rfl, .inl ⟨same_l e h1, nw_tup e h2 k⟩⟩
theorem st_tupT (e : Same F H) (h : RD F (.tup ds) v) (k : Q v H) : rTupU K [v] H Q := by
  obtain ⟨a, vs, rfl, h1, h2⟩ := h
  exact ⟨a, vs, rfl, .inr ⟨same_t e h1, k⟩⟩
theorem st_lstL (e : Same F H) (h : RD F (.lst ds) v) (k : ∀ u F' H', Stp [] F H F' H' → RD F' (.lst ds) u → Q u H') : rListU K [v] H Q := by
  obtain ⟨a, vs, rfl, h1, h2⟩ := h
  exact ⟨a, vs, rfl, .inl (same_l e h1), nw_lst e h2 k⟩
theorem st_lstT (e : Same F H) (h : RD F (.tup ds) v) (k : ∀ u F' H', Stp [] F H F' H' → RD F' (.lst ds) u → Q u H') : rListU K [v] H Q := by
  obtain ⟨a, vs, rfl, h1, h2⟩ := h
  exact ⟨a, vs, rfl, .inr (same_t e h1), nw_lst e h2 k⟩
/-- a, b = .. of a frozen tuple -/
theorem st_gtup {n : Nat} {t : TGs} {Q : Sg → Hp → Prop} (e : Same F H) (h : RD F (.tup ds) v) (hn : ds.length = n) (k : ∀ vs, RDs F ds vs → t vs σ H Q) : gTupU K n t v σ H Q := by
  obtain ⟨a, vs, rfl, h1, h2⟩ := h
  exact .inl ⟨a, vs, rfl, same_t e h1, by rw [h2.len, hn], k vs h2⟩
theorem st_gcons {t : TG} {u : TGs} {r : List V} {Q : Sg → Hp → Prop} (k : t v σ H fun σ' H' => u r σ' H' Q) : gCons t u (v :: r) σ H Q := ⟨v, r, rfl, k⟩
theorem st_gnil {Q : Sg → Hp → Prop} (k : Q σ H) : gNil [] σ H Q := ⟨rfl, k⟩

/-! ### loops -/
theorem st_for {wi : TI} {g : TG} {tb : TS} (k : wi σ H fun J H1 => ∃ W : Nat → Nat → Sg → Hp → Prop, (∃ m, W 0 m σ H1) ∧ ∀ i m σ H, W i m σ H →
  (J.stop i H ∧ D.nx σ H) ∨ (J.go i H ∧ ∃ N : Sg → Hp → Prop, (∀ σ' H', N σ' H' → ∃ m', m' < m ∧ W (i + 1) m' σ' H') ∧ ∀ x H', J.yld i H x H' → g x σ H' fun σ2 H2 => tb { D with nx := N, ct := N, bk := D.nx } σ2 H2)) : tFor wi g tb D σ H := k
/-- what a for owes once its iterable is known -/
abbrev LoopOwes (g : TG) (tb : TS) (D : Ends) (σ : Sg) (J : It) (H1 : Hp) : Prop := ∃ W : Nat → Nat → Sg → Hp → Prop, (∃ m, W 0 m σ H1) ∧ ∀ i m σ H, W i m σ H →
  (J.stop i H ∧ D.nx σ H) ∨ (J.go i H ∧ ∃ N : Sg → Hp → Prop, (∀ σ' H', N σ' H' → ∃ m', m' < m ∧ W (i + 1) m' σ' H') ∧ ∀ x H', J.yld i H x H' → g x σ H' fun σ2 H2 => tb { D with nx := N, ct := N, bk := D.nx } σ2 H2)
theorem st_iseqL {R : It → Hp → Prop} (k : te σ H fun x H1 => ∃ a, x = .ref a ∧ (∃ xs, SqL K H1 a xs) ∧ R (Itl K a) H1) : iSeq K te σ H R := .inl k
theorem st_iseqT {R : It → Hp → Prop} (k : te σ H fun x H1 => ∃ a, x = .ref a ∧ (∃ xs, SqT K H1 a xs) ∧ R (Itt K a) H1) : iSeq K te σ H R := .inr k
variable {g : TG} {tl : TS}
/-- a for over frozen data: the invariant by the turn, the slots and the heap; the frozen heap F stays within -/
theorem lp_lst (e : Same F H) (h : RD F (.lst ds) v) (Pv : Nat → Sg → Hp → Prop) (h0 : Pv 0 σ H) (hG : ∀ i σ H, Pv i σ H → Same F H)
    (hs : ∀ i d x σ H, ds[i]? = some d → RD F d x → Pv i σ H → g x σ H fun σ2 H2 => tl { D with nx := Pv (i + 1), ct := Pv (i + 1), bk := D.nx } σ2 H2) (hd : ∀ σ H, Pv ds.length σ H → D.nx σ H) :
    ∃ a, v = .ref a ∧ (∃ xs, SqL K H a xs) ∧ LoopOwes g tl D σ (Itl K a) H := by
  obtain ⟨a, vs, rfl, h1, h2⟩ := h
  refine ⟨a, rfl, ⟨vs, same_l e h1⟩, for_it (walk_list (xs := vs)) Pv h0 (fun i σ H _ p => same_l (hG i σ H p) h1) (fun i x σ H H' hi p y => ?_) fun σ H p => hd σ H (by rw [← h2.len]; exact p)⟩
  obtain ⟨rfl, hx⟩ := y
  obtain ⟨d, hd, r⟩ := h2.of_at hx
  exact hs i d x σ _ hd r p
theorem lp_tup (e : Same F H) (h : RD F (.tup ds) v) (Pv : Nat → Sg → Hp → Prop) (h0 : Pv 0 σ H) (hG : ∀ i σ H, Pv i σ H → Same F H)
    (hs : ∀ i d x σ H, ds[i]? = some d → RD F d x → Pv i σ H → g x σ H fun σ2 H2 => tl { D with nx := Pv (i + 1), ct := Pv (i + 1), bk := D.nx } σ2 H2) (hd : ∀ σ H, Pv ds.length σ H → D.nx σ H) :
    ∃ a, v = .ref a ∧ (∃ xs, SqT K H a xs) ∧ LoopOwes g tl D σ (Itt K a) H := by
  obtain ⟨a, vs, rfl, h1, h2⟩ := h
  refine ⟨a, rfl, ⟨vs, same_t e h1⟩, for_it (walk_tup (xs := vs)) Pv h0 (fun i σ H _ p => same_t (hG i σ H p) h1) (fun i x σ H H' hi p y => ?_) fun σ H p => hd σ H (by rw [← h2.len]; exact p)⟩
  obtain ⟨rfl, hx⟩ := y
  obtain ⟨d, hd, r⟩ := h2.of_at hx
  exact hs i d x σ _ hd r p
/-- for over range(n), range(a, b) -/
theorem st_rng1 {t : TA} {R : It → Hp → Prop} (k : t σ H fun vs H1 => ∃ j : Int, vs = [.int j] ∧ -(2 ^ 62) ≤ j ∧ j < 2 ^ 62 ∧ R (Itr 0 j.toNat) H1) : iRng1 t σ H R := k
theorem st_rng2 {t : TA} {R : It → Hp → Prop} (k : t σ H fun vs H1 => ∃ i j : Int, vs = [.int i, .int j] ∧ (-(2 ^ 62) ≤ i ∧ i < 2 ^ 62 ∧ -(2 ^ 62) ≤ j ∧ j < 2 ^ 62) ∧ R (Itr i (j - i).toNat) H1) : iRng2 t σ H R := k
theorem st_rng3 {t : TA} {R : It → Hp → Prop} (k : t σ H fun vs H1 => ∃ (i j c : Int) (n : Nat), vs = [.int i, .int j, .int c] ∧ RgC i j c n ∧ R (Itc i c n) H1) : iRng3 t σ H R := k
theorem lp_rng {lo : Int} {n : Nat} (Pv : Nat → Sg → Hp → Prop) (h0 : Pv 0 σ H) (hs : ∀ i σ H, i < n → Pv i σ H → g (.int (lo + i)) σ H fun σ2 H2 => tl { D with nx := Pv (i + 1), ct := Pv (i + 1), bk := D.nx } σ2 H2)
    (hd : ∀ σ H, Pv n σ H → D.nx σ H) : LoopOwes g tl D σ (Itr lo n) H :=
  for_it walk_range Pv h0 (fun _ _ _ _ _ => trivial) (fun i x σ H H' hi p y => by
    obtain ⟨rfl, rfl⟩ := y
    exact hs i σ _ hi p) hd
theorem lp_rng0 {n : Nat} (Pv : Nat → Sg → Hp → Prop) (h0 : Pv 0 σ H) (hs : ∀ (i : Nat) σ H, i < n → Pv i σ H → g (.int (i : Int)) σ H fun σ2 H2 => tl { D with nx := Pv (i + 1), ct := Pv (i + 1), bk := D.nx } σ2 H2)
    (hd : ∀ σ H, Pv n σ H → D.nx σ H) : LoopOwes g tl D σ (Itr 0 n) H :=
  lp_rng Pv h0 (fun i σ H hi p => by rw [Int.zero_add]; exact hs i σ H hi p) hd
end

theorem atI_zero {α : Type} {a : α} {l : List α} : atI (a :: l) 0 = some a := atI_nat (j := 0) rfl
/-! ### a list or a tuple -/
def IsSeq (d : Dat) (ds : List Dat) : Prop := d = .lst ds ∨ d = .tup ds
theorem IsSeq.l {ds : List Dat} : IsSeq (.lst ds) ds := .inl rfl
theorem IsSeq.t {ds : List Dat} : IsSeq (.tup ds) ds := .inr rfl
section
variable {K : PySem.W.Frag} {F H : Hp} {σ : Sg} {Q : VK} {D : Ends} {v : V} {i : Int} {d d2 : Dat} {ds : List Dat} {g : TG} {tl : TS}
theorem st_lenQ (e : Same F H) (h : RD F d v) (q : IsSeq d ds) (k : Q (.int (ds.length : Nat)) H) : rLenU K [v] H Q := by
  rcases q with rfl | rfl
  · exact st_lenL e h k
  · exact st_lenT e h k
theorem st_ixQ (e : Same F H) (h : RD F d v) (q : IsSeq d ds) (hd : atI ds i = some d2) (k : ∀ u, RD F d2 u → Q u H) : rIxU K v (.int i) H Q := by
  rcases q with rfl | rfl
  · exact st_ixL e h hd k
  · exact st_ixT e h hd k
theorem st_tupQ (e : Same F H) (h : RD F d v) (q : IsSeq d ds) (k : ∀ u F' H', Stp [] F H F' H' → RD F' (.tup ds) u → Q u H') : rTupU K [v] H Q := by
  rcases q with rfl | rfl
  · exact st_tupL e h k
  · exact st_tupT e h (k v F H (Stp.refl e) h)
theorem st_lstQ (e : Same F H) (h : RD F d v) (q : IsSeq d ds) (k : ∀ u F' H', Stp [] F H F' H' → RD F' (.lst ds) u → Q u H') : rListU K [v] H Q := by
  rcases q with rfl | rfl
  · exact st_lstL e h k
  · exact st_lstT e h k
theorem lp_seqV {n : Nat} (hv : σ[n]? = some (some v)) (e : Same F H) (h : RD F d v) (q : IsSeq d ds) (Pv : Nat → Sg → Hp → Prop) (h0 : Pv 0 σ H) (hG : ∀ i σ H, Pv i σ H → Same F H)
    (hs : ∀ i d x σ H, ds[i]? = some d → RD F d x → Pv i σ H → g x σ H fun σ2 H2 => tl { D with nx := Pv (i + 1), ct := Pv (i + 1), bk := D.nx } σ2 H2) (hd : ∀ σ H, Pv ds.length σ H → D.nx σ H) :
    iSeq K (tVar n) σ H fun J H1 => LoopOwes g tl D σ J H1 := by
  rcases q with rfl | rfl
  · exact .inl ⟨v, hv, lp_lst e h Pv h0 hG hs hd⟩
  · exact .inr ⟨v, hv, lp_tup e h Pv h0 hG hs hd⟩
end

/-! ### the script -/
structure Scr (K : PySem.W.Frag) (F : Hp) (v : V) (ns : List Int) : Prop where
  at_ : ∃ a, v = .ref a ∧ SqL K F a (ns.map V.int)
  len : ns.length ≤ 63
section
variable {K : PySem.W.Frag} {S : List Addr} {F H F1 H1 : Hp} {Q : VK} {v : V} {ns : List Int} {i : Int}
theorem Scr.up (a : Stp S F H F1 H1) (h : Scr K F v ns) : Scr K F1 v ns := by
  obtain ⟨x, e, q⟩ := h.at_
  exact ⟨⟨x, e, Same.seq a.ex q⟩, h.len⟩
theorem st_lenS (e : Same F H) (h : Scr K F v ns) (k : Q (.int (ns.length : Nat)) H) : rLenU K [v] H Q := by
  obtain ⟨a, rfl, q⟩ := h.at_
  exact ⟨_, _, rfl, .inl ⟨_, Same.seq e q, rfl⟩, by rw [List.length_map]; exact k⟩
theorem st_ixS (e : Same F H) (h : Scr K F v ns) (h0 : 0 ≤ i) (h1 : i < ns.length) (k : ∀ z, ns[i.toNat]? = some z → Q (.int z) H) : rIxU K v (.int i) H Q := by
  obtain ⟨a, rfl, q⟩ := h.at_
  obtain ⟨z, hz, hz2⟩ := atI_in h0 h1
  exact .inl ⟨a, _, i, .int z, rfl, rfl, Same.seq e q, atI_map hz2, k z hz⟩
end

/-! ### the end of a law -/
theorem walk_ofX {l : PySem.W.OpenLaw} {n k : Nat} {q : Program} {loose : List Str} {XP : (Str → Option Value) → Heap → Prop} {YP : World → Heap → Prop} {d : DefRec} {x : Str}
    (hn : l.most = some n) (hn2 : n ≤ sizeLine) (hdf : d.params.defaults = []) (hr : Room k callerA)
    (F : ∀ (w : World) (mg : Str → Option Value) (fa : Addr) (h : Heap), YP w h → h.Ns mainGlobals mg → mg d.name = some (.ref fa) →
      ∃ (K : PySem.W.Frag) (fd : FuncData) (sp : Sp), K.In h ∧ (∀ (s : Shared) (u : Value), BindsTo s fd ⟨[u], []⟩ [(x, u)]) ∧
        (∀ (H : Hp) (a : Addr) (ns : List Int), ns.length ≤ n → Only H → SqL K H a (ns.map V.int) → sp [.ref a] H (fun v _ => v = .bl true) fun _ _ _ => False) ∧
        ∀ base : Heap, K.In base → base.Ns mainGlobals mg → FnOk l.prog w K mg base (L2N.CX l.prog w) k fa fd [x] sp) :
    PySem.W.WalkO q loose XP YP l.row.toRowW d [] (fun f vs => PySem.call f vs) := by
  refine Att.attach_call hn hdf fun w s₀ s₁ mg mb fa o pm cd doc a vs ns G Y ho hd hcd hmg hobj hints hlen hg => ?_
  obtain ⟨K, fd, sp, KX, hb, hsp, hF⟩ := F w mg fa _ Y G.T.g hmg
  exact law_call KX G.T.g G.T.b G.T.builtins G.T.nolimit hg hobj hints (Nat.le_trans hlen hn2) hr hF hb (fun H hO hS => hsp H a ns hlen hO hS) fun H e s' z => by
    obtain ⟨_, _, _, _, _, _, _, _, _, _, _, _, z⟩ := z
    exact z.elim
end DK
set_option maxRecDepth 100000
set_option maxHeartbeats 2000000
/-! DK, third part: mirrors. A def's mirror computes on plain data; Post tells what is owed of its outcome. -/
namespace DK
open PySem PySem.Spec PyProof.Rows L2
/-- the program's errors -/
inductive Xc where
  | picture | out | meet | tile | inks | shares | shade | stretches | way | text
  deriving DecidableEq
def Xc.nm : Xc → Str
  | .picture => "NoPicture"
  | .out => "OutOfPicture"
  | .meet => "NoMeet"
  | .tile => "NoTile"
  | .inks => "NoInks"
  | .shares => "NoShares"
  | .shade => "NoShade"
  | .stretches => "NoStretches"
  | .way => "NoWay"
  | .text => "NoText"
inductive Rs (α : Type) where
  | ok (a : α) | exc (c : Xc) (m : Option Int) | bad
  deriving DecidableEq
namespace Rs
def bnd {α β : Type} : Rs α → (α → Rs β) → Rs β
  | .ok a, k => k a
  | .exc c m, _ => .exc c m
  | .bad, _ => .bad
@[simp] theorem bnd_ok {α β : Type} {a : α} {k : α → Rs β} : (Rs.ok a).bnd k = k a := rfl
@[simp] theorem bnd_bad {α β : Type} {k : α → Rs β} : (Rs.bad : Rs α).bnd k = .bad := rfl
@[simp] theorem bnd_exc {α β : Type} {c : Xc} {m : Option Int} {k : α → Rs β} : (Rs.exc c m : Rs α).bnd k = .exc c m := rfl
end Rs
inductive Ctl (S R : Type) where
  | nx (s : S) | bk (s : S) | rt (r : R)
def Ctl.on {S R : Type} (A B : S → Prop) (C : R → Prop) : Ctl S R → Prop
  | .nx s => A s
  | .bk s => B s
  | .rt r => C r
def Ctl.go {S R β : Type} (k : S → Rs β) (r : R → Rs β) : Ctl S R → Rs β
  | .nx s => k s
  | .bk s => k s
  | .rt x => r x
@[simp] theorem Ctl.go_nx {S R β : Type} {k : S → Rs β} {r : R → Rs β} {s : S} : Ctl.go k r (.nx s) = k s := rfl
@[simp] theorem Ctl.go_bk {S R β : Type} {k : S → Rs β} {r : R → Rs β} {s : S} : Ctl.go k r (.bk s) = k s := rfl
@[simp] theorem Ctl.go_rt {S R β : Type} {k : S → Rs β} {r : R → Rs β} {s : R} : Ctl.go k r (.rt s : Ctl S R) = r s := rfl
def Rs.thn {S R β : Type} (m : Rs (Ctl S R)) (k : S → Rs β) (r : R → Rs β) : Rs β := m.bnd (Ctl.go k r)
@[simp] theorem Rs.thn_nx {S R β : Type} {k : S → Rs β} {r : R → Rs β} {s : S} : (Rs.ok (Ctl.nx s : Ctl S R)).thn k r = k s := rfl
@[simp] theorem Rs.thn_bk {S R β : Type} {k : S → Rs β} {r : R → Rs β} {s : S} : (Rs.ok (Ctl.bk s : Ctl S R)).thn k r = k s := rfl
@[simp] theorem Rs.thn_rt {S R β : Type} {k : S → Rs β} {r : R → Rs β} {s : R} : (Rs.ok (Ctl.rt s : Ctl S R)).thn k r = r s := rfl
theorem Ctl.nx_of {S R : Type} {A B : S → Prop} {C : R → Prop} {s : S} (p : Ctl.on A B C (.nx s)) : A s := p
/-- what is owed of an outcome -/
def Post {α : Type} (m : Rs α) (P : α → Prop) (X : Xc → Option Int → Prop) : Prop := match m with
  | .ok a => P a
  | .exc c t => X c t
  | .bad => False
theorem Post.onx {S R : Type} {A B : S → Prop} {C : R → Prop} {s : S} {X : Xc → Option Int → Prop} (h : Post (.ok (.nx s)) (Ctl.on A B C) X) : A s := h
theorem Post.obk {S R : Type} {A B : S → Prop} {C : R → Prop} {s : S} {X : Xc → Option Int → Prop} (h : Post (.ok (.bk s)) (Ctl.on A B C) X) : B s := h
theorem Post.ort {S R : Type} {A B : S → Prop} {C : R → Prop} {s : R} {X : Xc → Option Int → Prop} (h : Post (.ok (.rt s)) (Ctl.on A B C) X) : C s := h
def forR {α S R : Type} (f : S → α → Rs (Ctl S R)) : List α → S → Rs (Ctl S R)
  | [], s => .ok (.nx s)
  | x :: xs, s => (f s x).bnd fun
    | .nx s' => forR f xs s'
    | .bk s' => .ok (.nx s')
    | .rt r => .ok (.rt r)
def whileR {S R : Type} (c : S → Rs Bool) (f : S → Rs (Ctl S R)) : Nat → S → Rs (Ctl S R)
  | 0, _ => .bad
  | n + 1, s => (c s).bnd fun b => if b = true then (f s).bnd fun
    | .nx s' => whileR c f n s'
    | .bk s' => .ok (.nx s')
    | .rt r => .ok (.rt r) else .ok (.nx s)
def mapR {α β : Type} (f : α → Rs (Option β)) : List α → Rs (List β)
  | [] => .ok []
  | x :: xs => (f x).bnd fun o => (mapR f xs).bnd fun r => .ok (match o with | some y => y :: r | none => r)
def ixR {α : Type} (xs : List α) (i : Int) : Rs α := match atI xs i with
  | some x => .ok x
  | none => .bad
abbrev grd {α : Type} (p : Prop) [Decidable p] (k : Rs α) : Rs α := if p then k else .bad
def divOk (j : Int) : Bool := decide (0 < j) && decide (j.natAbs.log2 < 9000)
def mulOk (i j : Int) : Bool := decide (i.natAbs.log2 + j.natAbs.log2 < 1000000)
def rngI (lo hi : Int) : List Int := (List.range (hi - lo).toNat).map fun k => lo + (k : Nat)
def rngS (lo hi c : Int) : List Int := (List.range (Builtin.Range.rangeSize lo hi c).toNat).map fun k => lo + (k : Nat) * c
def rngOk (lo hi : Int) : Bool := decide (lo.natAbs.log2 < 61) && decide (hi.natAbs.log2 < 61)
theorem rngOk.b {lo hi : Int} (h : rngOk lo hi = true) : -(2 ^ 62) ≤ lo ∧ lo < 2 ^ 62 ∧ -(2 ^ 62) ≤ hi ∧ hi < 2 ^ 62 := by
  simp only [rngOk, Bool.and_eq_true, decide_eq_true_eq] at h
  have k : ∀ n : Nat, n.log2 < 61 → n < 2 ^ 61 := fun n hn => by
    by_cases z : n = 0
    · subst z; decide
    · exact (Nat.log2_lt z).mp hn
  have h1 := k _ h.1
  have h2 := k _ h.2
  omega
def rngSOk (lo hi c : Int) : Bool := decide (c ≠ 0) && decide (c.natAbs < 1073741824) && Builtin.Range.small lo hi c
def cutL {α : Type} (xs : List α) (lo hi : Option Int) : List α := (xs.drop (HT.sIx xs.length 0 lo)).take (HT.sIx xs.length xs.length hi - HT.sIx xs.length 0 lo)

section
variable {α β S R : Type} {m : Rs α} {k : α → Rs β} {P : β → Prop} {X : Xc → Option Int → Prop} {i j : Int}
theorem Post.b (h : Post (m.bnd k) P X) : Post m (fun a => Post (k a) P X) X := by
  cases m <;> exact h
theorem Post.mono {P Q : α → Prop} (h : Post m P X) (z : ∀ a, P a → Q a) : Post m Q X := by
  cases m with
  | ok a => exact z a h
  | exc c t => exact h
  | bad => exact h
theorem Post.t {m : Rs (Ctl S R)} {k : S → Rs β} {r : R → Rs β} (h : Post (m.thn k r) P X) : Post m (Ctl.on (fun s => Post (k s) P X) (fun s => Post (k s) P X) fun x => Post (r x) P X) X :=
  h.b.mono fun a p => by cases a <;> exact p
theorem Post.g {p : Prop} {_ : Decidable p} {m : Rs β} (h : Post (grd p m) P X) : p ∧ Post m P X := by
  by_cases z : p
  · rw [grd, if_pos z] at h; exact ⟨z, h⟩
  · rw [grd, if_neg z] at h; exact h.elim
theorem Post.ix {xs : List α} (h : Post ((ixR xs i).bnd k) P X) : ∃ x, atI xs i = some x ∧ Post (k x) P X := by
  unfold ixR at h
  cases q : atI xs i with
  | none => rw [q] at h; exact h.elim
  | some x => rw [q] at h; exact ⟨x, rfl, h⟩
theorem divOk.c (h : divOk j = true) : CDivU i j := by
  simp only [divOk, Bool.and_eq_true, decide_eq_true_eq] at h
  exact .inr h
theorem mulOk.c (h : mulOk i j = true) : CMulU i j := by
  simp only [mulOk, decide_eq_true_eq] at h
  exact .inr h
theorem brP {A B p : Prop} {_ : Decidable p} {m n : Rs β} (h : Post (if p then m else n) P X) (h1 : p → Post m P X → A) (h2 : ¬ p → Post n P X → B) : if decide p = true then A else B := by
  by_cases z : p
  · rw [if_pos z] at h; rw [if_pos (by simp [z])]; exact h1 z h
  · rw [if_neg z] at h; rw [if_neg (by simp [z])]; exact h2 z h
theorem brN {A B p : Prop} {_ : Decidable p} {m n : Rs β} (h : Post (if p then m else n) P X) (h1 : ¬ p → Post n P X → A) (h2 : p → Post m P X → B) : if (!decide p) = true then A else B := by
  by_cases z : p
  · rw [if_pos z] at h; rw [if_neg (by simp [z])]; exact h2 z h
  · rw [if_neg z] at h; rw [if_pos (by simp [z])]; exact h1 z h
theorem brB {A B : Prop} {b : Bool} {m n : Rs β} (h : Post (if b = true then m else n) P X) (h1 : b = true → Post m P X → A) (h2 : ¬ b = true → Post n P X → B) : if b = true then A else B := by
  by_cases z : b = true
  · rw [if_pos z] at h; rw [if_pos z]; exact h1 z h
  · rw [if_neg z] at h; rw [if_neg z]; exact h2 z h
theorem brNB {A B : Prop} {b : Bool} {m n : Rs β} (h : Post (if b = true then m else n) P X) (h1 : ¬ b = true → Post n P X → A) (h2 : b = true → Post m P X → B) : if (!b) = true then A else B := by
  cases b with
  | true => rw [if_pos rfl] at h; rw [if_neg (by decide)]; exact h2 rfl h
  | false => rw [if_neg (by decide)] at h; rw [if_pos (by decide)]; exact h1 (by decide) h
end

/-! ### encodings -/
abbrev eL {α : Type} (e : α → Dat) (xs : List α) : Dat := .lst (xs.map e)
abbrev eT {α : Type} (e : α → Dat) (xs : List α) : Dat := .tup (xs.map e)
abbrev eP {α β : Type} (e : α → Dat) (g : β → Dat) (p : α × β) : Dat := .tup [e p.1, g p.2]
abbrev eP3 {α β γ : Type} (e : α → Dat) (g : β → Dat) (f : γ → Dat) (p : α × β × γ) : Dat := .tup [e p.1, g p.2.1, f p.2.2]
def eQ {α : Type} (b : Bool) (e : α → Dat) (xs : List α) : Dat := match b with
  | true => .tup (xs.map e)
  | false => .lst (xs.map e)

/-! ### cuts -/
section
variable {S R β : Type} {K : PySem.W.Frag} {F H : Hp} {σ : Sg} {Q : VK} {D : Ends} {P : β → Prop} {X : Xc → Option Int → Prop}
theorem cutS {t : TS} {m : Rs (Ctl S R)} {k : S → Rs β} {r : R → Rs β} (hm : Post (m.thn k r) P X) (I : S → Sg → Hp → Prop)
    (h1 : ∀ nx : Sg → Hp → Prop, (∀ s σ' H', I s σ' H' → Post (k s) P X → nx σ' H') → Post m (Ctl.on (fun s => Post (k s) P X) (fun s => Post (k s) P X) fun x => Post (r x) P X) X → t { D with nx := nx } σ H)
    (h2 : ∀ s σ' H', I s σ' H' → Post (k s) P X → D.nx σ' H') : t D σ H := h1 D.nx h2 hm.t
/-- a test, cut -/
theorem cutT {c : TT} {m : Rs Bool} {k : Bool → Rs β} {Q : Bool → Hp → Prop} (F H : Hp) (hm : Post (m.bnd k) P X)
    (h1 : ∀ Q' : Bool → Hp → Prop, (∀ b F' H', Stp [] F H F' H' → Post (k b) P X → Q' b H') → Post m (fun b => Post (k b) P X) X → c σ H Q')
    (h2 : ∀ b F' H', Stp [] F H F' H' → Post (k b) P X → Q b H') : c σ H Q := h1 Q h2 hm.b
/-- a value, cut: a bool -/
theorem cutB {c : TE} {m : Rs Bool} {k : Bool → Rs β} (F H : Hp) (hm : Post (m.bnd k) P X)
    (h1 : ∀ Q' : VK, (∀ b F' H', Stp [] F H F' H' → Post (k b) P X → Q' (.bl b) H') → Post m (fun b => Post (k b) P X) X → c σ H Q')
    (h2 : ∀ b F' H', Stp [] F H F' H' → Post (k b) P X → Q (.bl b) H') : c σ H Q := h1 Q h2 hm.b
/-- a value, cut: a datum -/
theorem cutE {α : Type} {c : TE} {m : Rs α} {k : α → Rs β} (enc : α → Dat) (F H : Hp) (hm : Post (m.bnd k) P X)
    (h1 : ∀ Q' : VK, (∀ b u F' H', Stp [] F H F' H' → RD F' (enc b) u → Post (k b) P X → Q' u H') → Post m (fun b => Post (k b) P X) X → c σ H Q')
    (h2 : ∀ b u F' H', Stp [] F H F' H' → RD F' (enc b) u → Post (k b) P X → Q u H') : c σ H Q := h1 Q h2 hm.b
end

/-! ### steps told by data -/
section
variable {α β S R : Type} {K : PySem.W.Frag} {F H : Hp} {σ : Sg} {Q : VK} {D : Ends} {X : Xc → Option Int → Prop} {i : Int} {v : V} {L : Addr} {vs : List V} {e : α → Dat} {zs : List α} {z : α} {lo hi : Option Int} {b : Bool}
theorem sm_ixL (s : Same F H) (h : RD F (.lst (zs.map e)) v) (hz : atI zs i = some z) (k : ∀ u, RD F (e z) u → Q u H) : rIxU K v (.int i) H Q := st_ixL s h (atI_map hz) k
theorem sm_ixT (s : Same F H) (h : RD F (.tup (zs.map e)) v) (hz : atI zs i = some z) (k : ∀ u, RD F (e z) u → Q u H) : rIxU K v (.int i) H Q := st_ixT s h (atI_map hz) k
theorem sm_ixQ (s : Same F H) (h : RD F (eQ b e zs) v) (hz : atI zs i = some z) (k : ∀ u, RD F (e z) u → Q u H) : rIxU K v (.int i) H Q := by
  cases b with
  | true => exact sm_ixT s h hz k
  | false => exact sm_ixL s h hz k
theorem sm_ixO (h : Own F H L (.lst vs)) (hd : RDs F (zs.map e) vs) (hz : atI zs i = some z) (k : ∀ u, RD F (e z) u → Q u H) : rIxU K (.ref L) (.int i) H Q := by
  have hz2 := atI_map (f := e) hz
  unfold atI at hz2
  cases q : ixN (zs.map e).length i with
  | none => rw [q] at hz2; cases hz2
  | some n =>
    rw [q] at hz2
    obtain ⟨u, hu, r⟩ := hd.at (show (zs.map e)[n]? = some (e z) from hz2)
    exact st_ixO h (by unfold atI; rw [hd.len, q]; exact hu) (k u r)
theorem sm_ixS {ns : List Int} {z : Int} (s : Same F H) (h : Scr K F v ns) (hz : atI ns i = some z) (k : Q (.int z) H) : rIxU K v (.int i) H Q := by
  obtain ⟨a, rfl, q⟩ := h.at_
  exact .inl ⟨a, _, i, .int z, rfl, rfl, Same.seq s q, atI_map hz, k⟩
theorem sm_lenQ (s : Same F H) (h : RD F (eQ b e zs) v) (k : Q (.int (zs.length : Nat)) H) : rLenU K [v] H Q := by
  cases b with
  | true => exact st_lenMT s h k
  | false => exact st_lenM s h k
theorem sm_lenO (h : Own F H L (.lst vs)) (hd : RDs F (zs.map e) vs) (k : Q (.int (zs.length : Nat)) H) : rLenU K [.ref L] H Q :=
  st_lenO h (by rw [show vs.length = zs.length by rw [hd.len, List.length_map]]; exact k)
theorem cutV_RDs (h : RDs F (zs.map e) vs) : RDs F ((cutL zs lo hi).map e) (cutV vs lo hi) := by
  have hl : vs.length = zs.length := by rw [h.len, List.length_map]
  unfold cutV cutL
  rw [hl, List.map_take, List.map_drop]
  exact (h.drop _).take _
theorem sm_slL (s : Same F H) (h : RD F (.lst (zs.map e)) v) (k : ∀ u F' H', Stp [] F H F' H' → RD F' (.lst ((cutL zs lo hi).map e)) u → Q u H') : rSlU K v lo hi H Q := by
  obtain ⟨a, vs, rfl, h1, h2⟩ := h
  exact .inl ⟨a, vs, rfl, same_l s h1, nw_lst s (cutV_RDs h2) k⟩
theorem sm_slT (s : Same F H) (h : RD F (.tup (zs.map e)) v) (k : ∀ u F' H', Stp [] F H F' H' → RD F' (.tup ((cutL zs lo hi).map e)) u → Q u H') : rSlU K v lo hi H Q := by
  have h' := h
  obtain ⟨a, vs, rfl, h1, h2⟩ := h
  by_cases w : HT.sIx vs.length 0 lo = 0 ∧ HT.sIx vs.length vs.length hi = vs.length
  · refine .inr (.inr ⟨a, vs, rfl, same_t s h1, w, k _ F H (Stp.refl s) ?_⟩)
    have hl : vs.length = zs.length := by rw [h2.len, List.length_map]
    have : cutL zs lo hi = zs := by
      unfold cutL
      rw [← hl, w.1, w.2, hl]
      simp
    rw [this]; exact h'
  · exact .inr (.inl ⟨a, vs, rfl, same_t s h1, w, nw_tup s (cutV_RDs h2) k⟩)
theorem sm_slO (s : Same F H) (h : Own F H L (.lst vs)) (hd : RDs F (zs.map e) vs) (k : ∀ u F' H', Stp [] F H F' H' → RD F' (.lst ((cutL zs lo hi).map e)) u → Q u H') : rSlU K (.ref L) lo hi H Q :=
  .inl ⟨L, vs, rfl, SqL.of h.h, nw_lst s (cutV_RDs hd) k⟩
theorem sm_add {i j : Int} (k : Q (.int (i + j)) H) : rAddU K (.int i) (.int j) H Q := st_add k
/-- two lists in one -/
theorem rd_lst {F H : Hp} (s : Same F H) (h : RD F (.lst (zs.map e)) v) : ∃ a vs, v = .ref a ∧ F a = some (.lst vs) ∧ H a = some (.lst vs) ∧ RDs F (zs.map e) vs := by
  obtain ⟨a, vs, rfl, h1, h2⟩ := h
  exact ⟨a, vs, rfl, h1, s a _ h1, h2⟩
theorem own_rd {S : List Addr} {F H F1 H1 : Hp} {L : Addr} (s : Stp S F H F1 H1) (n : Fre H L) (o : Own F1 H1 L (.lst vs)) (hd : RDs F1 (zs.map e) vs) : ∃ F2, Stp S F H F2 H1 ∧ RD F2 (.lst (zs.map e)) (.ref L) := by
  have t := Stp.frz s.inn o
  refine ⟨_, Stp.trans s t (sub_new n sub_nil), L, vs, rfl, upd_same, ?_⟩
  exact hd.up t.ex
/-- a step that freezes a list of ours -/
theorem own_fz {F H : Hp} {L : Addr} (s : Same F H) (o : Own F H L (.lst vs)) (hd : RDs F (zs.map e) vs) : ∃ F2, Stp [L] F H F2 H ∧ RD F2 (.lst (zs.map e)) (.ref L) := by
  have t := Stp.frz s o
  exact ⟨_, t, L, vs, rfl, upd_same, hd.up t.ex⟩
end
end DK
set_option maxRecDepth 100000
set_option maxHeartbeats 2000000
/-! DK, fourth part: loops and comprehensions told by mirrors. -/
namespace DK
open PySem PySem.Spec PyProof.Rows L2
section
variable {α S R : Type} {K : PySem.W.Frag} {F H : Hp} {σ : Sg} {D : Ends} {X : Xc → Option Int → Prop} {P : Ctl S R → Prop} {f : S → α → Rs (Ctl S R)} {zs : List α} {s0 : S} {g : TG} {tl : TS} {v : V} {e : α → Dat} {L : Addr} {vs : List V}
/-- what a turn owes -/
abbrev Turn (f : S → α → Rs (Ctl S R)) (P : Ctl S R → Prop) (rest : List α) (X : Xc → Option Int → Prop) : Ctl S R → Prop := Ctl.on (fun s' => Post (forR f rest s') P X) (fun s' => P (.nx s')) fun r => P (.rt r)
abbrev NxF (I : S → Sg → Hp → Prop) (f : S → α → Rs (Ctl S R)) (P : Ctl S R → Prop) (rest : List α) (X : Xc → Option Int → Prop) : Sg → Hp → Prop := fun σ' H' => ∃ s', I s' σ' H' ∧ Post (forR f rest s') P X
theorem Post.turn {x : α} {rest : List α} {s : S} (h : Post (forR f (x :: rest) s) P X) : Post (f s x) (Turn f P rest X) X := by
  unfold forR at h
  exact h.b.mono fun a p => by cases a <;> exact p
theorem fr_core {J : It} {n : Nat} {G : Hp → Prop} {Y : Nat → Hp → V → Hp → Prop} (w : Walk J n G Y) (hn : n = zs.length) (I : S → Sg → Hp → Prop) (hp : Post (forR f zs s0) P X) (h0 : I s0 σ H) (hG : ∀ s σ H', I s σ H' → G H')
    (hs : ∀ (i : Nat) (x : α) (rest : List α) (s : S) (u : V) σ' H1 H2, zs[i]? = some x → I s σ' H1 → Y i H1 u H2 → Post (f s x) (Turn f P rest X) X → g u σ' H2 fun σ2 H3 => tl { D with nx := NxF I f P rest X, ct := NxF I f P rest X, bk := D.nx } σ2 H3)
    (hd : ∀ s σ H, I s σ H → P (.nx s) → D.nx σ H) : LoopOwes g tl D σ J H := by
  refine for_it w (fun i σ H => ∃ s, I s σ H ∧ Post (forR f (zs.drop i) s) P X) ⟨s0, h0, hp⟩ (fun i σ H _ ⟨s, q, _⟩ => hG s σ H q) ?_ ?_
  · rintro i u σ1 H1 H2 hi ⟨s, q, p⟩ y
    have hl : i < zs.length := hn ▸ hi
    rw [List.drop_eq_getElem_cons hl] at p
    exact hs i zs[i] _ s u σ1 H1 H2 (List.getElem?_eq_getElem hl) q y p.turn
  · rintro σ1 H1 ⟨s, q, p⟩
    rw [hn, List.drop_length] at p
    exact hd s σ1 H1 q p
theorem fr_L (h : RD F (.lst (zs.map e)) v) (s : Same F H) (hp : Post (forR f zs s0) P X) (I : S → Sg → Hp → Prop) (h0 : I s0 σ H) (hG : ∀ s σ H', I s σ H' → Same F H')
    (hs : ∀ (x : α) (rest : List α) (s : S) (u : V) σ' H1, RD F (e x) u → I s σ' H1 → Post (f s x) (Turn f P rest X) X → g u σ' H1 fun σ2 H3 => tl { D with nx := NxF I f P rest X, ct := NxF I f P rest X, bk := D.nx } σ2 H3)
    (hd : ∀ s σ H, I s σ H → P (.nx s) → D.nx σ H) : ∃ a, v = .ref a ∧ (∃ xs, SqL K H a xs) ∧ LoopOwes g tl D σ (Itl K a) H := by
  obtain ⟨a, vs, rfl, h1, h2⟩ := h
  refine ⟨a, rfl, ⟨vs, same_l s h1⟩, fr_core (walk_list (xs := vs)) (by rw [h2.len, List.length_map]) I hp h0 (fun s σ H' q => same_l (hG s σ H' q) h1) ?_ hd⟩
  rintro i x rest s u σ' H1 H2 hx q ⟨rfl, hu⟩ p
  obtain ⟨d, hd, r⟩ := h2.of_at hu
  rw [List.getElem?_map, hx] at hd
  cases hd
  exact hs x rest s u σ' _ r q p
theorem fr_T (h : RD F (.tup (zs.map e)) v) (s : Same F H) (hp : Post (forR f zs s0) P X) (I : S → Sg → Hp → Prop) (h0 : I s0 σ H) (hG : ∀ s σ H', I s σ H' → Same F H')
    (hs : ∀ (x : α) (rest : List α) (s : S) (u : V) σ' H1, RD F (e x) u → I s σ' H1 → Post (f s x) (Turn f P rest X) X → g u σ' H1 fun σ2 H3 => tl { D with nx := NxF I f P rest X, ct := NxF I f P rest X, bk := D.nx } σ2 H3)
    (hd : ∀ s σ H, I s σ H → P (.nx s) → D.nx σ H) : ∃ a, v = .ref a ∧ (∃ xs, SqT K H a xs) ∧ LoopOwes g tl D σ (Itt K a) H := by
  obtain ⟨a, vs, rfl, h1, h2⟩ := h
  refine ⟨a, rfl, ⟨vs, same_t s h1⟩, fr_core (walk_tup (xs := vs)) (by rw [h2.len, List.length_map]) I hp h0 (fun s σ H' q => same_t (hG s σ H' q) h1) ?_ hd⟩
  rintro i x rest s u σ' H1 H2 hx q ⟨rfl, hu⟩ p
  obtain ⟨d, hd, r⟩ := h2.of_at hu
  rw [List.getElem?_map, hx] at hd
  cases hd
  exact hs x rest s u σ' _ r q p
/-- over a list of ours that the loop leaves alone -/
theorem fr_O (o : Own F H L (.lst vs)) (h : RDs F (zs.map e) vs) (hp : Post (forR f zs s0) P X) (I : S → Sg → Hp → Prop) (h0 : I s0 σ H) (hG : ∀ s σ H', I s σ H' → ∃ F', Own F' H' L (.lst vs))
    (hs : ∀ (x : α) (rest : List α) (s : S) (u : V) σ' H1, RD F (e x) u → I s σ' H1 → Post (f s x) (Turn f P rest X) X → g u σ' H1 fun σ2 H3 => tl { D with nx := NxF I f P rest X, ct := NxF I f P rest X, bk := D.nx } σ2 H3)
    (hd : ∀ s σ H, I s σ H → P (.nx s) → D.nx σ H) : ∃ a, V.ref L = .ref a ∧ (∃ xs, SqL K H a xs) ∧ LoopOwes g tl D σ (Itl K a) H := by
  refine ⟨L, rfl, ⟨vs, SqL.of o.h⟩, fr_core (walk_list (xs := vs)) (by rw [h.len, List.length_map]) I hp h0 (fun s σ H' q => SqL.of (hG s σ H' q).choose_spec.h) ?_ hd⟩
  rintro i x rest s u σ' H1 H2 hx q ⟨rfl, hu⟩ p
  obtain ⟨d, hd, r⟩ := h.of_at hu
  rw [List.getElem?_map, hx] at hd
  cases hd
  exact hs x rest s u σ' _ r q p
theorem fr_Q {b : Bool} {te : TE} (h : RD F (eQ b e zs) v) (s : Same F H) (hp : Post (forR f zs s0) P X) (hv : ∀ Q : VK, Q v H → te σ H Q) (I : S → Sg → Hp → Prop) (h0 : I s0 σ H) (hG : ∀ s σ H', I s σ H' → Same F H')
    (hs : ∀ (x : α) (rest : List α) (s : S) (u : V) σ' H1, RD F (e x) u → I s σ' H1 → Post (f s x) (Turn f P rest X) X → g u σ' H1 fun σ2 H3 => tl { D with nx := NxF I f P rest X, ct := NxF I f P rest X, bk := D.nx } σ2 H3)
    (hd : ∀ s σ H, I s σ H → P (.nx s) → D.nx σ H) : iSeq K te σ H fun J H1 => LoopOwes g tl D σ J H1 := by
  cases b with
  | true => exact .inr (hv _ (fr_T h s hp I h0 hG hs hd))
  | false => exact .inl (hv _ (fr_L h s hp I h0 hG hs hd))
theorem rngI_at {lo hi : Int} {i : Nat} {x : Int} (h : (rngI lo hi)[i]? = some x) : x = lo + (i : Nat) := by
  unfold rngI at h
  rw [List.getElem?_map] at h
  cases q : (List.range (hi - lo).toNat)[i]? with
  | none => rw [q] at h; cases h
  | some j =>
    rw [q] at h
    cases h
    have := List.getElem?_eq_some_iff.mp q
    obtain ⟨h1, h2⟩ := this
    rw [← h2, List.getElem_range]
theorem fr_R {lo hi : Int} {f : S → Int → Rs (Ctl S R)} (hp : Post (forR f (rngI lo hi) s0) P X) (I : S → Sg → Hp → Prop) (h0 : I s0 σ H)
    (hs : ∀ (x : Int) (rest : List Int) (s : S) σ' H1, I s σ' H1 → Post (f s x) (Turn f P rest X) X → g (.int x) σ' H1 fun σ2 H3 => tl { D with nx := NxF I f P rest X, ct := NxF I f P rest X, bk := D.nx } σ2 H3)
    (hd : ∀ s σ H, I s σ H → P (.nx s) → D.nx σ H) : LoopOwes g tl D σ (Itr lo (hi - lo).toNat) H := by
  refine fr_core (walk_range (lo := lo) (n := (hi - lo).toNat)) (by simp [rngI]) I hp h0 (fun _ _ _ _ => trivial) ?_ hd
  rintro i x rest s u σ' H1 H2 hx q ⟨rfl, rfl⟩ p
  have := rngI_at hx
  subst this
  exact hs _ rest s σ' _ q p
theorem fr_R1 {hi : Int} {f : S → Int → Rs (Ctl S R)} (hb : rngOk 0 hi = true) (hp : Post (forR f (rngI 0 hi) s0) P X) (I : S → Sg → Hp → Prop) (h0 : I s0 σ H)
    (hs : ∀ (x : Int) (rest : List Int) (s : S) σ' H1, I s σ' H1 → Post (f s x) (Turn f P rest X) X → g (.int x) σ' H1 fun σ2 H3 => tl { D with nx := NxF I f P rest X, ct := NxF I f P rest X, bk := D.nx } σ2 H3)
    (hd : ∀ s σ H, I s σ H → P (.nx s) → D.nx σ H) : ∃ j : Int, [V.int hi] = [.int j] ∧ -(2 ^ 62) ≤ j ∧ j < 2 ^ 62 ∧ LoopOwes g tl D σ (Itr 0 j.toNat) H := by
  have hb := rngOk.b hb
  have := fr_R (lo := 0) hp I h0 hs hd
  rw [Int.sub_zero] at this
  exact ⟨hi, rfl, by omega, by omega, this⟩
theorem fr_R2 {lo hi : Int} {f : S → Int → Rs (Ctl S R)} (hb : rngOk lo hi = true) (hp : Post (forR f (rngI lo hi) s0) P X) (I : S → Sg → Hp → Prop) (h0 : I s0 σ H)
    (hs : ∀ (x : Int) (rest : List Int) (s : S) σ' H1, I s σ' H1 → Post (f s x) (Turn f P rest X) X → g (.int x) σ' H1 fun σ2 H3 => tl { D with nx := NxF I f P rest X, ct := NxF I f P rest X, bk := D.nx } σ2 H3)
    (hd : ∀ s σ H, I s σ H → P (.nx s) → D.nx σ H) : ∃ i j : Int, [V.int lo, V.int hi] = [.int i, .int j] ∧ (-(2 ^ 62) ≤ i ∧ i < 2 ^ 62 ∧ -(2 ^ 62) ≤ j ∧ j < 2 ^ 62) ∧ LoopOwes g tl D σ (Itr i (j - i).toNat) H := by
  have hb := rngOk.b hb
  exact ⟨lo, hi, rfl, ⟨by omega, by omega, by omega, by omega⟩, fr_R hp I h0 hs hd⟩
theorem rngS_at {lo hi c : Int} {i : Nat} {x : Int} (h : (rngS lo hi c)[i]? = some x) : x = lo + (i : Nat) * c := by
  unfold rngS at h
  rw [List.getElem?_map] at h
  cases q : (List.range (Builtin.Range.rangeSize lo hi c).toNat)[i]? with
  | none => rw [q] at h; cases h
  | some j =>
    rw [q] at h
    cases h
    obtain ⟨h1, h2⟩ := List.getElem?_eq_some_iff.mp q
    rw [← h2, List.getElem_range]
theorem size_nn {lo hi c : Int} (hc : c ≠ 0) : 0 ≤ Builtin.Range.rangeSize lo hi c := by
  unfold Builtin.Range.rangeSize
  split
  · split
    · have := Int.ediv_nonneg (a := hi - lo - 1) (b := c) (by omega) (by omega); omega
    · omega
  · split
    · have := Int.ediv_nonneg (a := lo - hi - 1) (b := -c) (by omega) (by omega); omega
    · omega
theorem fr_R3 {lo hi c : Int} {f : S → Int → Rs (Ctl S R)} (hb : rngSOk lo hi c = true) (hp : Post (forR f (rngS lo hi c) s0) P X) (I : S → Sg → Hp → Prop) (h0 : I s0 σ H)
    (hs : ∀ (x : Int) (rest : List Int) (s : S) σ' H1, I s σ' H1 → Post (f s x) (Turn f P rest X) X → g (.int x) σ' H1 fun σ2 H3 => tl { D with nx := NxF I f P rest X, ct := NxF I f P rest X, bk := D.nx } σ2 H3)
    (hd : ∀ s σ H, I s σ H → P (.nx s) → D.nx σ H) : ∃ (i j c' : Int) (n : Nat), [V.int lo, V.int hi, V.int c] = [.int i, .int j, .int c'] ∧ RgC i j c' n ∧ LoopOwes g tl D σ (Itc i c' n) H := by
  simp only [rngSOk, Bool.and_eq_true, decide_eq_true_eq] at hb
  refine ⟨lo, hi, c, (Builtin.Range.rangeSize lo hi c).toNat, rfl, ⟨hb.1.1, hb.1.2, hb.2, ?_⟩, ?_⟩
  · have := size_nn (lo := lo) (hi := hi) hb.1.1; omega
  · refine fr_core (walk_rangeC (lo := lo) (c := c) (n := (Builtin.Range.rangeSize lo hi c).toNat)) (by simp [rngS]) I hp h0 (fun _ _ _ _ => trivial) ?_ hd
    rintro i x rest s u σ' H1 H2 hx q ⟨rfl, rfl⟩ p
    have := rngS_at hx
    subst this
    exact hs _ rest s σ' _ q p
/-- enumerate -/
def enumI (zs : List α) : List (Int × α) := zs.zipIdx.map fun p => ((p.2 : Nat), p.1)
theorem enumI_len : (enumI zs).length = zs.length := by simp [enumI]
theorem enumI_at {i : Nat} {p : Int × α} (h : (enumI zs)[i]? = some p) : zs[i]? = some p.2 ∧ p.1 = (i : Nat) := by
  unfold enumI at h
  rw [List.getElem?_map, List.getElem?_zipIdx] at h
  cases q : zs[i]? with
  | none => rw [q] at h; cases h
  | some x => rw [q] at h; cases h; simp
theorem en_step {H1 H2 : Hp} {vs : List V} {i : Nat} {p : Int × α} {u : V} {Fr : Hp} (h2 : RDs F (zs.map e) vs) (hp : (enumI zs)[i]? = some p) (y : YPair (fun i => some (.int (i : Nat))) (fun i => vs[i]?) i H1 u H2) (xx : Same F Fr) (s : Same Fr H1) :
    ∃ F2, Stp [] Fr H1 F2 H2 ∧ RD F2 (eP Dat.int e p) u := by
  obtain ⟨T, x, z, rfl, n, rfl, hx, hz⟩ := y
  obtain ⟨hx1, hx2⟩ := enumI_at hp
  cases hx
  obtain ⟨d, hd, r⟩ := h2.of_at hz
  rw [List.getElem?_map, hx1] at hd
  cases hd
  have t : Stp [] Fr H1 (upd Fr T (.tup [.int (i : Nat), z])) (upd H1 T (.tup [.int (i : Nat), z])) := Stp.new s n
  refine ⟨_, t, T, _, rfl, upd_same, ?_⟩
  rw [hx2]
  exact RDs.cons RD.int_ (RDs.cons (r.up (xx.trans t.ex)) RDs.nil)
theorem fr_EL {f : S → Int × α → Rs (Ctl S R)} (h : RD F (.lst (zs.map e)) v) (s : Same F H) (hp : Post (forR f (enumI zs) s0) P X) (I : S → Hp → Sg → Hp → Prop) (h0 : I s0 F σ H) (hG : ∀ s F' σ H', I s F' σ H' → Same F F' ∧ Same F' H')
    (hs : ∀ (x : Int × α) (rest : List (Int × α)) (s : S) (u : V) F1 σ' H1 F2 H2, I s F1 σ' H1 → Stp [] F1 H1 F2 H2 → RD F2 (eP Dat.int e x) u → Post (f s x) (Turn f P rest X) X → g u σ' H2 fun σ2 H3 => tl { D with nx := NxF (fun s σ H => ∃ F, I s F σ H) f P rest X, ct := NxF (fun s σ H => ∃ F, I s F σ H) f P rest X, bk := D.nx } σ2 H3)
    (hd : ∀ s σ H, (∃ F, I s F σ H) → P (.nx s) → D.nx σ H) : ∃ a xs, [v] = [V.ref a] ∧ SqL K H a xs ∧ LoopOwes g tl D σ (Ite K a) H := by
  obtain ⟨a, vs, rfl, h1, h2⟩ := h
  refine ⟨a, vs, rfl, same_l s h1, fr_core (walk_enum (xs := vs)) (by rw [enumI_len, h2.len, List.length_map]) (fun s σ H => ∃ F, I s F σ H) hp ⟨F, h0⟩ (fun s σ H' ⟨F', q⟩ => same_l ((hG s F' σ H' q).1.trans (hG s F' σ H' q).2) h1) ?_ hd⟩
  rintro i x rest s u σ' H1 H2 hx ⟨F1, q⟩ y p
  obtain ⟨F2, t, r⟩ := en_step h2 hx y (hG _ _ _ _ q).1 (hG _ _ _ _ q).2
  exact hs x rest s u F1 σ' H1 F2 H2 q t r p
theorem fr_ET {f : S → Int × α → Rs (Ctl S R)} (h : RD F (.tup (zs.map e)) v) (s : Same F H) (hp : Post (forR f (enumI zs) s0) P X) (I : S → Hp → Sg → Hp → Prop) (h0 : I s0 F σ H) (hG : ∀ s F' σ H', I s F' σ H' → Same F F' ∧ Same F' H')
    (hs : ∀ (x : Int × α) (rest : List (Int × α)) (s : S) (u : V) F1 σ' H1 F2 H2, I s F1 σ' H1 → Stp [] F1 H1 F2 H2 → RD F2 (eP Dat.int e x) u → Post (f s x) (Turn f P rest X) X → g u σ' H2 fun σ2 H3 => tl { D with nx := NxF (fun s σ H => ∃ F, I s F σ H) f P rest X, ct := NxF (fun s σ H => ∃ F, I s F σ H) f P rest X, bk := D.nx } σ2 H3)
    (hd : ∀ s σ H, (∃ F, I s F σ H) → P (.nx s) → D.nx σ H) : ∃ a xs, [v] = [V.ref a] ∧ SqT K H a xs ∧ LoopOwes g tl D σ (IteT K a) H := by
  obtain ⟨a, vs, rfl, h1, h2⟩ := h
  refine ⟨a, vs, rfl, same_t s h1, fr_core (walk_enumT (xs := vs)) (by rw [enumI_len, h2.len, List.length_map]) (fun s σ H => ∃ F, I s F σ H) hp ⟨F, h0⟩ (fun s σ H' ⟨F', q⟩ => same_t ((hG s F' σ H' q).1.trans (hG s F' σ H' q).2) h1) ?_ hd⟩
  rintro i x rest s u σ' H1 H2 hx ⟨F1, q⟩ y p
  obtain ⟨F2, t, r⟩ := en_step h2 hx y (hG _ _ _ _ q).1 (hG _ _ _ _ q).2
  exact hs x rest s u F1 σ' H1 F2 H2 q t r p
/-- while -/
abbrev WhB (c : S → Rs Bool) (fw : S → Rs (Ctl S R)) (n : Nat) (s : S) (b : Bool) : Rs (Ctl S R) := if b = true then (fw s).bnd fun
    | .nx s' => whileR c fw n s'
    | .bk s' => .ok (.nx s')
    | .rt r => .ok (.rt r) else .ok (.nx s)
abbrev TurnW (c : S → Rs Bool) (fw : S → Rs (Ctl S R)) (n : Nat) (P : Ctl S R → Prop) (X : Xc → Option Int → Prop) : Ctl S R → Prop := Ctl.on (fun s' => Post (whileR c fw n s') P X) (fun s' => P (.nx s')) fun r => P (.rt r)
theorem wh_R {c : S → Rs Bool} {fw : S → Rs (Ctl S R)} {n : Nat} {ct : TT} (hp : Post (whileR c fw n s0) P X) (I : S → Sg → Hp → Prop) (h0 : I s0 σ H)
    (hs : ∀ (n : Nat) (s : S) σ' H' (Nx : Sg → Hp → Prop) (QQ : Bool → Hp → Prop), I s σ' H' → (∀ s' σ2 H2, I s' σ2 H2 → Post (whileR c fw n s') P X → Nx σ2 H2) →
      (∀ H2, tl { D with nx := Nx, ct := Nx, bk := D.nx } σ' H2 → QQ true H2) → (∀ H2, D.nx σ' H2 → QQ false H2) →
      Post (c s) (fun b => Post (WhB c fw n s b) P X) X → ct σ' H' QQ) : tWhile ct tl D σ H := by
  refine ⟨fun m σ H => ∃ s, I s σ H ∧ Post (whileR c fw m s) P X, ⟨n, s0, h0, hp⟩, ?_⟩
  rintro m σ1 H1 ⟨s, q, p⟩
  cases m with
  | zero => exact p.elim
  | succ m =>
    refine hs m s σ1 H1 (fun σ' H' => ∃ m', m' < m + 1 ∧ ∃ s, I s σ' H' ∧ Post (whileR c fw m' s) P X) _ q (fun s' σ2 H2 q2 p2 => ⟨m, Nat.lt_succ_self m, s', q2, p2⟩) (fun H2 k => ?_) (fun H2 k => ?_) ?_
    · rw [if_pos rfl]; exact ⟨_, fun σ' H' z => z, k⟩
    · rw [if_neg (by decide)]; exact k
    · unfold whileR at p; exact p.b
theorem wh_d {c : S → Rs Bool} {fw : S → Rs (Ctl S R)} {n : Nat} {s : S} {QQ : Bool → Hp → Prop} {p : Prop} {_ : Decidable p} (h : Post (WhB c fw n s (decide p)) P X)
    (h1 : p → Post (fw s) (TurnW c fw n P X) X → QQ true H) (h2 : ¬ p → P (.nx s) → QQ false H) : QQ (decide p) H := by
  unfold WhB at h
  by_cases z : p
  · rw [if_pos (decide_eq_true z)] at h
    rw [decide_eq_true z]
    exact h1 z (h.b.mono fun a q => by cases a <;> exact q)
  · rw [if_neg (by simp [z])] at h
    rw [decide_eq_false z]
    exact h2 z h
theorem wh_b {c : S → Rs Bool} {fw : S → Rs (Ctl S R)} {n : Nat} {s : S} {QQ : Bool → Hp → Prop} {p : Bool} (h : Post (WhB c fw n s p) P X)
    (h1 : p = true → Post (fw s) (TurnW c fw n P X) X → QQ true H) (h2 : ¬ p = true → P (.nx s) → QQ false H) : QQ p H := by
  unfold WhB at h
  by_cases z : p = true
  · rw [if_pos z] at h
    subst z
    exact h1 rfl (h.b.mono fun a q => by cases a <;> exact q)
  · rw [if_neg z] at h
    have z2 : p = false := by simpa using z
    subst z2
    exact h2 z h
end

/-! ### comprehensions -/
section
variable {α β γ : Type} {K : PySem.W.Frag} {F H : Hp} {σ : Sg} {Q : VK} {X : Xc → Option Int → Prop} {f : α → Rs (Option β)} {zs : List α} {g : TG} {tt : TT} {te : TE} {v : V} {e : α → Dat} {e2 : β → Dat} {L : Addr} {vs : List V} {ws : List Nat}
abbrev LcOwes (g : TG) (tt : TT) (te : TE) (ws : List Nat) (σ : Sg) (Q : VK) (J : It) (H1 : Hp) : Prop := ∀ D, H1 D = none → ∃ W : Nat → Nat → Hp → Prop, (∃ m, W 0 m (upd H1 D (.lst []))) ∧ ∀ i m H, W i m H →
  (J.stop i H ∧ Q (.ref D) H) ∨ (J.go i H ∧ ∃ Nx : Hp → Prop, (∀ H', Nx H' → ∃ m', m' < m ∧ W (i + 1) m' H') ∧ ∀ x H', J.yld i H x H' → g x (wipe σ ws) H' fun σ2 H2 => wipe σ2 ws = wipe σ ws ∧ tt σ2 H2 fun b H3 =>
    if b = true then te σ2 H3 fun y H4 => ∃ acc, H4 D = some (.lst acc) ∧ acc.length < sizeLine ∧ Nx (upd H4 D (.lst (acc ++ [y]))) else Nx H3)
theorem st_lc {wi : TI} (k : wi σ H fun J H1 => LcOwes g tt te ws σ Q J H1) : tLc wi g tt te ws σ H Q := k
theorem Post.mapc {x : α} {xs : List α} {P : List β → Prop} (h : Post (mapR f (x :: xs)) P X) : Post (f x) (fun o => Post (mapR f xs) (fun r => P (match o with | some y => y :: r | none => r)) X) X := by
  unfold mapR at h
  exact h.b.mono fun a p => p.b
/-- what a turn of a comprehension owes: the test and the item, for all ends -/
abbrev LcTurn (g : TG) (tt : TT) (te : TE) (ws : List Nat) (σ : Sg) (e2 : β → Dat) (F1 H1 F2 H2 : Hp) (m : Rs (Option β)) (X : Xc → Option Int → Prop) (u : V) : Prop :=
  ∀ (PN : Option β → Prop) (NY : VK) (NN : Hp → Prop), (∀ y b F4 H4, Stp [] F1 H1 F4 H4 → RD F4 (e2 b) y → PN (some b) → NY y H4) → (∀ F4 H4, Stp [] F1 H1 F4 H4 → PN none → NN H4) → Post m PN X →
    g u (wipe σ ws) H2 fun σ2 H3 => wipe σ2 ws = wipe σ ws ∧ tt σ2 H3 fun b H4 => if b = true then te σ2 H4 NY else NN H4
theorem lc_core2 {J : It} {n : Nat} {G : Hp → Prop} {Y : Nat → Hp → V → Hp → Prop} {P : List β → Prop} (w : Walk J n G Y) (hn : n = zs.length) (hz : zs.length ≤ 1000000) (s : Same F H) (hp : Post (mapR f zs) P X) (hG : ∀ F' H', Stp [] F H F' H' → G H')
    (hs : ∀ (i : Nat) (x : α) (u : V) F1 H1 H2, zs[i]? = some x → Stp [] F H F1 H1 → Y i H1 u H2 → ∃ F2, Stp [] F1 H1 F2 H2 ∧ LcTurn g tt te ws σ e2 F2 H2 F2 H2 (f x) X u)
    (hd : ∀ L vs r F' H', Stp [] F H F' H' → Fre H L → Own F' H' L (.lst vs) → RDs F' (r.map e2) vs → P r → Q (.ref L) H') : LcOwes g tt te ws σ Q J H := by
  intro D nD
  have key : ∀ (F' H' : Hp), Stp [D] F (upd H D (.lst [])) F' H' → G H' := fun F' H' t =>
    hG F' H' ((Stp.newO s nD).trans t (sub_new nD sub_nil))
  refine lc_it w (fun i H' => ∃ F' acc r0, Stp [] F H F' H' ∧ Own F' H' D (.lst acc) ∧ RDs F' (r0.map e2) acc ∧ acc.length ≤ i ∧ Post (mapR f (zs.drop i)) (fun r => P (r0 ++ r)) X) ?_ ?_ ?_ ?_
  · exact ⟨F, [], [], Stp.newO s nD, ⟨s.free nD, upd_same, trivial⟩, RDs.nil, Nat.le_refl _, hp⟩
  · rintro i H' _ ⟨F', _, _, t, _⟩
    exact hG F' H' t
  · rintro i u H1 H2 hi ⟨F1, acc, r0, t, o, hr, hl, p⟩ y
    have hlt : i < zs.length := hn ▸ hi
    rw [List.drop_eq_getElem_cons hlt] at p
    obtain ⟨F2, t2, T⟩ := hs i zs[i] u F1 H1 H2 (List.getElem?_eq_getElem hlt) t y
    have o2 := t2.keep (by simp) o
    refine T _ _ _ ?_ ?_ p.mapc
    · rintro y b F4 H4 t4 hy q
      have o4 := t4.keep (by simp) o2
      refine ⟨acc, o4.h, sz_lt (by omega), ?_⟩
      have tp := Stp.put (o' := .lst (acc ++ [y])) t4.inn o4
      refine ⟨F4, acc ++ [y], r0 ++ [b], ((t.trans t2 sub_nil).trans t4 sub_nil).trans tp (sub_new nD sub_nil), ⟨o4.f, upd_same, trivial⟩, ?_, ?_, ?_⟩
      · rw [List.map_append]
        exact ((t2.trans t4 sub_nil).ups hr).snoc hy
      · rw [List.length_append]; simp; omega
      · exact q.mono fun r z => by rw [List.append_assoc]; exact z
    · rintro F4 H4 t4 q
      exact ⟨F4, acc, r0, (t.trans t2 sub_nil).trans t4 sub_nil, t4.keep (by simp) o2, (t2.trans t4 sub_nil).ups hr, by omega, q⟩
  · rintro H' ⟨F', acc, r0, t, o, hr, _, p⟩
    rw [hn, List.drop_length] at p
    have p' : P (r0 ++ []) := p
    rw [List.append_nil] at p'
    exact hd D acc r0 F' H' t nD o hr p'
theorem lc_L {P : List β → Prop} (h : RD F (.lst (zs.map e)) v) (s : Same F H) (hz : zs.length ≤ 1000000) (hp : Post (mapR f zs) P X)
    (hs : ∀ (x : α) (u : V) F1 H1, RD F1 (e x) u → Stp [] F H F1 H1 → LcTurn g tt te ws σ e2 F1 H1 F1 H1 (f x) X u)
    (hd : ∀ L vs r F' H', Stp [] F H F' H' → Fre H L → Own F' H' L (.lst vs) → RDs F' (r.map e2) vs → P r → Q (.ref L) H') : ∃ a, v = .ref a ∧ (∃ xs, SqL K H a xs) ∧ LcOwes g tt te ws σ Q (Itl K a) H := by
  obtain ⟨a, vs, rfl, h1, h2⟩ := h
  refine ⟨a, rfl, ⟨vs, same_l s h1⟩, lc_core2 (walk_list (xs := vs)) (by rw [h2.len, List.length_map]) hz s hp (fun F' H' t => same_l (t.ex.trans t.inn) h1) ?_ hd⟩
  rintro i x u F1 H1 H2 hx t ⟨rfl, hu⟩
  obtain ⟨d, hd, r⟩ := h2.of_at hu
  rw [List.getElem?_map, hx] at hd
  cases hd
  exact ⟨F1, Stp.refl t.inn, hs x u F1 _ (r.up t.ex) t⟩
theorem lc_T {P : List β → Prop} (h : RD F (.tup (zs.map e)) v) (s : Same F H) (hz : zs.length ≤ 1000000) (hp : Post (mapR f zs) P X)
    (hs : ∀ (x : α) (u : V) F1 H1, RD F1 (e x) u → Stp [] F H F1 H1 → LcTurn g tt te ws σ e2 F1 H1 F1 H1 (f x) X u)
    (hd : ∀ L vs r F' H', Stp [] F H F' H' → Fre H L → Own F' H' L (.lst vs) → RDs F' (r.map e2) vs → P r → Q (.ref L) H') : ∃ a, v = .ref a ∧ (∃ xs, SqT K H a xs) ∧ LcOwes g tt te ws σ Q (Itt K a) H := by
  obtain ⟨a, vs, rfl, h1, h2⟩ := h
  refine ⟨a, rfl, ⟨vs, same_t s h1⟩, lc_core2 (walk_tup (xs := vs)) (by rw [h2.len, List.length_map]) hz s hp (fun F' H' t => same_t (t.ex.trans t.inn) h1) ?_ hd⟩
  rintro i x u F1 H1 H2 hx t ⟨rfl, hu⟩
  obtain ⟨d, hd, r⟩ := h2.of_at hu
  rw [List.getElem?_map, hx] at hd
  cases hd
  exact ⟨F1, Stp.refl t.inn, hs x u F1 _ (r.up t.ex) t⟩
theorem lc_O {P : List β → Prop} (o : Own F H L (.lst vs)) (h : RDs F (zs.map e) vs) (s : Same F H) (hz : zs.length ≤ 1000000) (hp : Post (mapR f zs) P X)
    (hs : ∀ (x : α) (u : V) F1 H1, RD F1 (e x) u → Stp [] F H F1 H1 → LcTurn g tt te ws σ e2 F1 H1 F1 H1 (f x) X u)
    (hd : ∀ L vs r F' H', Stp [] F H F' H' → Fre H L → Own F' H' L (.lst vs) → RDs F' (r.map e2) vs → P r → Q (.ref L) H') : ∃ a, V.ref L = .ref a ∧ (∃ xs, SqL K H a xs) ∧ LcOwes g tt te ws σ Q (Itl K a) H := by
  refine ⟨L, rfl, ⟨vs, SqL.of o.h⟩, lc_core2 (walk_list (xs := vs)) (by rw [h.len, List.length_map]) hz s hp (fun F' H' t => SqL.of (t.keep (by simp) o).h) ?_ hd⟩
  rintro i x u F1 H1 H2 hx t ⟨rfl, hu⟩
  obtain ⟨d, hd, r⟩ := h.of_at hu
  rw [List.getElem?_map, hx] at hd
  cases hd
  exact ⟨F1, Stp.refl t.inn, hs x u F1 _ (r.up t.ex) t⟩
theorem lc_R {lo hi : Int} {P : List β → Prop} {f : Int → Rs (Option β)} (s : Same F H) (hz : (hi - lo).toNat ≤ 1000000) (hp : Post (mapR f (rngI lo hi)) P X)
    (hs : ∀ (x : Int) F1 H1, Stp [] F H F1 H1 → LcTurn g tt te ws σ e2 F1 H1 F1 H1 (f x) X (.int x))
    (hd : ∀ L vs r F' H', Stp [] F H F' H' → Fre H L → Own F' H' L (.lst vs) → RDs F' (r.map e2) vs → P r → Q (.ref L) H') : LcOwes g tt te ws σ Q (Itr lo (hi - lo).toNat) H := by
  refine lc_core2 (walk_range (lo := lo) (n := (hi - lo).toNat)) (by simp [rngI]) (by simpa [rngI] using hz) s hp (fun _ _ _ => trivial) ?_ hd
  rintro i x u F1 H1 H2 hx t ⟨rfl, rfl⟩
  have := rngI_at hx
  subst this
  exact ⟨F1, Stp.refl t.inn, hs _ F1 _ t⟩
theorem lc_R1 {hi : Int} {P : List β → Prop} {f : Int → Rs (Option β)} (hb : rngOk 0 hi = true) (s : Same F H) (hz : (hi - 0).toNat ≤ 1000000) (hp : Post (mapR f (rngI 0 hi)) P X)
    (hs : ∀ (x : Int) F1 H1, Stp [] F H F1 H1 → LcTurn g tt te ws σ e2 F1 H1 F1 H1 (f x) X (.int x))
    (hd : ∀ L vs r F' H', Stp [] F H F' H' → Fre H L → Own F' H' L (.lst vs) → RDs F' (r.map e2) vs → P r → Q (.ref L) H') : ∃ j : Int, [V.int hi] = [.int j] ∧ -(2 ^ 62) ≤ j ∧ j < 2 ^ 62 ∧ LcOwes g tt te ws σ Q (Itr 0 j.toNat) H := by
  have hb := rngOk.b hb
  have := lc_R (lo := 0) s hz hp hs hd
  rw [Int.sub_zero] at this
  exact ⟨hi, rfl, by omega, by omega, this⟩
theorem lc_R2 {lo hi : Int} {P : List β → Prop} {f : Int → Rs (Option β)} (hb : rngOk lo hi = true) (s : Same F H) (hz : (hi - lo).toNat ≤ 1000000) (hp : Post (mapR f (rngI lo hi)) P X)
    (hs : ∀ (x : Int) F1 H1, Stp [] F H F1 H1 → LcTurn g tt te ws σ e2 F1 H1 F1 H1 (f x) X (.int x))
    (hd : ∀ L vs r F' H', Stp [] F H F' H' → Fre H L → Own F' H' L (.lst vs) → RDs F' (r.map e2) vs → P r → Q (.ref L) H') : ∃ i j : Int, [V.int lo, V.int hi] = [.int i, .int j] ∧ (-(2 ^ 62) ≤ i ∧ i < 2 ^ 62 ∧ -(2 ^ 62) ≤ j ∧ j < 2 ^ 62) ∧ LcOwes g tt te ws σ Q (Itr i (j - i).toNat) H := by
  have hb := rngOk.b hb
  exact ⟨lo, hi, rfl, ⟨by omega, by omega, by omega, by omega⟩, lc_R s hz hp hs hd⟩
/-- a list of ours is as well a frozen one -/
theorem mk_rd {P : List β → Prop} (k : ∀ u r F' H', Stp [] F H F' H' → RD F' (.lst (r.map e2)) u → P r → Q u H') : ∀ L vs r F' H', Stp [] F H F' H' → Fre H L → Own F' H' L (.lst vs) → RDs F' (r.map e2) vs → P r → Q (.ref L) H' := fun L vs r F' H' s n o hr p => by
  obtain ⟨F2, s2, r2⟩ := own_rd s n o hr
  exact k _ r F2 H' s2 r2 p
/-- x + y of two frozen lists -/
theorem sm_cat {u w : V} {xs ys : List α} (s : Same F H) (h1 : RD F (.lst (xs.map e)) u) (h2 : RD F (.lst (ys.map e)) w) (z : xs.length + ys.length ≤ 1000000)
    (k : ∀ x F' H', Stp [] F H F' H' → RD F' (.lst ((xs ++ ys).map e)) x → Q x H') : rAddU K u w H Q := by
  obtain ⟨a, vs, rfl, _, h3, h4⟩ := rd_lst s h1
  obtain ⟨b, ws, rfl, _, h5, h6⟩ := rd_lst s h2
  have l1 : vs.length = xs.length := by rw [h4.len, List.length_map]
  have l2 : ws.length = ys.length := by rw [h6.len, List.length_map]
  refine .inr (.inl ⟨a, b, vs, ws, rfl, rfl, h3, h5, sz_le (by omega), nw_lst s (ds := (xs ++ ys).map e) ?_ k⟩)
  rw [List.map_append]
  exact h4.app h6
/-- made.append(x), the data told -/
theorem sm_app {x : α} {u : V} (s : Same F H) (o : Own F H L (.lst vs)) (hd : RDs F (zs.map e) vs) (hx : RD F (e x) u) (z : zs.length < 1000000)
    (k : ∀ ws F' H', Stp [L] F H F' H' → Own F' H' L (.lst ws) → RDs F' ((zs ++ [x]).map e) ws → Q .non H') : rAppend (.ref L) [u] H Q := by
  refine st_app s o (by rw [hd.len, List.length_map]; exact z) fun F' H' t o' => k _ F' H' t o' ?_
  rw [List.map_append]
  exact (t.ups hd).snoc (t.up hx)
def setR {γ : Type} (xs : List γ) (i : Int) (x : γ) (k : List γ → Rs β) : Rs β := match ixN xs.length i with
  | some n => k (xs.set n x)
  | none => .bad
theorem Post.st {P : β → Prop} {xs : List α} {i : Int} {x : α} {k : List α → Rs β} (h : Post (setR xs i x k) P X) : ∃ n, ixN xs.length i = some n ∧ Post (k (xs.set n x)) P X := by
  unfold setR at h
  cases q : ixN xs.length i with
  | none => rw [q] at h; exact h.elim
  | some n => rw [q] at h; exact ⟨n, rfl, h⟩
theorem sm_set {x : α} {u : V} {i : Int} {n : Nat} {Q : Hp → Prop} (s : Same F H) (o : Own F H L (.lst vs)) (hd : RDs F (zs.map e) vs) (hx : RD F (e x) u) (hn : ixN zs.length i = some n)
    (k : ∀ ws F' H', Stp [L] F H F' H' → Own F' H' L (.lst ws) → RDs F' ((zs.set n x).map e) ws → Q H') : rSetL (.ref L) (.int i) u H Q := by
  refine st_setO s o (n := n) (by rw [hd.len, List.length_map]; exact hn) fun F' H' t o' => k _ F' H' t o' ?_
  rw [List.map_set]
  exact RDs.set n (t.ups hd) (t.up hx)
/-- a new instance, told by its promise -/
theorem sm_make {C : Addr} {ws : List V} {E : XK} {sp : Sp} {P : Addr → Hp → Prop} (s : Same F H)
    (k : ∀ L dx F' H', Stp [] F H F' H' → Fre H L → Own F' H' L (.ins C dx []) → sp (.ref L :: ws) H' (fun v H2 => v = .non ∧ P L H2) E) :
    ∀ x dx, H x = none → H dx = none → dx ≠ x → sp (.ref x :: ws) (upd (upd H dx (.own x)) x (.ins C dx [])) (fun v H2 => v = .non ∧ P x H2) E := fun x dx h1 h2 h3 => by
  have t1 : Stp [] F H F (upd H dx (.own x)) := Stp.newO s h2
  have h4 : upd H dx (.own x) x = none := by rw [upd_ne (Ne.symm h3)]; exact h1
  have t2 : Stp [] F (upd H dx (.own x)) F (upd (upd H dx (.own x)) x (.ins C dx [])) := Stp.newO t1.inn h4
  exact k x dx F _ (t1.trans t2 sub_nil) h1 ⟨s.free h1, upd_same, trivial⟩
theorem own_rdI {S : List Addr} {F H F1 H1 : Hp} {L C dx : Addr} {nms : List Str} {ds : List Dat} (s : Stp S F H F1 H1) (n : Fre H L) (o : Own F1 H1 L (.ins C dx (nms.zip vs))) (hd : RDs F1 ds vs) : ∃ F2, Stp S F H F2 H1 ∧ RD F2 (.obj C nms ds) (.ref L) := by
  have t := Stp.frz s.inn o
  exact ⟨_, Stp.trans s t (sub_new n sub_nil), L, dx, vs, rfl, upd_same, hd.up t.ex⟩
/-- self.f = x -/
theorem st_sfld {tv ta : TE} {fn : Str} {D : Ends} (k : tv σ H fun y H1 => ta σ H1 fun x H2 => ∃ a C dx fs, x = .ref a ∧ H2 a = some (.ins C dx fs) ∧ Cls K C ∧ NoAttr K C fn ∧ fs.length < 1000 ∧ D.nx σ (upd H2 a (.ins C dx (putF fn y fs)))) : sFld K ta tv fn D σ H := k
theorem sm_sfld {C dx : Addr} {fs fs' : List (Str × V)} {fn : Str} {u : V} {P : Hp → Prop} (s : Same F H) (o : Own F H L (.ins C dx fs)) (cl : Cls K C) (na : NoAttr K C fn) (hl : fs.length < 1000) (hp : putF fn u fs = fs')
    (k : ∀ F' H', Stp [L] F H F' H' → Own F' H' L (.ins C dx fs') → P H') : ∃ a C dx fs, V.ref L = .ref a ∧ H a = some (.ins C dx fs) ∧ Cls K C ∧ NoAttr K C fn ∧ fs.length < 1000 ∧ P (upd H a (.ins C dx (putF fn u fs))) :=
  ⟨L, C, dx, fs, rfl, o.h, cl, na, hl, k _ _ (Stp.put s o) ⟨o.f, by rw [upd_same, hp], trivial⟩⟩
/-- divmod(i, j) -/
theorem sm_divmod {i j : Int} (s : Same F H) (h : divOk j = true) (k : ∀ u F' H', Stp [] F H F' H' → RD F' (.tup [.int (i / j), .int (i % j)]) u → Q u H') : rDivmodU [.int i, .int j] H Q :=
  ⟨i, j, rfl, divOk.c h, nw_tup s (ds := [.int (i / j), .int (i % j)]) (RDs.cons RD.int_ (RDs.cons RD.int_ RDs.nil)) k⟩
theorem sm_int {i : Int} (k : Q (.int i) H) : rInt1 [.int i] H Q := .inl ⟨i, rfl, k⟩
theorem sm_intB {b : Bool} (k : Q (.int (if b = true then 1 else 0)) H) : rInt1 [.bl b] H Q := .inr ⟨b, rfl, k⟩
/-- a, b = .. -/
theorem sm_g2 {d1 d2 : Dat} {t : TGs} {Q : Sg → Hp → Prop} (s : Same F H) (h : RD F (.tup [d1, d2]) v) (k : ∀ x y, RD F d1 x → RD F d2 y → t [x, y] σ H Q) : gTupU K 2 t v σ H Q :=
  st_gtup s h rfl fun vs h => by
    obtain ⟨x, r, rfl, h1, y, r2, rfl, h2, h3⟩ := h
    cases (show r2 = [] from h3)
    exact k x y h1 h2
theorem own_fzI {F H : Hp} {L C dx : Addr} {nms : List Str} {ds : List Dat} (s : Same F H) (o : Own F H L (.ins C dx (nms.zip vs))) (hd : RDs F ds vs) : ∃ F2, Stp [L] F H F2 H ∧ RD F2 (.obj C nms ds) (.ref L) := by
  have t := Stp.frz s o
  exact ⟨_, t, L, dx, vs, rfl, upd_same, hd.up t.ex⟩
theorem sm_tupQ {b : Bool} (s : Same F H) (h : RD F (eQ b e zs) v) (k : ∀ u F' H', Stp [] F H F' H' → RD F' (.tup (zs.map e)) u → Q u H') : rTupU K [v] H Q := by
  cases b with
  | true => exact st_tupT s h (k v F H (Stp.refl s) h)
  | false => exact st_tupL s h k
/-- None or a thing -/
def eO (e : α → Dat) : Option α → Dat
  | none => .non
  | some x => e x
def isRef : Dat → Bool
  | .lst _ => true
  | .tup _ => true
  | .obj _ _ _ => true
  | .exc _ _ => true
  | .dct _ => true
  | _ => false
theorem rd_ref {d : Dat} {u : V} (h : RD F d u) (z : isRef d = true) : u ≠ .non := by
  cases d with
  | lst ds => obtain ⟨a, vs, rfl, _⟩ := h; exact fun q => by cases q
  | tup ds => obtain ⟨a, vs, rfl, _⟩ := h; exact fun q => by cases q
  | obj C n ds => obtain ⟨a, dx, vs, rfl, _⟩ := h; exact fun q => by cases q
  | exc C l => obtain ⟨a, d, rfl, _⟩ := h; exact fun q => by cases q
  | dct kvs => obtain ⟨a, rfl, _⟩ := h; exact fun q => by cases q
  | _ => cases z
theorem sm_isN {o : Option α} {u : V} (h : RD F (eO e o) u) (z : ∀ x, isRef (e x) = true) (k : Q (.bl o.isNone) H) : rIsN u .non H Q := by
  cases o with
  | none => rw [show u = V.non from h]; exact st_isN1 k
  | some x => exact st_isN0 (rd_ref (show RD F (e x) u from h) (z x)) k
theorem sm_notN {o : Option α} {u : V} (h : RD F (eO e o) u) (z : ∀ x, isRef (e x) = true) (k : Q (.bl (!o.isNone)) H) : rNotN u .non H Q := by
  cases o with
  | none => rw [show u = V.non from h]; exact st_notN1 k
  | some x => exact st_notN0 (rd_ref (show RD F (e x) u from h) (z x)) k
def somR (o : Option α) (k : α → Rs β) : Rs β := match o with
  | some x => k x
  | none => .bad
theorem Post.som {P : β → Prop} {o : Option α} {k : α → Rs β} (h : Post (somR o k) P X) : ∃ x, o = some x ∧ Post (k x) P X := by
  cases o with
  | none => exact h.elim
  | some x => exact ⟨x, rfl, h⟩
theorem st_yes {Q : Bool → Hp → Prop} (k : Q true H) : tYes σ H Q := k
theorem st_sl {r : V → Option Int → Option Int → Hp → VK → Prop} {t : TE} {tl th : TO} (k : t σ H fun x H1 => tl σ H1 fun l H2 => th σ H2 fun u H3 => r x l u H3 Q) : tSl r t tl th σ H Q := k
theorem st_nopart {Q : Option Int → Hp → Prop} (k : Q none H) : tNoPart σ H Q := k
theorem st_part {t : TE} {Q : Option Int → Hp → Prop} (k : t σ H fun x H1 => ∃ i, x = .int i ∧ Q (some i) H1) : tPart t σ H Q := k
theorem st_exi {i : Int} {P : Int → Prop} (k : P i) : ∃ j, V.int i = .int j ∧ P j := ⟨i, rfl, k⟩
theorem st_make {C : Addr} {sp : Sp} {dvs : List V} {E : XK} {t : TA} (k : t σ H fun vs H1 => ∀ x dx, H1 x = none → H1 dx = none → dx ≠ x → sp (.ref x :: (vs ++ dvs)) (upd (upd H1 dx (.own x)) x (.ins C dx [])) (fun v H2 => v = .non ∧ Q (.ref x) H2) E) : tMake C sp dvs E t σ H Q := k
end
section
variable {S R β : Type} {F H : Hp} {σ : Sg} {D : Ends} {P : β → Prop} {X : Xc → Option Int → Prop} {m : Rs (Ctl S R)} {k : S → Rs β} {r : R → Rs β} {wi : TI} {g : TG} {tb u : TS} {c : TT}
theorem cutF (hm : Post (m.thn k r) P X) (I : S → Sg → Hp → Prop)
    (h1 : ∀ nx : Sg → Hp → Prop, (∀ s σ' H', I s σ' H' → Post (k s) P X → nx σ' H') → Post m (Ctl.on (fun s => Post (k s) P X) (fun s => Post (k s) P X) fun x => Post (r x) P X) X → tFor wi g tb { D with nx := nx } σ H)
    (h2 : ∀ s σ' H', I s σ' H' → Post (k s) P X → D.nx σ' H') : tFor wi g tb D σ H := cutS hm I h1 h2
theorem cutW (hm : Post (m.thn k r) P X) (I : S → Sg → Hp → Prop)
    (h1 : ∀ nx : Sg → Hp → Prop, (∀ s σ' H', I s σ' H' → Post (k s) P X → nx σ' H') → Post m (Ctl.on (fun s => Post (k s) P X) (fun s => Post (k s) P X) fun x => Post (r x) P X) X → tWhile c tb { D with nx := nx } σ H)
    (h2 : ∀ s σ' H', I s σ' H' → Post (k s) P X → D.nx σ' H') : tWhile c tb D σ H := cutS hm I h1 h2
theorem cutI (hm : Post (m.thn k r) P X) (I : S → Sg → Hp → Prop)
    (h1 : ∀ nx : Sg → Hp → Prop, (∀ s σ' H', I s σ' H' → Post (k s) P X → nx σ' H') → Post m (Ctl.on (fun s => Post (k s) P X) (fun s => Post (k s) P X) fun x => Post (r x) P X) X → tIfS c tb u { D with nx := nx } σ H)
    (h2 : ∀ s σ' H', I s σ' H' → Post (k s) P X → D.nx σ' H') : tIfS c tb u D σ H := cutS hm I h1 h2
variable {K : PySem.W.Frag} {R0 : It → Hp → Prop} {ta : TA}
theorem st_enumL (k : ta σ H fun vs H1 => ∃ a xs, vs = [.ref a] ∧ SqL K H1 a xs ∧ R0 (Ite K a) H1) : iEnumU K ta σ H R0 := .inl k
theorem st_enumT (k : ta σ H fun vs H1 => ∃ a xs, vs = [.ref a] ∧ SqT K H1 a xs ∧ R0 (IteT K a) H1) : iEnumU K ta σ H R0 := .inr k
end
end DK
set_option maxRecDepth 100000
set_option maxHeartbeats 2000000
/-! DK, fifth part: what mirrors compute. -/
namespace DK
open PySem PySem.Spec PyProof.Rows L2
section
variable {α β γ S R : Type}
theorem log2_lt {n k : Nat} (h : n < 2 ^ k) (hk : 0 < k) : n.log2 < k := by
  by_cases z : n = 0
  · subst z; simpa using hk
  · exact (Nat.log2_lt z).mpr h
theorem mulOk_of {i j : Int} (h1 : -(2 ^ 64) < i) (h2 : i < 2 ^ 64) (h3 : -(2 ^ 64) < j) (h4 : j < 2 ^ 64) : mulOk i j = true := by
  have a : i.natAbs.log2 < 64 := log2_lt (by omega) (by decide)
  have b : j.natAbs.log2 < 64 := log2_lt (by omega) (by decide)
  simp only [mulOk, decide_eq_true_eq]; omega
theorem rngOk_of {lo hi : Int} (h1 : -(2 ^ 60) < lo) (h2 : lo < 2 ^ 60) (h3 : -(2 ^ 60) < hi) (h4 : hi < 2 ^ 60) : rngOk lo hi = true := by
  have a : lo.natAbs.log2 < 61 := log2_lt (by omega) (by decide)
  have b : hi.natAbs.log2 < 61 := log2_lt (by omega) (by decide)
  simp only [rngOk, Bool.and_eq_true, decide_eq_true_eq]; exact ⟨a, b⟩
theorem divOk_of {j : Int} (h1 : 0 < j) (h2 : j < 2 ^ 64) : divOk j = true := by
  have b : j.natAbs.log2 < 64 := log2_lt (by omega) (by decide)
  simp only [divOk, Bool.and_eq_true, decide_eq_true_eq]; omega
theorem grd_of {p : Prop} {_ : Decidable p} {m : Rs α} (h : p) : grd p m = m := if_pos h
theorem atI_of {xs : List α} {i : Nat} {x : α} (h : xs[i]? = some x) : atI xs (i : Nat) = some x := by
  have hl := (List.getElem?_eq_some_iff.mp h).1
  unfold atI ixN
  rw [if_pos (by omega), if_pos (by omega)]
  simpa using h
theorem ixR_of {xs : List α} {i : Nat} {x : α} (h : xs[i]? = some x) : ixR xs (i : Nat) = .ok x := by
  unfold ixR; rw [atI_of h]
theorem ixR_zero {x : α} {xs : List α} : ixR (x :: xs) 0 = .ok x := ixR_of (i := 0) rfl
theorem setR_zero {k : List α → Rs β} {x y : α} {xs : List α} : setR (y :: xs) 0 x k = k (x :: xs) := by
  unfold setR ixN
  rw [if_pos (by decide), if_pos (by simp)]
  rfl
/-- an index within -/
theorem ixR_in {xs : List α} {i : Int} (h0 : 0 ≤ i) (h1 : i < xs.length) : ∃ x, ixR xs i = .ok x ∧ xs[i.toNat]? = some x := by
  have hl : i.toNat < xs.length := by omega
  refine ⟨xs[i.toNat], ?_, List.getElem?_eq_getElem hl⟩
  have e : i = (i.toNat : Int) := by omega
  have := ixR_of (List.getElem?_eq_getElem hl)
  rw [← e] at this
  exact this
/-- a loop that always goes on -/
theorem forR_ok {f : S → α → Rs (Ctl S R)} (g : S → α → S) (I : List α → S → Prop) (hs : ∀ x rest s, I (x :: rest) s → f s x = .ok (.nx (g s x)) ∧ I rest (g s x)) : ∀ (xs : List α) (s : S), I xs s → forR f xs s = .ok (.nx (xs.foldl g s))
  | [], _, _ => rfl
  | x :: xs, s, h => by
    obtain ⟨h1, h2⟩ := hs x xs s h
    unfold forR
    rw [h1, Rs.bnd_ok, List.foldl_cons]
    exact forR_ok g I hs xs _ h2
/-- a loop told by an invariant -/
theorem forR_inv {f : S → α → Rs (Ctl S R)} (I : List α → S → Prop) (hs : ∀ x rest s, I (x :: rest) s → ∃ s', f s x = .ok (.nx s') ∧ I rest s') : ∀ (xs : List α) (s : S), I xs s → ∃ s', forR f xs s = .ok (.nx s') ∧ I [] s'
  | [], s, h => ⟨s, rfl, h⟩
  | x :: xs, s, h => by
    obtain ⟨s', h1, h2⟩ := hs x xs s h
    obtain ⟨s2, h3, h4⟩ := forR_inv I hs xs s' h2
    refine ⟨s2, ?_, h4⟩
    unfold forR
    rw [h1, Rs.bnd_ok]
    exact h3
theorem forR_congr {f f' : S → α → Rs (Ctl S R)} : ∀ (xs : List α) (s : S), (∀ x ∈ xs, ∀ s, f s x = f' s x) → forR f xs s = forR f' xs s
  | [], _, _ => rfl
  | x :: xs, s, h => by
    unfold forR
    rw [h x List.mem_cons_self]
    congr 1
    funext c
    cases c with
    | nx s' => exact forR_congr xs s' fun y hy => h y (List.mem_cons_of_mem _ hy)
    | bk s' => rfl
    | rt r => rfl
/-- a loop that appends -/
theorem forR_app {f : List β → α → Rs (Ctl (List β) R)} (g : α → β) : ∀ (xs : List α) (acc : List β), (∀ x ∈ xs, ∀ s : List β, s.length < 1000000 → f s x = .ok (.nx (s ++ [g x]))) → acc.length + xs.length ≤ 1000000 → forR f xs acc = .ok (.nx (acc ++ xs.map g))
  | [], acc, _, _ => by simp [forR]
  | x :: xs, acc, h, hl => by
    rw [List.length_cons] at hl
    unfold forR
    rw [h x List.mem_cons_self acc (by omega), Rs.bnd_ok]
    show forR f xs (acc ++ [g x]) = _
    rw [forR_app g xs _ (fun y hy => h y (List.mem_cons_of_mem _ hy)) (by rw [List.length_append]; simp; omega)]
    simp
/-- a loop that only looks -/
theorem forR_look {f : Unit → α → Rs (Ctl Unit R)} : ∀ (xs : List α), (∀ x ∈ xs, f () x = .ok (.nx ())) → forR f xs () = .ok (.nx ())
  | [], _ => rfl
  | x :: xs, h => by
    unfold forR
    rw [h x List.mem_cons_self, Rs.bnd_ok]
    exact forR_look xs fun y hy => h y (List.mem_cons_of_mem _ hy)
theorem mapR_ok {f : α → Rs (Option β)} (g : α → Option β) : ∀ (xs : List α), (∀ x ∈ xs, f x = .ok (g x)) → mapR f xs = .ok (xs.filterMap g)
  | [], _ => rfl
  | x :: xs, h => by
    unfold mapR
    rw [h x List.mem_cons_self, Rs.bnd_ok, mapR_ok g xs fun y hy => h y (List.mem_cons_of_mem _ hy), Rs.bnd_ok, List.filterMap_cons]
    cases g x <;> rfl
theorem mapR_map {f : α → Rs (Option β)} (g : α → β) (xs : List α) (h : ∀ x ∈ xs, f x = .ok (some (g x))) : mapR f xs = .ok (xs.map g) := by
  rw [mapR_ok (fun x => some (g x)) xs h]
  simp
theorem mapR_filter {f : α → Rs (Option α)} (p : α → Bool) (xs : List α) (h : ∀ x ∈ xs, f x = .ok (if p x = true then some x else none)) : mapR f xs = .ok (xs.filter p) := by
  rw [mapR_ok (fun x => if p x = true then some x else none) xs h]
  congr 1
  clear h
  induction xs with
  | nil => rfl
  | cons x xs ih => rw [List.filterMap_cons, List.filter_cons]; by_cases z : p x = true <;> simp [z, ih]
theorem whileR_step {c : S → Rs Bool} {f : S → Rs (Ctl S R)} {n : Nat} {s s' : S} (h1 : c s = .ok true) (h2 : f s = .ok (.nx s')) : whileR c f (n + 1) s = whileR c f n s' := by
  rw [whileR, h1, Rs.bnd_ok, if_pos rfl, h2]; rfl
theorem whileR_end {c : S → Rs Bool} {f : S → Rs (Ctl S R)} {n : Nat} {s : S} (h1 : c s = .ok false) : whileR c f (n + 1) s = .ok (.nx s) := by
  rw [whileR, h1]; rfl
/-- a while told by an invariant and a measure -/
theorem whileR_inv {c : S → Rs Bool} {f : S → Rs (Ctl S R)} (I : S → Prop) (μ : S → Nat) (p : S → Bool) (hc : ∀ s, I s → c s = .ok (p s)) (hs : ∀ s, I s → p s = true → ∃ s', f s = .ok (.nx s') ∧ I s' ∧ μ s' < μ s) :
    ∀ (n : Nat) (s : S), I s → μ s < n → ∃ s', whileR c f n s = .ok (.nx s') ∧ I s' ∧ p s' = false
  | 0, _, _, h => by omega
  | n + 1, s, h, hn => by
    by_cases z : p s = true
    · obtain ⟨s', h1, h2, h3⟩ := hs s h z
      rw [whileR_step (by rw [hc s h, z]) h1]
      exact whileR_inv I μ p hc hs n s' h2 (by omega)
    · have z2 : p s = false := by simpa using z
      exact ⟨s, whileR_end (by rw [hc s h, z2]), h, z2⟩
theorem rngI_mem {lo hi x : Int} (h : x ∈ rngI lo hi) : lo ≤ x ∧ x < hi := by
  unfold rngI at h
  obtain ⟨k, hk, rfl⟩ := List.mem_map.mp h
  rw [List.mem_range] at hk
  omega
theorem rngI_len {lo hi : Int} : (rngI lo hi).length = (hi - lo).toNat := by simp [rngI]
/-! what is owed, backwards -/
variable {m : Rs α} {k : α → Rs β} {P : β → Prop} {X : Xc → Option Int → Prop}
theorem w_ok {a : β} (h : P a) : Post (.ok a) P X := h
theorem w_bnd (h : Post m (fun a => Post (k a) P X) X) : Post (m.bnd k) P X := by
  cases m <;> exact h
theorem w_call {Q : α → Prop} (h : Post m Q X) (z : ∀ a, Q a → Post (k a) P X) : Post (m.bnd k) P X := w_bnd (h.mono z)
theorem w_thn {m : Rs (Ctl S R)} {k : S → Rs β} {r : R → Rs β} (h : Post m (Ctl.on (fun s => Post (k s) P X) (fun s => Post (k s) P X) fun x => Post (r x) P X) X) : Post (m.thn k r) P X :=
  w_bnd (h.mono fun a p => by cases a <;> exact p)
theorem w_grd {p : Prop} {_ : Decidable p} {m : Rs β} (h : p) (k : Post m P X) : Post (grd p m) P X := by rw [grd_of h]; exact k
theorem w_if {p : Prop} {_ : Decidable p} {m n : Rs β} (h1 : p → Post m P X) (h2 : ¬ p → Post n P X) : Post (if p then m else n) P X := by
  by_cases z : p
  · rw [if_pos z]; exact h1 z
  · rw [if_neg z]; exact h2 z
theorem w_eq {a : β} {m : Rs β} (e : m = .ok a) (h : P a) : Post m P X := by rw [e]; exact h
theorem w_get {m : Rs β} (h : Post m P fun _ _ => False) : ∃ a, m = .ok a ∧ P a := by
  cases m with
  | ok a => exact ⟨a, rfl, h⟩
  | exc c t => exact h.elim
  | bad => exact h.elim
theorem w_ix {xs : List α} {i : Int} (h0 : 0 ≤ i) (h1 : i < xs.length) (z : ∀ x, xs[i.toNat]? = some x → Post (k x) P X) : Post ((ixR xs i).bnd k) P X := by
  obtain ⟨x, h2, h3⟩ := ixR_in h0 h1
  rw [h2]; exact z x h3
theorem w_for {f : S → α → Rs (Ctl S R)} {P : Ctl S R → Prop} (I : List α → S → Prop) (hs : ∀ x rest s, I (x :: rest) s → Post (f s x) (Ctl.on (fun s' => I rest s') (fun s' => P (.nx s')) fun r => P (.rt r)) X) (hk : ∀ s, I [] s → P (.nx s)) :
    ∀ (xs : List α) (s : S), I xs s → Post (forR f xs s) P X
  | [], s, h => hk s h
  | x :: xs, s, h => by
    unfold forR
    refine w_bnd ((hs x xs s h).mono fun c p => ?_)
    cases c with
    | nx s' => exact w_for I hs hk xs s' p
    | bk s' => exact p
    | rt r => exact p
theorem w_while {c : S → Rs Bool} {f : S → Rs (Ctl S R)} {P : Ctl S R → Prop} (I : S → Prop) (μ : S → Nat) (hs : ∀ s, I s → Post (c s) (fun b => if b = true then Post (f s) (Ctl.on (fun s' => I s' ∧ μ s' < μ s) (fun s' => P (.nx s')) fun r => P (.rt r)) X else P (.nx s)) X) :
    ∀ (n : Nat) (s : S), I s → μ s < n → Post (whileR c f n s) P X
  | 0, _, _, h => by omega
  | n + 1, s, h, hn => by
    unfold whileR
    refine w_bnd ((hs s h).mono fun b p => ?_)
    by_cases z : b = true
    · rw [if_pos z] at p
      rw [if_pos z]
      refine w_bnd (p.mono fun c p => ?_)
      cases c with
      | nx s' => exact w_while I μ hs n s' p.1 (by have := p.2; omega)
      | bk s' => exact p
      | rt r => exact p
    · rw [if_neg z] at p
      rw [if_neg z]
      exact p
end
end DK
set_option maxRecDepth 100000
set_option maxHeartbeats 2000000
/-! DK, sixth part: more steps. -/
namespace DK
open PySem PySem.Spec PyProof.Rows L2
section
variable {α β S R : Type} {K : PySem.W.Frag} {F H : Hp} {σ : Sg} {Q : VK} {D : Ends} {X : Xc → Option Int → Prop} {i j : Int} {v : V} {L : Addr} {vs : List V} {e : α → Dat} {zs : List α} {z : α} {P : β → Prop}
/-- a value of a plain kind, cut -/
theorem cutX {c : TE} {m : Rs α} {k : α → Rs β} (mk : α → V) (F H : Hp) (hm : Post (m.bnd k) P X)
    (h1 : ∀ Q' : VK, (∀ b F' H', Stp [] F H F' H' → Post (k b) P X → Q' (mk b) H') → Post m (fun b => Post (k b) P X) X → c σ H Q')
    (h2 : ∀ b F' H', Stp [] F H F' H' → Post (k b) P X → Q (mk b) H') : c σ H Q := h1 Q h2 hm.b
theorem sm_abs (k : Q (.int (i.natAbs : Nat)) H) : rAbsI [.int i] H Q := ⟨i, rfl, by
  rw [show (if i < 0 then -i else i) = ((i.natAbs : Nat) : Int) by split <;> omega]; exact k⟩
theorem sm_max2 (k : Q (.int (max i j)) H) : rMax2I [.int i, .int j] H Q := ⟨i, j, rfl, by
  rw [show (if j > i then j else i) = max i j by split <;> omega]; exact k⟩
theorem sm_min2 (k : Q (.int (min i j)) H) : rMin2I [.int i, .int j] H Q := ⟨i, j, rfl, by
  rw [show (if j < i then j else i) = min i j by split <;> omega]; exact k⟩
def maxR (xs : List Int) : Rs Int := match xs with
  | [] => .bad
  | x :: r => .ok (r.foldl max x)
def minR (xs : List Int) : Rs Int := match xs with
  | [] => .bad
  | x :: r => .ok (r.foldl min x)
theorem foldl_max : ∀ (r : List Int) (x : Int), (r.foldl max x ∈ x :: r) ∧ ∀ y ∈ x :: r, y ≤ r.foldl max x
  | [], x => by simp
  | a :: r, x => by
    obtain ⟨h1, h2⟩ := foldl_max r (max x a)
    rw [List.foldl_cons]
    constructor
    · rcases List.mem_cons.mp h1 with h | h
      · rw [h]
        by_cases z : a ≤ x
        · rw [Int.max_eq_left z]; exact List.mem_cons_self
        · rw [Int.max_eq_right (by omega)]; exact List.mem_cons_of_mem _ List.mem_cons_self
      · exact List.mem_cons_of_mem _ (List.mem_cons_of_mem _ h)
    · intro y hy
      have hb := h2 (max x a) List.mem_cons_self
      rcases List.mem_cons.mp hy with h | h
      · subst h; omega
      · rcases List.mem_cons.mp h with h | h
        · subst h; omega
        · exact h2 y (List.mem_cons_of_mem _ h)
theorem foldl_min : ∀ (r : List Int) (x : Int), (r.foldl min x ∈ x :: r) ∧ ∀ y ∈ x :: r, r.foldl min x ≤ y
  | [], x => by simp
  | a :: r, x => by
    obtain ⟨h1, h2⟩ := foldl_min r (min x a)
    rw [List.foldl_cons]
    constructor
    · rcases List.mem_cons.mp h1 with h | h
      · rw [h]
        by_cases z : x ≤ a
        · rw [Int.min_eq_left z]; exact List.mem_cons_self
        · rw [Int.min_eq_right (by omega)]; exact List.mem_cons_of_mem _ List.mem_cons_self
      · exact List.mem_cons_of_mem _ (List.mem_cons_of_mem _ h)
    · intro y hy
      have hb := h2 (min x a) List.mem_cons_self
      rcases List.mem_cons.mp hy with h | h
      · subst h; omega
      · rcases List.mem_cons.mp h with h | h
        · subst h; omega
        · exact h2 y (List.mem_cons_of_mem _ h)
theorem Post.mx {xs : List Int} {k : Int → Rs β} (h : Post ((maxR xs).bnd k) P X) : ∃ m, m ∈ xs ∧ (∀ y ∈ xs, y ≤ m) ∧ maxR xs = .ok m ∧ Post (k m) P X := by
  cases xs with
  | nil => exact h.elim
  | cons x r => exact ⟨_, (foldl_max r x).1, (foldl_max r x).2, rfl, h⟩
theorem Post.mn {xs : List Int} {k : Int → Rs β} (h : Post ((minR xs).bnd k) P X) : ∃ m, m ∈ xs ∧ (∀ y ∈ xs, m ≤ y) ∧ minR xs = .ok m ∧ Post (k m) P X := by
  cases xs with
  | nil => exact h.elim
  | cons x r => exact ⟨_, (foldl_min r x).1, (foldl_min r x).2, rfl, h⟩
theorem rd_ints {ns : List Int} (s : Same F H) (h : RD F (.lst (ns.map Dat.int)) v) : ∃ a, v = .ref a ∧ SqL K H a (ns.map V.int) := by
  obtain ⟨a, vs, rfl, h1, h2⟩ := h
  exact ⟨a, rfl, by rw [← RDs.ints h2]; exact same_l s h1⟩
theorem sm_maxL {ns : List Int} {m : Int} (s : Same F H) (h : RD F (.lst (ns.map Dat.int)) v) (h1 : m ∈ ns) (h2 : ∀ y ∈ ns, y ≤ m) (k : Q (.int m) H) : rMax K [v] H Q := by
  obtain ⟨a, rfl, q⟩ := rd_ints (K := K) s h
  refine ⟨a, ns, rfl, q, List.length_pos_of_mem h1, fun m' h3 h4 => ?_⟩
  rw [show m' = m from Int.le_antisymm (h2 m' h3) (h4 m h1)]; exact k
theorem sm_minL {ns : List Int} {m : Int} (s : Same F H) (h : RD F (.lst (ns.map Dat.int)) v) (h1 : m ∈ ns) (h2 : ∀ y ∈ ns, m ≤ y) (k : Q (.int m) H) : rMin K [v] H Q := by
  obtain ⟨a, rfl, q⟩ := rd_ints (K := K) s h
  refine ⟨a, ns, rfl, q, List.length_pos_of_mem h1, fun m' h3 h4 => ?_⟩
  rw [show m' = m from Int.le_antisymm (h4 m h1) (h2 m' h3)]; exact k
theorem sm_sumL {ns : List Int} (s : Same F H) (h : RD F (.lst (ns.map Dat.int)) v) (k : Q (.int ns.sum) H) : rSum K [v] H Q := by
  obtain ⟨a, rfl, q⟩ := rd_ints (K := K) s h
  exact ⟨a, ns, rfl, q, k⟩
theorem rd_bls {bs : List Bool} : ∀ {vs : List V}, RDs F (bs.map Dat.bl) vs → vs = bs.map V.bl := by
  induction bs with
  | nil => intro vs h; exact h
  | cons b bs ih =>
    intro vs h
    obtain ⟨u, r, rfl, h1, h2⟩ := h
    rw [show u = V.bl b from h1, ih h2]; rfl
theorem sm_allL {bs : List Bool} (s : Same F H) (h : RD F (.lst (bs.map Dat.bl)) v) (k : Q (.bl (bs.all id)) H) : rAll K [v] H Q := by
  obtain ⟨a, vs, rfl, h1, h2⟩ := h
  exact ⟨a, bs, rfl, by rw [← rd_bls h2]; exact same_l s h1, k⟩
/-- i in xs, of ints -/
theorem inV_int {i : Int} : ∀ {ns : List Int}, inV (.int i) (ns.map V.int) = decide (i ∈ ns) := by
  intro ns
  induction ns with
  | nil => simp [inV]
  | cons n ns ih =>
    have ih' : (ns.map V.int).any (fun y => eqV y (.int i)) = decide (i ∈ ns) := ih
    show ((V.int n :: ns.map V.int).any fun y => eqV y (.int i)) = _
    rw [List.any_cons, ih']
    show ((n == i) || _) = _
    by_cases z : n = i
    · subst z; simp
    · have : (n == i) = false := by simpa using z
      rw [this, Bool.false_or]
      have z2 : ¬ i = n := fun q => z q.symm
      simp [z2]
theorem sm_in {ns : List Int} {i : Int} (s : Same F H) (h : RD F (.lst (ns.map Dat.int)) v) (k : Q (.bl (decide (i ∈ ns))) H) : rIn K false (.int i) v H Q := by
  obtain ⟨a, rfl, q⟩ := rd_ints (K := K) s h
  refine ⟨a, _, rfl, .inl q, rfl, by simp [flatV], ?_⟩
  rw [if_neg (by decide), inV_int]; exact k
theorem sm_notin {ns : List Int} {i : Int} (s : Same F H) (h : RD F (.lst (ns.map Dat.int)) v) (k : Q (.bl (!decide (i ∈ ns))) H) : rIn K true (.int i) v H Q := by
  obtain ⟨a, rfl, q⟩ := rd_ints (K := K) s h
  refine ⟨a, _, rfl, .inl q, rfl, by simp [flatV], ?_⟩
  rw [if_pos rfl, inV_int]; exact k
/-- sorted(xs), of ints -/
theorem sm_sorted {ns : List Int} (s : Same F H) (h : RD F (.lst (ns.map Dat.int)) v) (k : ∀ (ms : List Int) u F' H', ms.Perm ns → ms.Pairwise (· ≤ ·) → Stp [] F H F' H' → RD F' (.lst (ms.map Dat.int)) u → Q u H') : rSortedI K [v] H Q := by
  obtain ⟨a, rfl, q⟩ := rd_ints (K := K) s h
  exact ⟨a, ns, rfl, q, fun ms p h1 h2 n => nw_lst s (RDs.of_ints ms) (fun u F' H' t r => k ms u F' H' h1 h2 t r) p n⟩
end
section
variable {fa : List He.Fa} {fn : List He.DefD} {K : PySem.W.Frag} {mg : Str → Option Value}
/-- a def with defaults, n arguments written, the defaults behind the first m fill up -/
theorem Facts.calD (T : Facts fa fn K mg) {P : Program} {w : World} {base : Heap} {k : Nat} {N ps : List Str} {sp : Sp} (i j n m : Nat) {d : He.DefD} {x : Str} {dvs : List V} (hi : fn[i]? = some d) (hd : d.at_ = (x, none)) (hdf : d.dvs K ≠ []) (hkw : d.kwd = []) (hj : fa[j]? = some (.glo x))
    (hv : (d.dvs K).drop m = dvs) (hn : n + ((d.dvs K).length - m) = ps.length)
    (S : FnScope N ps d.scope) (len : ∀ vs H Q E, sp vs H Q E → vs.length = ps.length)
    (hb : ∀ (T : Addr) (kV doc pm : Value) (an : Option Addr) (cdv ct : Value) (us its : List Value), us.length = n → its.length = (d.dvs K).length →
      ∃ k, bindArgs (PySem.W.fnOf d.name d.qual d.params d.body d.scope (.ref T) kV doc pm an cdv ct) ⟨us, []⟩ = seqItems? (.ref T) >>= k ∧ k (some its.toArray) = pure (ps.zip (us ++ its.drop m)))
    (hbody : ∀ (cdv : Value) (A : Around) (outer : List Env) (s : Shared) (H : Hp) (vs : List V) (Q : VK) (E : XK), Room k (A.deeper (envOfC d.qual d.scope s.heap.objs.size (He.ga K x) cdv)) → sp vs H Q E →
      ∃ t, PSs (cxOf (L2N.CX P w) P w K mg base N d.qual d.scope (He.ga K x) cdv A outer s H E) d.body t ∧ t { nx := fun _ H' => Q .non H', rt := Q } (start N vs) H) :
    CalDf P w K mg base x (k + 1) ps sp dvs := by
  obtain ⟨fd, F⟩ := T.says.def_ i hi
  have e1 : He.fAd K d.at_ = He.ga K x := by rw [hd]; rfl
  rw [e1] at F
  obtain ⟨ds, h1, h2⟩ := F.binds1 n m hdf hn hb
  rw [hv] at h1
  exact ⟨fd, ds, FunD.ok F S len hbody, T.glo j hj, F.kp, h1, h2⟩
theorem CalDf.full {P : Program} {w : World} {base : Heap} {x : Str} {k : Nat} {ps : List Str} {sp : Sp} (c : CalDf P w K mg base x k ps sp []) : CalOk P w K mg base x k ps sp := by
  obtain ⟨fd, ds, F, hm, hk, hv, hb⟩ := c
  cases hv
  exact ⟨fd, F, hm, hk, hb⟩
end
/-! ### comprehensions that change a list of ours -/
def mapS {α β S : Type} (f : S → α → Rs (Option β × S)) : List α → S → Rs (List β × S)
  | [], s => .ok ([], s)
  | x :: xs, s => (f s x).bnd fun o => (mapS f xs o.2).bnd fun r => .ok (match o.1 with | some y => (y :: r.1, r.2) | none => r)
section
variable {α β γ : Type} {K : PySem.W.Frag} {F H : Hp} {σ : Sg} {Q : VK} {X : Xc → Option Int → Prop} {f : List γ → α → Rs (Option β × List γ)} {zs : List α} {s0 : List γ} {g : TG} {tt : TT} {te : TE} {v : V} {e : α → Dat} {e2 : β → Dat} {e3 : γ → Dat} {a : Addr} {ws : List Nat}
theorem Post.maps {x : α} {xs : List α} {s : List γ} {P : List β × List γ → Prop} (h : Post (mapS f (x :: xs) s) P X) : Post (f s x) (fun o => Post (mapS f xs o.2) (fun r => P (match o.1 with | some y => (y :: r.1, r.2) | none => r)) X) X := by
  unfold mapS at h
  exact h.b.mono fun a p => p.b
/-- the list of ours at a bears s -/
abbrev Bear (e3 : γ → Dat) (a : Addr) (s : List γ) (F H : Hp) : Prop := ∃ w, Own F H a (.lst w) ∧ RDs F (s.map e3) w
abbrev LcTurnS (g : TG) (tt : TT) (te : TE) (ws : List Nat) (σ : Sg) (e2 : β → Dat) (e3 : γ → Dat) (a : Addr) (F1 H1 : Hp) (m : Rs (Option β × List γ)) (X : Xc → Option Int → Prop) (u : V) : Prop :=
  ∀ (PN : Option β × List γ → Prop) (NY : VK) (NN : Hp → Prop), (∀ y b s F4 H4 w, Stp [a] F1 H1 F4 H4 → Own F4 H4 a (.lst w) → RDs F4 (s.map e3) w → RD F4 (e2 b) y → PN (some b, s) → NY y H4) → (∀ s F4 H4 w, Stp [a] F1 H1 F4 H4 → Own F4 H4 a (.lst w) → RDs F4 (s.map e3) w → PN (none, s) → NN H4) → Post m PN X →
    g u (wipe σ ws) H1 fun σ2 H3 => wipe σ2 ws = wipe σ ws ∧ tt σ2 H3 fun b H4 => if b = true then te σ2 H4 NY else NN H4
theorem lcs_core {J : It} {n : Nat} {G : Hp → Prop} {Y : Nat → Hp → V → Hp → Prop} {P : List β × List γ → Prop} (w : Walk J n G Y) (hn : n = zs.length) (hz : zs.length ≤ 1000000) (s : Same F H) (b0 : Bear e3 a s0 F H) (hp : Post (mapS f zs s0) P X) (hG : ∀ F' H', Stp [a] F H F' H' → G H')
    (hs : ∀ (i : Nat) (x : α) (u : V) s F1 H1 H2, zs[i]? = some x → Stp [a] F H F1 H1 → Bear e3 a s F1 H1 → Y i H1 u H2 → H2 = H1 ∧ LcTurnS g tt te ws σ e2 e3 a F1 H1 (f s x) X u)
    (hd : ∀ L vs r s' F' H' w, Stp [a] F H F' H' → Own F' H' a (.lst w) → RDs F' (s'.map e3) w → Fre H L → Own F' H' L (.lst vs) → RDs F' (r.map e2) vs → P (r, s') → Q (.ref L) H') : LcOwes g tt te ws σ Q J H := by
  intro D nD
  obtain ⟨w0, o0, r0⟩ := b0
  have aD : a ≠ D := o0.ne nD
  have sub : ∀ {F1 H1 : Hp}, Stp [a] F H F1 H1 → ∀ q ∈ [a], q ∈ [a] ∨ H q = none := fun _ q hq => .inl hq
  refine lc_it w (fun i H' => ∃ F' acc rr s1, Stp [a] F H F' H' ∧ Own F' H' D (.lst acc) ∧ RDs F' (rr.map e2) acc ∧ Bear e3 a s1 F' H' ∧ acc.length ≤ i ∧ Post (mapS f (zs.drop i) s1) (fun r => P (rr ++ r.1, r.2)) X) ?_ ?_ ?_ ?_
  · have t0 : Stp [a] F H F (upd H D (.lst [])) := by
      have t := Stp.newO (S := [a]) (o := .lst []) s nD
      exact t
    exact ⟨F, [], [], s0, t0, ⟨s.free nD, upd_same, trivial⟩, RDs.nil, ⟨w0, (Stp.newO (S := []) s nD).keep (by simp) o0, r0⟩, Nat.le_refl _, hp⟩
  · rintro i H' _ ⟨F', _, _, _, t, _⟩
    exact hG F' H' t
  · rintro i u H1 H2 hi ⟨F1, acc, rr, s1, t, o, hr, hB, hl, p⟩ y
    have hlt : i < zs.length := hn ▸ hi
    rw [List.drop_eq_getElem_cons hlt] at p
    obtain ⟨rfl, T⟩ := hs i zs[i] u s1 F1 H1 H2 (List.getElem?_eq_getElem hlt) t hB y
    have Da : D ∉ [a] := by simpa using aD.symm
    refine T _ _ _ ?_ ?_ p.maps
    · rintro y b s2 F4 H4 w4 t4 oa ra hy q
      have o4 := t4.keep Da o
      refine ⟨acc, o4.h, sz_lt (by omega), ?_⟩
      have tp : Stp [D] F4 H4 F4 (upd H4 D (.lst (acc ++ [y]))) := Stp.put t4.inn o4
      refine ⟨F4, acc ++ [y], rr ++ [b], s2, (t.trans t4 (fun q hq => .inl hq)).trans tp (sub_new nD sub_nil), ⟨o4.f, upd_same, trivial⟩, ?_, ⟨w4, tp.keep (by simpa using aD) oa, ra⟩, ?_, ?_⟩
      · rw [List.map_append]
        exact (t4.ups hr).snoc hy
      · rw [List.length_append]; simp; omega
      · exact q.mono fun r z => by rw [List.append_assoc]; exact z
    · rintro s2 F4 H4 w4 t4 oa ra q
      exact ⟨F4, acc, rr, s2, t.trans t4 (fun q hq => .inl hq), t4.keep Da o, t4.ups hr, ⟨w4, oa, ra⟩, by omega, q⟩
  · rintro H' ⟨F', acc, rr, s1, t, o, hr, ⟨w1, oa, ra⟩, _, p⟩
    rw [hn, List.drop_length] at p
    have p' : P (rr ++ [], s1) := p
    rw [List.append_nil] at p'
    exact hd D acc rr s1 F' H' w1 t oa ra nD o hr p'
theorem lcs_R1 {hi : Int} {P : List β × List γ → Prop} {f : List γ → Int → Rs (Option β × List γ)} (hb : rngOk 0 hi = true) (s : Same F H) (hz : (hi - 0).toNat ≤ 1000000) (b0 : Bear e3 a s0 F H) (hp : Post (mapS f (rngI 0 hi) s0) P X)
    (hs : ∀ (x : Int) s F1 H1, Stp [a] F H F1 H1 → Bear e3 a s F1 H1 → LcTurnS g tt te ws σ e2 e3 a F1 H1 (f s x) X (.int x))
    (hd : ∀ L vs r s' F' H' w, Stp [a] F H F' H' → Own F' H' a (.lst w) → RDs F' (s'.map e3) w → Fre H L → Own F' H' L (.lst vs) → RDs F' (r.map e2) vs → P (r, s') → Q (.ref L) H') : ∃ j : Int, [V.int hi] = [.int j] ∧ -(2 ^ 62) ≤ j ∧ j < 2 ^ 62 ∧ LcOwes g tt te ws σ Q (Itr 0 j.toNat) H := by
  have hb := rngOk.b hb
  refine ⟨hi, rfl, by omega, by omega, lcs_core (zs := rngI 0 hi) (walk_range (lo := 0) (n := hi.toNat)) (by simp [rngI]) (by simpa [rngI] using hz) s b0 hp (fun _ _ _ => trivial) ?_ hd⟩
  rintro i x u s1 F1 H1 H2 hx t hB ⟨rfl, rfl⟩
  have := rngI_at hx
  subst this
  exact ⟨rfl, hs _ s1 F1 _ t hB⟩
theorem lcs_L {P : List β × List γ → Prop} (h : RD F (.lst (zs.map e)) v) (s : Same F H) (hz : zs.length ≤ 1000000) (b0 : Bear e3 a s0 F H) (hp : Post (mapS f zs s0) P X)
    (hs : ∀ (x : α) (u : V) s F1 H1, RD F1 (e x) u → Stp [a] F H F1 H1 → Bear e3 a s F1 H1 → LcTurnS g tt te ws σ e2 e3 a F1 H1 (f s x) X u)
    (hd : ∀ L vs r s' F' H' w, Stp [a] F H F' H' → Own F' H' a (.lst w) → RDs F' (s'.map e3) w → Fre H L → Own F' H' L (.lst vs) → RDs F' (r.map e2) vs → P (r, s') → Q (.ref L) H') : ∃ a, v = .ref a ∧ (∃ xs, SqL K H a xs) ∧ LcOwes g tt te ws σ Q (Itl K a) H := by
  obtain ⟨b, vs, rfl, h1, h2⟩ := h
  refine ⟨b, rfl, ⟨vs, same_l s h1⟩, lcs_core (walk_list (xs := vs)) (by rw [h2.len, List.length_map]) hz s b0 hp (fun F' H' t => same_l (t.ex.trans t.inn) h1) ?_ hd⟩
  rintro i x u s1 F1 H1 H2 hx t hB ⟨rfl, hu⟩
  obtain ⟨d, hd, r⟩ := h2.of_at hu
  rw [List.getElem?_map, hx] at hd
  cases hd
  exact ⟨rfl, hs x u s1 F1 _ (r.up t.ex) t hB⟩
/-- a slice of the script -/
theorem sm_slS {ns : List Int} {lo hi : Option Int} (s : Same F H) (h : Scr K F v ns) (k : ∀ u F' H', Stp [] F H F' H' → RD F' (.lst ((cutL ns lo hi).map Dat.int)) u → Q u H') : rSlU K v lo hi H Q := by
  obtain ⟨a, rfl, q⟩ := h.at_
  exact .inl ⟨a, _, rfl, Same.seq s q, nw_lst s (cutV_RDs (RDs.of_ints ns)) k⟩
end
end DK
set_option maxRecDepth 100000
set_option maxHeartbeats 2000000
/-! DK, seventh part: dicts of ints as sets; sorting. -/
namespace DK
open PySem PySem.Spec PyProof.Rows L2
abbrev dsK (zs : List Int) : List (Key × V) := zs.map fun i => (.inl i, V.bl true)
def putS (zs : List Int) (i : Int) : List Int := if i ∈ zs then zs else zs ++ [i]
theorem putK_ds (zs : List Int) (i : Int) : putK (dsK zs) (.inl i) (.bl true) = dsK (putS zs i) := by
  unfold putK putS
  have e : ((dsK zs).any fun kv => decide (kv.1 = .inl i)) = decide (i ∈ zs) := by
    rw [List.any_map]
    induction zs with
    | nil => simp
    | cons z zs ih =>
      rw [List.any_cons, ih]
      by_cases h : z = i
      · subst h; simp
      · have h2 : ¬ i = z := fun q => h q.symm
        simp [h, h2]
  rw [e]
  by_cases h : i ∈ zs
  · rw [if_pos (by simpa using h), if_pos h, List.map_map]
    apply List.map_congr_left
    intro z _
    show (if (Sum.inl z : Key) = .inl i then _ else _) = _
    by_cases q : (Sum.inl z : Key) = .inl i
    · rw [if_pos q]
    · rw [if_neg q]
  · rw [if_neg (by simpa using h), if_neg h]
    simp
theorem sortI_ex (ns : List Int) : ∃ ms : List Int, ms.Perm ns ∧ ms.Pairwise (· ≤ ·) :=
  ⟨ns.mergeSort (fun a b => decide (a ≤ b)), List.mergeSort_perm _ _, by
    have := List.pairwise_mergeSort (le := fun (a b : Int) => decide (a ≤ b)) (fun a b c h1 h2 => by simp only [decide_eq_true_eq] at *; omega) (fun a b => by simp only [Bool.or_eq_true, decide_eq_true_eq]; omega) ns
    exact this.imp fun h => by simpa using h⟩
def sortI (ns : List Int) : List Int := ns.mergeSort fun a b => decide (a ≤ b)
theorem sortI_perm (ns : List Int) : (sortI ns).Perm ns := List.mergeSort_perm _ _
theorem sortI_asc (ns : List Int) : (sortI ns).Pairwise (· ≤ ·) := by
  have := List.pairwise_mergeSort (le := fun (a b : Int) => decide (a ≤ b)) (fun a b c h1 h2 => by simp only [decide_eq_true_eq] at *; omega) (fun a b => by simp only [Bool.or_eq_true, decide_eq_true_eq]; omega) ns
  exact this.imp fun h => by simpa using h
theorem asc_eq : ∀ {xs ys : List Int}, xs.Perm ys → xs.Pairwise (· ≤ ·) → ys.Pairwise (· ≤ ·) → xs = ys := fun {xs ys} p h1 h2 =>
  p.eq_of_pairwise (fun a b _ _ x y => Int.le_antisymm x y) h1 h2
section
variable {K : PySem.W.Frag} {F H : Hp} {σ : Sg} {Q : VK} {D : Ends} {X : Xc → Option Int → Prop} {i j : Int} {v : V} {L : Addr} {zs : List Int}
theorem sm_sortI {ns : List Int} (s : Same F H) (h : RD F (.lst (ns.map Dat.int)) v) (k : ∀ u F' H', Stp [] F H F' H' → RD F' (.lst ((sortI ns).map Dat.int)) u → Q u H') : rSortedI K [v] H Q :=
  sm_sorted s h fun ms u F' H' h1 h2 t r => k u F' H' t (by rw [← asc_eq (h1.trans (sortI_perm ns).symm) h2 (sortI_asc ns)]; exact r)
theorem st_dput {td ty tv : TE} (k : tv σ H fun v H1 => td σ H1 fun x H2 => ty σ H2 fun y H3 => ∃ a H4, x = .ref a ∧ DPut H3 a y v H4 ∧ D.nx σ H4) : sDPut td ty tv D σ H := k
theorem sm_dput {P : Hp → Prop} (s : Same F H) (o : Own F H L (.dK (dsK zs))) (hl : zs.length < 1000000) (k : ∀ F' H', Stp [L] F H F' H' → Own F' H' L (.dK (dsK (putS zs i))) → P H') :
    ∃ a H4, V.ref L = .ref a ∧ DPut H a (.int i) (.bl true) H4 ∧ P H4 :=
  ⟨L, _, rfl, DPut.k (k := .inl i) o.h (sz_lt (by rw [List.length_map]; exact hl)), k _ _ (Stp.put s o) ⟨o.f, by rw [upd_same, putK_ds], trivial⟩⟩
theorem sm_disp2 {ta tb : TE} (s : Same F H) (h1 : ∀ H Q, Q (.int i) H → ta σ H Q) (h2 : ∀ H Q, Q (.int j) H → tb σ H Q) (k : ∀ L F' H', Stp [] F H F' H' → Fre H L → Own F' H' L (.dK (dsK (putS [i] j))) → Q (.ref L) H') :
    tDisp [(ta, tC (.bl true)), (tb, tC (.bl true))] σ H Q := by
  intro p n
  refine h1 _ _ ?_
  refine h2 _ _ ?_
  refine ⟨upd_same, [(.inl i, .bl true), (.inl j, .bl true)], rfl, by simp, ?_⟩
  have t1 : Stp [] F H F (upd H p (.dK [])) := Stp.newO s n
  have o1 : Own F (upd H p (.dK [])) p (.dK []) := ⟨s.free n, upd_same, trivial⟩
  have t2 : Stp [p] F (upd H p (.dK [])) F (upd (upd H p (.dK [])) p (.dK (mergeK [] [(.inl i, .bl true), (.inl j, .bl true)]))) := Stp.put t1.inn o1
  refine k p F _ (t1.trans t2 (sub_new n sub_nil)) n ⟨s.free n, ?_, trivial⟩
  rw [upd_same]
  have e : mergeK [] [(.inl i, .bl true), (.inl j, .bl true)] = dsK (putS [i] j) := by
    rw [← putK_ds]; rfl
  rw [e]
theorem sm_lstD (s : Same F H) (o : Own F H L (.dK (dsK zs))) (k : ∀ u F' H', Stp [] F H F' H' → RD F' (.lst (zs.map Dat.int)) u → Q u H') : rListD [.ref L] H Q :=
  ⟨L, _, rfl, o.h, nw_lst s (ds := zs.map Dat.int) (by
    rw [List.map_map]
    exact RDs.of_ints zs) k⟩
end
end DK
set_option maxRecDepth 100000
set_option maxHeartbeats 2000000
/-! DK, eighth part: more steps. -/
namespace DK
open PySem PySem.Spec PyProof.Rows L2
section
variable {α : Type} {K : PySem.W.Frag} {F H : Hp} {σ : Sg} {Q : VK} {D : Ends} {v : V} {L : Addr} {vs : List V} {e : α → Dat} {zs ys : List α}
/-- made.extend(xs) -/
theorem sm_ext (s : Same F H) (o : Own F H L (.lst vs)) (hd : RDs F (zs.map e) vs) (h : RD F (.lst (ys.map e)) v) (z : zs.length + ys.length ≤ 1000000)
    (k : ∀ ws F' H', Stp [L] F H F' H' → Own F' H' L (.lst ws) → RDs F' ((zs ++ ys).map e) ws → Q .non H') : rExtend (.ref L) [v] H Q := by
  obtain ⟨b, ws, rfl, h1, h2⟩ := h
  have l1 : vs.length = zs.length := by rw [hd.len, List.length_map]
  have l2 : ws.length = ys.length := by rw [h2.len, List.length_map]
  have t : Stp [L] F H F (upd H L (.lst (vs ++ ws))) := Stp.put s o
  refine ⟨L, b, vs, ws, rfl, rfl, o.h, s b _ h1, sz_le (by omega), k _ F _ t ⟨o.f, upd_same, trivial⟩ ?_⟩
  rw [List.map_append]
  exact hd.app h2
/-- a, b = x, y: names -/
theorem st_par {i j : Nat} {t : TA} (k : t σ H fun vs H1 => ∃ x y, vs = [x, y] ∧ D.nx ((σ.set i (some x)).set j (some y)) H1) : tPar i j t D σ H := k
theorem st_parx {i j : Nat} {x y : V} {σ' : Sg} {N : Sg → Hp → Prop} (e : (σ.set i (some x)).set j (some y) = σ') (k : N σ' H) : ∃ x' y', [x, y] = [x', y'] ∧ N ((σ.set i (some x')).set j (some y')) H := ⟨x, y, rfl, by rw [e]; exact k⟩
end
end DK
set_option maxRecDepth 100000
set_option maxHeartbeats 2000000
/-! DK, ninth part: equality of data, isinstance, own lists lent to a call. -/
namespace DK
open PySem PySem.Spec PyProof.Rows L2
/-! ### more facts of the top -/
/-- an exception class of ours over ValueError -/
def oexIn (K : PySem.W.Frag) (C : Addr) : Bool := match K.lookup C with
  | some ⟨.type "type", _, .cls cd, sl⟩ => (match cd.mro, sl.toList with
    | .ref C' :: bm, [_, _, _, _, some (.builtin n), _] => C' == C && (n == "ValueError.__new__" && (!cd.hasDel && (cd.hasDict && PySem.HandSPX.refsVE bm)))
    | _, _ => false)
  | _ => false
inductive Fb where
  | oex (x : Str)
  | isi (x y : Str) (b : Bool)
  | isb (x : Str) (t : String) (b : Bool)
  | ins (x : Str)
  | exi (x : Str)
  | mko (x : Str)
def Fb.ok (K : PySem.W.Frag) : Fb → Bool
  | .oex x => oexIn K (He.ga K x) && (decide (PySem.W.findIn K (.ref (He.ga K x)) "__setattr__" = some (some (.builtin "object.__setattr__"))) &&
      (decide (PySem.W.subIn K (.ref (He.ga K x)) (.type "BaseException") = some true) && (decide (PySem.W.typeIn K (.ref (He.ga K x)) = some (.type "type")) && (PySem.W.keepIn K (.ref (He.ga K x)) &&
      (decide (PySem.W.findIn K (.ref (He.ga K x)) "__init__" = some (some (.ref (He.ma K (He.ga K x) "__init__")))) && (decide (PySem.W.typeIn K (.ref (He.ma K (He.ga K x) "__init__")) = some (.type "function")) &&
      decide (PySem.W.findIn K (.ref (He.ga K x)) "line" = some none)))))))
  | .isi x y b => decide (PySem.W.kitOne K (.ref (He.ga K x)) (.ref (He.ga K y)) = some b)
  | .isb x t b => decide (PySem.W.kitOne K (.ref (He.ga K x)) (.type t) = some b)
  | .ins x => decide (PySem.W.findIn K (.ref (He.ga K x)) "__class__" = some (some (.builtin "object.__class__"))) &&
      (decide (PySem.W.specialIn K (.builtin "object.__class__") "__get__" = some (some (.builtin "getset_descriptor.__get__"))) &&
      (decide (PySem.W.takesIn K (.builtin "object.__class__") = some true) && decide (PySem.W.mroIn K (He.ga K x) (.type "object") = some true)))
  | .exi x => decide (PySem.W.findIn K (.ref (He.ga K x)) "__getattribute__" = some (some (.builtin "BaseException.__getattribute__"))) &&
      (decide (PySem.W.findIn K (.ref (He.ga K x)) "__getattr__" = some none) && (decide (PySem.W.subIn K (.ref (He.ga K x)) (.type "BaseException") = some true) && (PySem.W.hasDictIn K (He.ga K x) &&
      (decide (PySem.W.findIn K (.ref (He.ga K x)) "__class__" = some (some (.builtin "object.__class__"))) &&
      (decide (PySem.W.specialIn K (.builtin "object.__class__") "__get__" = some (some (.builtin "getset_descriptor.__get__"))) &&
      (decide (PySem.W.takesIn K (.builtin "object.__class__") = some true) && decide (PySem.W.mroIn K (He.ga K x) (.type "object") = some true)))))))
  | .mko x => PySem.W.makesIn K (He.ga K x) && (decide (PySem.W.findIn K (.ref (He.ga K x)) "__init__" = some (some (.builtin "object.__init__"))) && PySem.W.keepIn K (.ref (He.ga K x)))
def obsF (fa : List He.Fa) (fb : List Fb) (fn : List He.DefD) (K : PySem.W.Frag) : He.AlD := (fb.all (fun f => f.ok K) && (He.obsD fa fn K).1, (He.obsD fa fn K).2)
def SaysF (fa : List He.Fa) (fb : List Fb) (fn : List He.DefD) (K : PySem.W.Frag) : Prop := obsF fa fb fn K = He.valD fn
theorem SaysF.d {fa : List He.Fa} {fb : List Fb} {fn : List He.DefD} {K : PySem.W.Frag} (h : SaysF fa fb fn K) : He.SaysD fa fn K := by
  have h1 := (He.ba (congrArg (fun z : He.AlD => z.1) h)).2
  have h2 := congrArg (fun z : He.AlD => z.2) h
  exact Prod.ext h1 h2
theorem SaysF.f {fa : List He.Fa} {fb : List Fb} {fn : List He.DefD} {K : PySem.W.Frag} (h : SaysF fa fb fn K) (i : Nat) {f : Fb} (e : fb[i]? = some f) : f.ok K = true :=
  List.all_eq_true.mp (He.ba (congrArg (fun z : He.AlD => z.1) h)).1 f (List.mem_of_getElem? e)
def obsFG (n : Nat) (fa : List He.Fa) (fb : List Fb) (fn : List He.DefD) (g : Addr → Option Obj) : He.AlD := obsF fa fb fn (He.frG g (He.asD g n))
def hookF (n : Nat) (fa : List He.Fa) (fb : List Fb) (fn : List He.DefD) : PySem.W.Hook where
  α := He.AlD
  obs := fun s => obsFG n fa fb fn s.heap.get?
  val := fun _ => He.valD fn
  says := fun _ h => ∃ K : PySem.W.Frag, K.In h ∧ SaysF fa fb fn K
  of := fun _ _ e => ⟨_, He.frG_in, e⟩
  keeps := fun _ _ _ ⟨K, hK, c⟩ k => ⟨K, PySem.W.Frag.In.keeps hK k, c⟩
theorem obsFG_eq {n : Nat} {fa : List He.Fa} {fb : List Fb} {fn : List He.DefD} {g : Addr → Option Obj} {s : Shared} (h : ∀ a, g a = s.heap.get? a) : obsFG n fa fb fn g = (hookF n fa fb fn).obs s := by
  have e : g = s.heap.get? := funext h
  rw [e]; rfl
structure FactsB (fa : List He.Fa) (fb : List Fb) (fn : List He.DefD) (K : PySem.W.Frag) (mg : Str → Option Value) : Prop extends Facts fa fn K mg where
  more : ∀ (i : Nat) (f : Fb), fb[i]? = some f → f.ok K = true
theorem FactsB.mk' {fa : List He.Fa} {fb : List Fb} {fn : List He.DefD} {K : PySem.W.Frag} {mg : Str → Option Value} {h : Heap} (c : SaysF fa fb fn K) (X : K.In h) (G : h.Ns mainGlobals mg) : FactsB fa fb fn K mg :=
  ⟨⟨c.d, h, X, G⟩, fun i f e => c.f i e⟩
section
variable {fa : List He.Fa} {fb : List Fb} {fn : List He.DefD} {K : PySem.W.Frag} {mg : Str → Option Value}
theorem FactsB.isi (T : FactsB fa fb fn K mg) (i : Nat) {x y : Str} {b : Bool} (h : fb[i]? = some (.isi x y b) := by rfl) : PySem.W.kitOne K (.ref (He.ga K x)) (.ref (He.ga K y)) = some b := of_decide_eq_true (T.more i _ h)
theorem FactsB.isb (T : FactsB fa fb fn K mg) (i : Nat) {x : Str} {t : String} {b : Bool} (h : fb[i]? = some (.isb x t b) := by rfl) : PySem.W.kitOne K (.ref (He.ga K x)) (.type t) = some b := of_decide_eq_true (T.more i _ h)
structure InsC (K : PySem.W.Frag) (C : Addr) : Prop where
  ha : PySem.W.findIn K (.ref C) "__class__" = some (some (.builtin "object.__class__"))
  hn : PySem.W.specialIn K (.builtin "object.__class__") "__get__" = some (some (.builtin "getset_descriptor.__get__"))
  ht : PySem.W.takesIn K (.builtin "object.__class__") = some true
  hm : PySem.W.mroIn K C (.type "object") = some true
theorem FactsB.ins (T : FactsB fa fb fn K mg) (i : Nat) {x : Str} (h : fb[i]? = some (.ins x) := by rfl) : InsC K (He.ga K x) := by
  obtain ⟨h1, h2⟩ := He.ba (T.more i _ h)
  obtain ⟨h2, h3⟩ := He.ba h2
  obtain ⟨h3, h4⟩ := He.ba h3
  exact ⟨of_decide_eq_true h1, of_decide_eq_true h2, of_decide_eq_true h3, of_decide_eq_true h4⟩
end

/-! ### plain data -/
mutual
def toPy : Dat → PyData
  | .non => .none
  | .bl b => .bool b
  | .int i => .int i
  | .str s => .str s
  | .lst ds => .list (toPys ds)
  | .tup ds => .tuple (toPys ds)
  | .obj _ _ _ => .none
  | .exc _ _ => .none
  | .dct _ => .none
def toPys : List Dat → List PyData
  | [] => []
  | d :: ds => toPy d :: toPys ds
end
mutual
def dep : Dat → Nat
  | .lst ds => deps ds + 1
  | .tup ds => deps ds + 1
  | .obj _ _ _ => 1000
  | .exc _ _ => 1000
  | .dct _ => 1000
  | .str _ => 1
  | .int _ => 1
  | .non => 1
  | .bl _ => 1
def deps : List Dat → Nat
  | [] => 0
  | d :: ds => max (dep d) (deps ds)
end
mutual
/-- no text within -/
def noS : Dat → Bool
  | .lst ds => noSs ds
  | .tup ds => noSs ds
  | .str _ => false
  | _ => true
def noSs : List Dat → Bool
  | [] => true
  | d :: ds => noS d && noSs ds
end
mutual
/-- the longest sequence within -/
def wid : Dat → Nat
  | .lst ds => max ds.length (wids ds)
  | .tup ds => max ds.length (wids ds)
  | .obj _ _ _ => 0
  | .exc _ _ => 0
  | .dct _ => 0
  | .str _ => 0
  | .int _ => 0
  | .non => 0
  | .bl _ => 0
def wids : List Dat → Nat
  | [] => 0
  | d :: ds => max (wid d) (wids ds)
end
theorem wids_mem : ∀ {ds : List Dat} {d : Dat}, d ∈ ds → wid d ≤ wids ds
  | e :: ds, d, h => by
    simp only [wids]
    rcases List.mem_cons.mp h with q | q
    · subst q; omega
    · have := wids_mem q; omega
theorem deps_mem : ∀ {ds : List Dat} {d : Dat}, d ∈ ds → dep d ≤ deps ds
  | e :: ds, d, h => by
    simp only [deps]
    rcases List.mem_cons.mp h with q | q
    · subst q; omega
    · have := deps_mem q; omega
theorem wids_map {α : Type} {e : α → Dat} {n : Nat} : ∀ {xs : List α}, (∀ x ∈ xs, wid (e x) ≤ n) → wids (xs.map e) ≤ n
  | [], _ => by simp [wids]
  | x :: xs, h => by
    have h1 := h x List.mem_cons_self
    have h2 := wids_map (xs := xs) fun y hy => h y (List.mem_cons_of_mem _ hy)
    rw [List.map_cons]
    simp only [wids]
    omega
theorem dep_pos : ∀ d, 1 ≤ dep d
  | .lst _ => by simp only [dep]; omega
  | .tup _ => by simp only [dep]; omega
  | .obj _ _ _ => by simp only [dep]; omega
  | .exc _ _ => by simp only [dep]; omega
  | .dct _ => by simp only [dep]; omega
  | .str _ => by simp only [dep]; omega
  | .int _ => by simp only [dep]; omega
  | .non => by simp only [dep]; omega
  | .bl _ => by simp only [dep]; omega
mutual
theorem py_depth : ∀ d, (toPy d).depth ≤ dep d
  | .lst ds => by simp only [toPy, dep, PyData.depth]; have := pys_depth ds; omega
  | .tup ds => by simp only [toPy, dep, PyData.depth]; have := pys_depth ds; omega
  | .obj _ _ _ => by simp only [toPy, dep, PyData.depth]; omega
  | .exc _ _ => by simp only [toPy, dep, PyData.depth]; omega
  | .dct _ => by simp only [toPy, dep, PyData.depth]; omega
  | .str _ => by simp only [toPy, dep, PyData.depth]; omega
  | .int _ => by simp only [toPy, dep, PyData.depth]; omega
  | .non => by simp only [toPy, dep, PyData.depth]; omega
  | .bl _ => by simp only [toPy, dep, PyData.depth]; omega
theorem pys_depth : ∀ ds, PyData.depthAll (toPys ds) ≤ deps ds
  | [] => by simp [toPys, deps, PyData.depthAll]
  | d :: ds => by simp only [toPys, deps, PyData.depthAll]; have := py_depth d; have := pys_depth ds; omega
end
mutual
theorem py_can : ∀ d, noS d = true → (toPy d).canLay0 = true
  | .lst ds, h => by simp only [toPy, PyData.canLay0]; exact pys_can ds (by simpa [noS] using h)
  | .tup ds, h => by simp only [toPy, PyData.canLay0]; exact pys_can ds (by simpa [noS] using h)
  | .obj _ _ _, _ => by simp only [toPy, PyData.canLay0]
  | .exc _ _, _ => by simp only [toPy, PyData.canLay0]
  | .dct _, _ => by simp only [toPy, PyData.canLay0]
  | .str _, h => by simp [noS] at h
  | .int _, _ => by simp only [toPy, PyData.canLay0]
  | .non, _ => by simp only [toPy, PyData.canLay0]
  | .bl _, _ => by simp only [toPy, PyData.canLay0]
theorem pys_can : ∀ ds, noSs ds = true → PyData.canLayAll0 (toPys ds) = true
  | [], _ => by simp only [toPys, PyData.canLayAll0]
  | d :: ds, h => by
    simp only [noSs, Bool.and_eq_true] at h
    simp only [toPys, PyData.canLayAll0, py_can d h.1, pys_can ds h.2, Bool.and_self]
end
/-- plain data for Python's ==: no text, no instance, depth at most 60 -/
def Pl (d : Dat) : Prop := noS d = true ∧ dep d ≤ 60
theorem Pl.shaped {d : Dat} (h : Pl d) : SeqAt.shaped (toPy d) = true := by
  unfold SeqAt.shaped
  rw [py_can d h.1, Bool.true_and, decide_eq_true_eq]
  have := py_depth d
  have := h.2
  omega
mutual
theorem RD.dp {K : PySem.W.Frag} {F H : Hp} (s : Same F H) : ∀ {d : Dat} {v : V}, RD F d v → dep d ≤ 900 → Dp K H v (toPy d)
  | .non, v, h, _ => by rw [show v = V.non from h]; simp only [toPy]; exact .non
  | .bl b, v, h, _ => by rw [show v = V.bl b from h]; simp only [toPy]; exact .bl b
  | .int i, v, h, _ => by rw [show v = V.int i from h]; simp only [toPy]; exact .int i
  | .str x, v, h, _ => by rw [show v = V.str x from h]; simp only [toPy]; exact .str x
  | .lst ds, v, h, z => by
    obtain ⟨a, vs, rfl, h1, h2⟩ := h
    simp only [toPy]
    simp only [dep] at z
    exact .lst (same_l s h1) (RDs.dp s h2 (by omega))
  | .tup ds, v, h, z => by
    obtain ⟨a, vs, rfl, h1, h2⟩ := h
    simp only [toPy]
    simp only [dep] at z
    exact .tup (same_t s h1) (RDs.dp s h2 (by omega))
  | .obj _ _ _, v, h, z => by simp only [dep] at z; omega
  | .exc _ _, v, h, z => by simp only [dep] at z; omega
  | .dct _, v, h, z => by simp only [dep] at z; omega
theorem RDs.dp {K : PySem.W.Frag} {F H : Hp} (s : Same F H) : ∀ {ds : List Dat} {vs : List V}, RDs F ds vs → deps ds ≤ 900 → DpAll K H vs (toPys ds)
  | [], vs, h, _ => by rw [show vs = [] from h]; simp only [toPys]; exact .nil
  | d :: ds, vs, h, z => by
    obtain ⟨v, r, rfl, h1, h2⟩ := h
    simp only [toPys]
    simp only [deps] at z
    exact .cons (RD.dp s h1 (by omega)) (RDs.dp s h2 (by omega))
end
/-- x == y, x != y of data -/
def datEq (d e : Dat) : Bool := PyData.eqv (toPy d) (toPy e)
section
variable {α β γ : Type} {K : PySem.W.Frag} {F H : Hp} {σ : Sg} {Q : VK} {D : Ends} {u v : V} {L : Addr} {vs : List V} {e : α → Dat} {zs ys : List α} {d d' : Dat}
theorem sm_eqD (s : Same F H) (h1 : RD F d u) (h2 : RD F d' v) (p1 : Pl d) (p2 : Pl d') (k : Q (.bl (datEq d d')) H) : rEqU K u v H Q :=
  .inr ⟨_, _, RD.dp s h1 (by have := p1.2; omega), RD.dp s h2 (by have := p2.2; omega), p1.shaped, p2.shaped, k⟩
theorem sm_neD (s : Same F H) (h1 : RD F d u) (h2 : RD F d' v) (p1 : Pl d) (p2 : Pl d') (k : Q (.bl (!datEq d d')) H) : rNeU K u v H Q :=
  .inr ⟨_, _, RD.dp s h1 (by have := p1.2; omega), RD.dp s h2 (by have := p2.2; omega), p1.shaped, p2.shaped, k⟩
/-- the kinds of data of a type -/
def PlE (n : Nat) (e : α → Dat) : Prop := ∀ x, noS (e x) = true ∧ dep (e x) ≤ n
theorem PlE.pl (h : PlE n e) (hn : n ≤ 60) (x : α) : Pl (e x) := ⟨(h x).1, Nat.le_trans (h x).2 hn⟩
theorem PlE.int : PlE 1 Dat.int := fun x => ⟨by simp only [noS], by simp only [dep]; omega⟩
theorem PlE.bl : PlE 1 Dat.bl := fun x => ⟨by simp only [noS], by simp only [dep]; omega⟩
theorem PlE.maps {n : Nat} (h : PlE n e) : ∀ xs : List α, noSs (xs.map e) = true ∧ deps (xs.map e) ≤ n
  | [] => by simp [noSs, deps]
  | x :: xs => by
    obtain ⟨h1, h2⟩ := PlE.maps h xs
    obtain ⟨h3, h4⟩ := h x
    rw [List.map_cons]
    simp only [noSs, deps, h1, h3, Bool.and_self, true_and]
    omega
theorem PlE.eL {n : Nat} (h : PlE n e) : PlE (n + 1) (eL e) := fun xs => by
  obtain ⟨h1, h2⟩ := h.maps xs
  simp only [DK.eL, noS, dep, h1, true_and]; omega
theorem PlE.eT {n : Nat} (h : PlE n e) : PlE (n + 1) (eT e) := fun xs => by
  obtain ⟨h1, h2⟩ := h.maps xs
  simp only [DK.eT, noS, dep, h1, true_and]; omega
theorem PlE.eQ {n : Nat} {b : Bool} (h : PlE n e) : PlE (n + 1) (eQ b e) := fun xs => by
  cases b with
  | true => exact PlE.eT h xs
  | false => exact PlE.eL h xs
theorem PlE.eP {n m : Nat} {g : β → Dat} (h : PlE n e) (h' : PlE m g) : PlE (max n m + 1) (eP e g) := fun p => by
  obtain ⟨h1, h2⟩ := h p.1
  obtain ⟨h3, h4⟩ := h' p.2
  simp only [DK.eP, noS, noSs, dep, deps, h1, h3, Bool.and_self, true_and]; omega
theorem PlE.eP3 {n m l : Nat} {g : β → Dat} {f : γ → Dat} (h : PlE n e) (h' : PlE m g) (h'' : PlE l f) : PlE (max n (max m l) + 1) (eP3 e g f) := fun p => by
  obtain ⟨h1, h2⟩ := h p.1
  obtain ⟨h3, h4⟩ := h' p.2.1
  obtain ⟨h5, h6⟩ := h'' p.2.2
  simp only [DK.eP3, noS, noSs, dep, deps, h1, h3, h5, Bool.and_self, true_and]; omega
theorem PlE.eO {n : Nat} (h : PlE n e) : PlE (max n 1) (eO e) := fun o => by
  cases o with
  | none => simp only [DK.eO, noS, dep, true_and]; omega
  | some x =>
    obtain ⟨h1, h2⟩ := h x
    simp only [DK.eO, h1, true_and]; omega
/-- == of data of one type is equality -/
def EqE (e : α → Dat) : Prop := ∀ x y, datEq (e x) (e y) = true ↔ x = y
theorem EqE.int : EqE Dat.int := fun x y => by simp [datEq, toPy, PyData.eqv]
theorem EqE.all (h : EqE e) : ∀ xs ys : List α, PyData.eqvAll (toPys (xs.map e)) (toPys (ys.map e)) = true ↔ xs = ys
  | [], [] => by simp [toPys, PyData.eqvAll]
  | [], y :: ys => by simp [toPys, PyData.eqvAll]
  | x :: xs, [] => by simp [toPys, PyData.eqvAll]
  | x :: xs, y :: ys => by
    have h1 := EqE.all h xs ys
    have h2 := h x y
    unfold datEq at h2
    simp only [List.map_cons, toPys, PyData.eqvAll, Bool.and_eq_true, h1, h2, List.cons.injEq]
theorem EqE.eL (h : EqE e) : EqE (eL e) := fun xs ys => by
  have := h.all xs ys
  simpa only [datEq, DK.eL, toPy, PyData.eqv] using this
theorem EqE.eT (h : EqE e) : EqE (eT e) := fun xs ys => by
  have := h.all xs ys
  simpa only [datEq, DK.eT, toPy, PyData.eqv] using this
theorem EqE.eP {g : β → Dat} (h : EqE e) (h' : EqE g) : EqE (eP e g) := fun x y => by
  have h1 := h x.1 y.1
  have h2 := h' x.2 y.2
  unfold datEq at h1 h2
  simp only [datEq, DK.eP, toPy, toPys, PyData.eqv, PyData.eqvAll, Bool.and_eq_true, Bool.and_true, h1, h2]
  exact ⟨fun ⟨a, b⟩ => Prod.ext a b, fun z => by rw [z]; exact ⟨rfl, rfl⟩⟩
theorem EqE.iff [DecidableEq α] (h : EqE e) (x y : α) : datEq (e x) (e y) = decide (x = y) := by
  by_cases z : x = y
  · rw [decide_eq_true z]; exact (h x y).mpr z
  · rw [decide_eq_false z]
    cases q : datEq (e x) (e y) with
    | false => rfl
    | true => exact absurd ((h x y).mp q) z
end
/-! ### _law_same -/
mutual
def sameD : Dat → Dat → Bool
  | f, .lst es => match f with
    | .lst ds => samesD ds es
    | _ => false
  | f, .tup es => match f with
    | .tup ds => samesD ds es
    | _ => false
  | f, .str s => match f with
    | .str t => decide (t = s)
    | _ => false
  | f, d => match f with
    | .int i => datEq (.int i) d
    | _ => false
def samesD : List Dat → List Dat → Bool
  | [], [] => true
  | d :: ds, e :: es => sameD d e && samesD ds es
  | _, _ => false
end
theorem samesD_len : ∀ {ds es : List Dat}, samesD ds es = true → ds.length = es.length
  | [], [], _ => rfl
  | d :: ds, e :: es, h => by
    simp only [samesD, Bool.and_eq_true] at h
    rw [List.length_cons, List.length_cons, samesD_len h.2]
  | [], _ :: _, h => by simp [samesD] at h
  | _ :: _, [], h => by simp [samesD] at h
theorem samesD_ne : ∀ {ds es : List Dat}, ds.length ≠ es.length → samesD ds es = false := fun {ds es} h => by
  cases q : samesD ds es with
  | false => rfl
  | true => exact absurd (samesD_len q) h
theorem samesD_zip : ∀ (ds es : List Dat), ds.length = es.length → samesD ds es = ((ds.zip es).map fun p => sameD p.1 p.2).all id
  | [], [], _ => by simp [samesD]
  | d :: ds, e :: es, h => by
    rw [List.length_cons, List.length_cons] at h
    simp only [samesD, List.zip_cons_cons, List.map_cons, List.all_cons, id]
    rw [samesD_zip ds es (by omega)]
  | [], _ :: _, h => by simp at h
  | _ :: _, [], h => by simp at h
/-- the told is the due -/
def SamE {α : Type} (e : α → Dat) : Prop := ∀ x y, sameD (e x) (e y) = true ↔ x = y
section
variable {α β γ : Type} {e : α → Dat}
theorem SamE.int : SamE Dat.int := fun x y => by simp [sameD, datEq, toPy, PyData.eqv]
theorem SamE.str : SamE Dat.str := fun x y => by simp [sameD]
theorem SamE.all (h : SamE e) : ∀ xs ys : List α, samesD (xs.map e) (ys.map e) = true ↔ xs = ys
  | [], [] => by simp [samesD]
  | [], y :: ys => by simp [samesD]
  | x :: xs, [] => by simp [samesD]
  | x :: xs, y :: ys => by
    have h1 := SamE.all h xs ys
    have h2 := h x y
    simp only [List.map_cons, samesD, Bool.and_eq_true, h1, h2, List.cons.injEq]
theorem SamE.eL (h : SamE e) : SamE (eL e) := fun xs ys => by
  have := h.all xs ys
  simpa only [DK.eL, sameD] using this
theorem SamE.eT (h : SamE e) : SamE (eT e) := fun xs ys => by
  have := h.all xs ys
  simpa only [DK.eT, sameD] using this
theorem SamE.eP {g : β → Dat} (h : SamE e) (h' : SamE g) : SamE (eP e g) := fun x y => by
  have h1 := h x.1 y.1
  have h2 := h' x.2 y.2
  simp only [DK.eP, sameD, samesD, Bool.and_eq_true, Bool.and_true, h1, h2]
  exact ⟨fun ⟨a, b⟩ => Prod.ext a b, fun z => by rw [z]; exact ⟨rfl, rfl⟩⟩
theorem SamE.eP3 {g : β → Dat} {f : γ → Dat} (h : SamE e) (h' : SamE g) (h'' : SamE f) : SamE (eP3 e g f) := fun x y => by
  have h1 := h x.1 y.1
  have h2 := h' x.2.1 y.2.1
  have h3 := h'' x.2.2 y.2.2
  simp only [DK.eP3, sameD, samesD, Bool.and_eq_true, Bool.and_true, h1, h2, h3]
  exact ⟨fun ⟨a, b, c⟩ => Prod.ext a (Prod.ext b c), fun z => by rw [z]; exact ⟨rfl, rfl, rfl⟩⟩
theorem SamE.refl (h : SamE e) (x : α) : sameD (e x) (e x) = true := (h x x).mpr rfl
end
/-! ### isinstance -/
def tyN : Dat → String
  | .non => "NoneType"
  | .bl _ => "bool"
  | .int _ => "int"
  | .str _ => "str"
  | .lst _ => "list"
  | .tup _ => "tuple"
  | .obj _ _ _ => "object"
  | .exc _ _ => "exc"
  | .dct _ => "dict"
section
variable {K : PySem.W.Frag} {F H : Hp} {σ : Sg} {Q : VK} {u : V} {d : Dat}
theorem RD.tyX (s : Same F H) (h : RD F d u) (z : dep d < 1000) : TyX K H u (.type (tyN d)) := by
  cases d with
  | non => rw [show u = V.non from h]; exact .base .non
  | bl b => rw [show u = V.bl b from h]; exact .base (.bl b)
  | int i => rw [show u = V.int i from h]; exact .base (.int i)
  | str x => rw [show u = V.str x from h]; exact .base (.str x)
  | lst ds => obtain ⟨a, vs, rfl, h1, h2⟩ := h; exact .base (.lst (s a _ h1))
  | tup ds => obtain ⟨a, vs, rfl, h1, h2⟩ := h; exact .base (.tup (s a _ h1))
  | obj C ns ds => simp only [dep] at z; omega
  | exc C l => simp only [dep] at z; omega
  | dct kvs => simp only [dep] at z; omega
theorem sm_isb {T : String} {b : Bool} (s : Same F H) (h : RD F d u) (z : dep d < 1000) (e : kitB (tyN d) T = some b) (k : Q (.bl b) H) : rIsi K [u, .ty T] H Q :=
  ⟨u, .ty T, _, _, b, rfl, .ty T, RD.tyX s h z, kit_ty e, k⟩
theorem sm_iso {C C' : Addr} {ns : List Str} {ds : List Dat} {b : Bool} (s : Same F H) (h : RD F (.obj C ns ds) u) (cl : Cls K C) (i : InsC K C) (e : PySem.W.kitOne K (.ref C) (.ref C') = some b) (k : Q (.bl b) H) : rIsi K [u, .ref C'] H Q := by
  obtain ⟨a, dx, vs, rfl, h1, h2⟩ := h
  exact ⟨_, .ref C', _, _, b, rfl, .own C', .base (.ins (s a _ h1) cl i.ha i.hn i.ht i.hm), e, k⟩
theorem sm_isob {C : Addr} {T : String} {ns : List Str} {ds : List Dat} {b : Bool} (s : Same F H) (h : RD F (.obj C ns ds) u) (cl : Cls K C) (i : InsC K C) (e : PySem.W.kitOne K (.ref C) (.type T) = some b) (k : Q (.bl b) H) : rIsi K [u, .ty T] H Q := by
  obtain ⟨a, dx, vs, rfl, h1, h2⟩ := h
  exact ⟨_, .ty T, _, _, b, rfl, .ty T, .base (.ins (s a _ h1) cl i.ha i.hn i.ht i.hm), e, k⟩
end
end DK
set_option maxRecDepth 100000
set_option maxHeartbeats 2000000
/-! DK, tenth part: lists lent, copied, changed; zip; walks of either kind of sequence. -/
namespace DK
open PySem PySem.Spec PyProof.Rows L2
/-! ### a list of ours lent to a call -/
mutual
/-- no list within -/
def noL : Dat → Bool
  | .lst _ => false
  | .tup ds => noLs ds
  | .obj _ _ ds => noLs ds
  | .exc _ _ => true
  | .dct _ => true
  | .non => true
  | .bl _ => true
  | .int _ => true
  | .str _ => true
def noLs : List Dat → Bool
  | [] => true
  | d :: ds => noL d && noLs ds
end
def thaw (F0 F5 : Hp) : Hp := fun p => match F0 p with
  | some o => some o
  | none => match F5 p with
    | some (.lst _) => none
    | o => o
theorem thaw_old {F0 F5 : Hp} {p : Addr} {o : HO} (h : F0 p = some o) : thaw F0 F5 p = some o := by
  unfold thaw; rw [h]
theorem thaw_new {F0 F5 : Hp} {p : Addr} {o : HO} (s : Same F0 F5) (h : F5 p = some o) (n : ∀ xs, o ≠ .lst xs) : thaw F0 F5 p = some o := by
  unfold thaw
  cases q : F0 p with
  | some u =>
    have := s p u q
    rw [h] at this
    exact this.symm
  | none =>
    rw [h]
    cases o with
    | lst xs => exact absurd rfl (n xs)
    | _ => rfl
theorem thaw_none {F0 F5 : Hp} {p : Addr} (h0 : F0 p = none) (h : F5 p = none ∨ ∃ xs, F5 p = some (.lst xs)) : thaw F0 F5 p = none := by
  unfold thaw
  rw [h0]
  rcases h with h | ⟨xs, h⟩ <;> rw [h]
theorem thaw_sub {F0 F5 : Hp} (s : Same F0 F5) : Same (thaw F0 F5) F5 := fun p o h => by
  unfold thaw at h
  cases q : F0 p with
  | some u =>
    rw [q] at h
    have e : u = o := Option.some.inj h
    subst e
    exact s p _ q
  | none =>
    rw [q] at h
    cases q5 : F5 p with
    | none => rw [q5] at h; cases h
    | some v =>
      rw [q5] at h
      cases v with
      | lst xs => cases h
      | _ => exact h
mutual
theorem RD.noL {F0 F5 : Hp} (s : Same F0 F5) : ∀ {d : Dat} {v : V}, RD F5 d v → noL d = true → RD (thaw F0 F5) d v
  | .non, _, h, _ => h
  | .bl _, _, h, _ => h
  | .int _, _, h, _ => h
  | .str _, _, h, _ => h
  | .lst ds, v, h, z => by simp [DK.noL] at z
  | .tup ds, v, h, z => by
    obtain ⟨a, vs, rfl, h1, h2⟩ := h
    exact ⟨a, vs, rfl, thaw_new s h1 (by intro xs q; cases q), RDs.noL s h2 (by simpa [DK.noL] using z)⟩
  | .obj C ns ds, v, h, z => by
    obtain ⟨a, dx, vs, rfl, h1, h2⟩ := h
    exact ⟨a, dx, vs, rfl, thaw_new s h1 (by intro xs q; cases q), RDs.noL s h2 (by simpa [DK.noL] using z)⟩
  | .exc C l, v, h, z => by
    obtain ⟨a, d, rfl, h1, h2⟩ := h
    refine ⟨a, d, rfl, thaw_new s h1 (by intro xs q; cases q), ?_⟩
    cases l with
    | none => exact h2
    | some n =>
      obtain ⟨dx, rfl, q⟩ := h2
      exact ⟨dx, rfl, thaw_new s q (by intro xs q; cases q)⟩
  | .dct kvs, v, h, z => by
    obtain ⟨a, rfl, h1⟩ := h
    exact ⟨a, rfl, thaw_new s h1 fun xs q => by cases q⟩
theorem RDs.noL {F0 F5 : Hp} (s : Same F0 F5) : ∀ {ds : List Dat} {vs : List V}, RDs F5 ds vs → noLs ds = true → RDs (thaw F0 F5) ds vs
  | [], _, h, _ => h
  | d :: ds, vs, h, z => by
    obtain ⟨v, r, rfl, h1, h2⟩ := h
    simp only [noLs, Bool.and_eq_true] at z
    exact ⟨v, r, rfl, RD.noL s h1 z.1, RDs.noL s h2 z.2⟩
end
section
variable {S : List Addr} {F0 F1 H0 F5 H5 : Hp} {L L' : Addr} {vs ws : List V} {ds : List Dat} {o : HO}
/-- F1 is F0 with lists of ours frozen in -/
structure Lent (F0 H0 F1 : Hp) : Prop where
  old : Same F0 F1
  inn : Same F1 H0
  new : ∀ p o, F1 p = some o → F0 p = none → ∃ xs, o = .lst xs
theorem Lent.none (h : Same F0 H0) : Lent F0 H0 F0 := ⟨Same.refl F0, h, fun p o a b => by rw [a] at b; cases b⟩
theorem Lent.one (l : Lent F0 H0 F1) (o : Own F1 H0 L (.lst vs)) : Lent F0 H0 (upd F1 L (.lst vs)) :=
  ⟨fun p u e => by rw [upd_ne (fun z => by have := l.old p u e; rw [z, o.f] at this; cases this)]; exact l.old p u e,
   fun p u e => by
     by_cases z : p = L
     · subst z; rw [upd_same] at e; cases e; exact o.h
     · rw [upd_ne z] at e; exact l.inn p u e,
   fun p u e n => by
     by_cases z : p = L
     · subst z; rw [upd_same] at e; cases e; exact ⟨vs, rfl⟩
     · rw [upd_ne z] at e; exact l.new p u e n⟩
/-- what is lent comes back -/
theorem Lent.back (l : Lent F0 H0 F1) (s : Stp S F1 H0 F5 H5) : Stp S F0 H0 (thaw F0 F5) H5 := by
  have s05 : Same F0 F5 := l.old.trans s.ex
  refine ⟨l.old.trans l.inn, fun p o e => thaw_old e, (thaw_sub s05).trans s.inn, fun p o n f e nt => ?_, s.dom, s.tup⟩
  cases q : F1 p with
  | none =>
    obtain ⟨h1, h2⟩ := s.own p o n q e nt
    exact ⟨h1, thaw_none f (.inl h2)⟩
  | some u =>
    obtain ⟨xs, rfl⟩ := l.new p u q f
    have h5 := s.ex p _ q
    have hH := l.inn p _ q
    rw [e] at hH
    cases hH
    exact ⟨s.inn p _ h5, thaw_none f (.inr ⟨xs, h5⟩)⟩
theorem Lent.keep (l : Lent F0 H0 F1) (s : Stp S F1 H0 F5 H5) (o5 : Own F5 H5 L' o) (h0 : Fre H0 L') : Own (thaw F0 F5) H5 L' o :=
  ⟨thaw_none ((l.old.trans l.inn).free h0) (.inl o5.f), o5.h, o5.nt⟩
theorem Lent.rd (l : Lent F0 H0 F1) (s : Stp S F1 H0 F5 H5) {d : Dat} {v : V} (h : RD F5 d v) (z : noL d = true) : RD (thaw F0 F5) d v := RD.noL (l.old.trans s.ex) h z
theorem Lent.rds (l : Lent F0 H0 F1) (s : Stp S F1 H0 F5 H5) {ds : List Dat} {vs : List V} (h : RDs F5 ds vs) (z : noLs ds = true) : RDs (thaw F0 F5) ds vs := RDs.noL (l.old.trans s.ex) h z
theorem Lent.ofS (l : Lent F0 H0 F1) {d : Dat} {v : V} (h : RD F0 d v) : RD F1 d v := h.up l.old
end
/-! the kinds of data without lists -/
section
variable {α β γ : Type} {e : α → Dat}
def NlE (e : α → Dat) : Prop := ∀ x, noL (e x) = true
theorem noLs_nil : noLs [] = true := by simp only [noLs]
theorem noLs_cons {d : Dat} {ds : List Dat} (h : noL d = true) (t : noLs ds = true) : noLs (d :: ds) = true := by simp only [noLs, h, t, Bool.and_self]
theorem noL_obj {C : Addr} {ns : List Str} {ds : List Dat} (h : noLs ds = true) : noL (.obj C ns ds) = true := by simp only [noL, h]
theorem NlE.int : NlE Dat.int := fun x => by simp only [noL]
theorem NlE.bl : NlE Dat.bl := fun x => by simp only [noL]
theorem NlE.str : NlE Dat.str := fun x => by simp only [noL]
theorem NlE.maps (h : NlE e) : ∀ xs : List α, noLs (xs.map e) = true
  | [] => by simp [noLs]
  | x :: xs => by
    rw [List.map_cons]
    simp only [noLs, h x, NlE.maps h xs, Bool.and_self]
theorem NlE.eT (h : NlE e) : NlE (eT e) := fun xs => by simp only [DK.eT, noL]; exact h.maps xs
theorem NlE.eP {g : β → Dat} (h : NlE e) (h' : NlE g) : NlE (eP e g) := fun p => by simp only [DK.eP, noL, noLs, h p.1, h' p.2, Bool.and_self]
theorem NlE.eP3 {g : β → Dat} {f : γ → Dat} (h : NlE e) (h' : NlE g) (h'' : NlE f) : NlE (eP3 e g f) := fun p => by simp only [DK.eP3, noL, noLs, h p.1, h' p.2.1, h'' p.2.2, Bool.and_self]
theorem NlE.eO (h : NlE e) : NlE (eO e) := fun o => by
  cases o with
  | none => simp only [DK.eO, noL]
  | some x => exact h x
end

/-! ### copies; changes in place -/
section
variable {α β γ S R : Type} {K : PySem.W.Frag} {F H : Hp} {σ : Sg} {Q : VK} {D : Ends} {X : Xc → Option Int → Prop} {i j : Int} {u v : V} {L : Addr} {vs : List V} {e : α → Dat} {g' : β → Dat} {zs ys : List α} {z : α} {b : Bool}
theorem rd_lstV (s : Same F H) (h : RD F (.lst (zs.map e)) v) : ∃ a vs, v = .ref a ∧ SqL K H a vs ∧ RDs F (zs.map e) vs := by
  obtain ⟨a, vs, rfl, h1, h2⟩ := h
  exact ⟨a, vs, rfl, same_l s h1, h2⟩
theorem rd_tupV (s : Same F H) (h : RD F (.tup (zs.map e)) v) : ∃ a vs, v = .ref a ∧ SqT K H a vs ∧ RDs F (zs.map e) vs := by
  obtain ⟨a, vs, rfl, h1, h2⟩ := h
  exact ⟨a, vs, rfl, same_t s h1, h2⟩
/-- list(x), a list of ours -/
abbrev KOwn (F H : Hp) (ds : List Dat) (Q : VK) : Prop := ∀ L vs F' H', Stp [] F H F' H' → Fre H L → Own F' H' L (.lst vs) → RDs F' ds vs → Q (.ref L) H'
theorem nw_ownK {ds : List Dat} (s : Same F H) (h : RDs F ds vs) (k : KOwn F H ds Q) : ∀ p, H p = none → Q (.ref p) (upd H p (.lst vs)) := fun p n => by
  have t : Stp [] F H F (upd H p (.lst vs)) := Stp.newO s n
  exact k p vs F _ t n ⟨s.free n, upd_same, trivial⟩ h
theorem sm_cpL (s : Same F H) (h : RD F (.lst (zs.map e)) v) (k : KOwn F H (zs.map e) Q) : rListU K [v] H Q := by
  obtain ⟨a, vs, rfl, h1, h2⟩ := rd_lstV (K := K) s h
  exact ⟨a, vs, rfl, .inl h1, nw_ownK s h2 k⟩
theorem sm_cpT (s : Same F H) (h : RD F (.tup (zs.map e)) v) (k : KOwn F H (zs.map e) Q) : rListU K [v] H Q := by
  obtain ⟨a, vs, rfl, h1, h2⟩ := rd_tupV (K := K) s h
  exact ⟨a, vs, rfl, .inr h1, nw_ownK s h2 k⟩
theorem sm_cpQ (s : Same F H) (h : RD F (eQ b e zs) v) (k : KOwn F H (zs.map e) Q) : rListU K [v] H Q := by
  cases b with
  | true => exact sm_cpT s h k
  | false => exact sm_cpL s h k
theorem sm_cpO (s : Same F H) (o : Own F H L (.lst vs)) (h : RDs F (zs.map e) vs) (k : KOwn F H (zs.map e) Q) : rListU K [.ref L] H Q :=
  ⟨L, vs, rfl, .inl (SqL.of o.h), nw_ownK s h k⟩
/-- .. frozen -/
theorem KOwn.fz {ds : List Dat} (k : ∀ u F' H', Stp [] F H F' H' → RD F' (.lst ds) u → Q u H') : KOwn F H ds Q := fun L vs F' H' t n o h => by
  have t2 := Stp.frz t.inn o
  exact k _ _ _ (t.trans t2 (sub_new n sub_nil)) ⟨L, vs, rfl, upd_same, h.up t2.ex⟩
/-- a step on a list of ours -/
abbrev KChg (L : Addr) (F H : Hp) (ds : List Dat) (P : Hp → Prop) : Prop := ∀ ws F' H', Stp [L] F H F' H' → Own F' H' L (.lst ws) → RDs F' ds ws → P H'
theorem chg_of {ds : List Dat} {P : Hp → Prop} (s : Same F H) (o : Own F H L (.lst vs)) {ws : List V} (h : RDs F ds ws) (k : KChg L F H ds P) : P (upd H L (.lst ws)) :=
  k ws F _ (Stp.put s o) ⟨o.f, upd_same, trivial⟩ h
def insL (xs : List α) (i : Int) (x : α) : List α := xs.take i.toNat ++ [x] ++ xs.drop i.toNat
def insOk (n : Nat) (i : Int) : Bool := decide (n < 1000000) && (decide (0 ≤ i) && decide (i.natAbs.log2 < 60))
abbrev rInsert : V → List V → Hp → VK → Prop := fun x vs H Q => ∃ (l : Addr) (xs : List V) (i : Int) (y : V), x = .ref l ∧ vs = [.int i, y] ∧ H l = some (.lst xs) ∧ xs.length < sizeLine ∧ 0 ≤ i ∧ i < 2 ^ 63 ∧ Q .non (upd H l (.lst (xs.take i.toNat ++ [y] ++ xs.drop i.toNat)))
theorem RDs.ins {ds : List Dat} {d : Dat} (h : RDs F ds vs) (hx : RD F d u) (n : Nat) : RDs F (ds.take n ++ [d] ++ ds.drop n) (vs.take n ++ [u] ++ vs.drop n) := ((h.take n).snoc hx).app (h.drop n)
theorem sm_insert (s : Same F H) (o : Own F H L (.lst vs)) (h : RDs F (zs.map e) vs) (hx : RD F (e z) u) (g : insOk zs.length i = true) (k : KChg L F H ((insL zs i z).map e) (Q .non)) : rInsert (.ref L) [.int i, u] H Q := by
  simp only [insOk, Bool.and_eq_true, decide_eq_true_eq] at g
  obtain ⟨g1, g2, g3⟩ := g
  have hl : vs.length = zs.length := by rw [h.len, List.length_map]
  have hi : i < 2 ^ 63 := by
    by_cases q : i.natAbs = 0
    · omega
    · have := (Nat.log2_lt q).mp g3; omega
  refine ⟨L, vs, i, u, rfl, rfl, o.h, sz_lt (by omega), g2, hi, chg_of s o (ds := (insL zs i z).map e) ?_ k⟩
  unfold insL
  rw [List.map_append, List.map_append, List.map_take, List.map_drop]
  exact h.ins hx _
theorem RDs.rev : ∀ {ds : List Dat} {vs : List V}, RDs F ds vs → RDs F ds.reverse vs.reverse
  | [], _, h => by rw [show _ = [] from h]; exact RDs.nil
  | d :: ds, vs, h => by
    obtain ⟨v, r, rfl, h1, h2⟩ := h
    rw [List.reverse_cons, List.reverse_cons]
    exact (RDs.rev h2).snoc h1
theorem sm_reverse (s : Same F H) (o : Own F H L (.lst vs)) (h : RDs F (zs.map e) vs) (k : KChg L F H (zs.reverse.map e) (Q .non)) : rReverse (.ref L) [] H Q :=
  ⟨L, vs, rfl, rfl, o.h, chg_of s o (ds := zs.reverse.map e) (by rw [List.map_reverse]; exact h.rev) k⟩
theorem sm_clear (s : Same F H) (o : Own F H L (.lst vs)) (k : KChg L F H (([] : List α).map e) (Q .non)) : rClear (.ref L) [] H Q :=
  ⟨L, vs, rfl, rfl, o.h, chg_of s o (ds := ([] : List α).map e) RDs.nil k⟩
def popR (xs : List α) (k : α → List α → Rs β) : Rs β := match xs.getLast? with
  | some x => k x xs.dropLast
  | none => .bad
theorem Post.pop {P : β → Prop} {xs : List α} {k : α → List α → Rs β} (h : Post (popR xs k) P X) : ∃ x, xs.getLast? = some x ∧ Post (k x xs.dropLast) P X := by
  unfold popR at h
  cases q : xs.getLast? with
  | none => rw [q] at h; exact h.elim
  | some x => rw [q] at h; exact ⟨x, rfl, h⟩
theorem RDs.dropLast {ds : List Dat} (h : RDs F ds vs) : RDs F ds.dropLast vs.dropLast := by
  rw [List.dropLast_eq_take, List.dropLast_eq_take, h.len]
  exact h.take _
theorem sm_pop (s : Same F H) (o : Own F H L (.lst vs)) (h : RDs F (zs.map e) vs) (hz : zs.getLast? = some z) (k : ∀ u ws F' H', Stp [L] F H F' H' → Own F' H' L (.lst ws) → RDs F' (zs.dropLast.map e) ws → RD F' (e z) u → Q u H') : rPop (.ref L) [] H Q := by
  have hl : vs.length = zs.length := by rw [h.len, List.length_map]
  rw [List.getLast?_eq_getElem?] at hz
  obtain ⟨u, hu, r⟩ := h.at (i := zs.length - 1) (d := e z) (by rw [List.getElem?_map, hz]; rfl)
  refine ⟨L, vs, u, rfl, rfl, o.h, by rw [hl]; exact hu, ?_⟩
  have t : Stp [L] F H F (upd H L (.lst vs.dropLast)) := Stp.put s o
  exact k u _ F _ t ⟨o.f, upd_same, trivial⟩ (by rw [List.map_dropLast]; exact h.dropLast) r
/-- [x] * n -/
def repL (xs : List α) (n : Int) : List α := (List.replicate n.toNat xs).flatten
def repOk (k : Nat) (n : Int) : Bool := decide (n.natAbs.log2 < 60) && decide (k * n.toNat ≤ 1000000)
theorem RDs.rep {ds : List Dat} (h : RDs F ds vs) : ∀ n : Nat, RDs F (List.replicate n ds).flatten (List.replicate n vs).flatten
  | 0 => RDs.nil
  | n + 1 => by
    rw [List.replicate_succ, List.replicate_succ, List.flatten_cons, List.flatten_cons]
    exact h.app (RDs.rep h n)
theorem map_flat (f : α → Dat) (xs : List α) (n : Nat) : ((List.replicate n xs).flatten).map f = (List.replicate n (xs.map f)).flatten := by
  induction n with
  | zero => rfl
  | succ n ih => rw [List.replicate_succ, List.replicate_succ, List.flatten_cons, List.flatten_cons, List.map_append, ih]
theorem sm_rep (s : Same F H) (h : RD F (.lst (zs.map e)) v) (g : repOk zs.length i = true) (k : KOwn F H ((repL zs i).map e) Q) : rMulU v (.int i) H Q := by
  simp only [repOk, Bool.and_eq_true, decide_eq_true_eq] at g
  obtain ⟨g1, g2⟩ := g
  obtain ⟨a, vs, rfl, h1, h2⟩ := h
  have hl : vs.length = zs.length := by rw [h2.len, List.length_map]
  have hi : -(2 ^ 63) ≤ i ∧ i < 2 ^ 63 := by
    by_cases q : i.natAbs = 0
    · omega
    · have := (Nat.log2_lt q).mp g1; omega
  refine .inr ⟨a, i, vs, rfl, rfl, s a _ h1, hi.1, hi.2, sz_le (by rw [hl]; exact g2), nw_ownK s ?_ k⟩
  unfold repL
  rw [map_flat]
  exact h2.rep _
/-- x + y of two frozen lists, a list of ours -/
theorem sm_catK {w : V} (s : Same F H) (h1 : RD F (.lst (zs.map e)) u) (h2 : RD F (.lst (ys.map e)) w) (z : zs.length + ys.length ≤ 1000000) (k : KOwn F H ((zs ++ ys).map e) Q) : rAddU K u w H Q := by
  obtain ⟨a, vs, rfl, _, h3, h4⟩ := rd_lst s h1
  obtain ⟨b, ws, rfl, _, h5, h6⟩ := rd_lst s h2
  have l1 : vs.length = zs.length := by rw [h4.len, List.length_map]
  have l2 : ws.length = ys.length := by rw [h6.len, List.length_map]
  refine .inr (.inl ⟨a, b, vs, ws, rfl, rfl, h3, h5, sz_le (by omega), nw_ownK s (ds := (zs ++ ys).map e) ?_ k⟩)
  rw [List.map_append]
  exact h4.app h6
/-- x + y of two tuples, the left one not empty -/
theorem sm_catT {w : V} {ds ds' : List Dat} (s : Same F H) (h1 : RD F (.tup ds) u) (h2 : RD F (.tup ds') w) (hn : ds ≠ []) (z : ds.length + ds'.length ≤ 1000000) (k : ∀ x F' H', Stp [] F H F' H' → RD F' (.tup (ds ++ ds')) x → Q x H') : rAddU K u w H Q := by
  have h1' := h1
  obtain ⟨a, vs, rfl, h3, h4⟩ := h1
  obtain ⟨b, ws, rfl, h5, h6⟩ := h2
  have l1 := h4.len
  have l2 := h6.len
  refine .inr (.inr (.inl ⟨a, b, vs, ws, rfl, rfl, same_t s h3, same_t s h5, fun q => ?_, sz_le (by omega), fun q => ?_, fun q => nw_tup s (h4.app h6) k⟩))
  · rw [q] at l1
    exact hn (List.length_eq_zero_iff.mp l1.symm)
  · rw [q] at l2
    have e0 : ds' = [] := List.length_eq_zero_iff.mp l2.symm
    subst e0
    rw [List.append_nil] at k
    exact k _ F H (Stp.refl s) h1'
/-- x.index(y), of ints -/
def idxR (xs : List Int) (y : Int) : Rs Int := match xs.idxOf? y with
  | some n => .ok (n : Nat)
  | none => .bad
end

/-! ### walks: zip; either kind of sequence; enumerate of either kind -/
section
variable {α β γ S R : Type} {K : PySem.W.Frag} {F H : Hp} {σ : Sg} {D : Ends} {X : Xc → Option Int → Prop} {P : Ctl S R → Prop} {s0 : S} {g : TG} {tl : TS} {u v w : V} {e : α → Dat} {e' : β → Dat} {zs : List α} {ys : List β} {b : Bool}
theorem zi_step {H1 H2 : Hp} {vs ws : List V} {i : Nat} {p : α × β} {u : V} {Fr : Hp} (h1 : RDs F (zs.map e) vs) (h2 : RDs F (ys.map e') ws) (hp : (zs.zip ys)[i]? = some p) (y : YPair (fun i => vs[i]?) (fun i => ws[i]?) i H1 u H2) (xx : Same F Fr) (s : Same Fr H1) :
    ∃ F2, Stp [] Fr H1 F2 H2 ∧ RD F2 (eP e e' p) u := by
  obtain ⟨T, x, z, rfl, n, rfl, hx, hz⟩ := y
  obtain ⟨p1, p2⟩ := List.getElem?_zip_eq_some.mp hp
  obtain ⟨d, hd, r⟩ := h1.of_at hx
  obtain ⟨d', hd', r'⟩ := h2.of_at hz
  rw [List.getElem?_map, p1] at hd
  rw [List.getElem?_map, p2] at hd'
  cases hd
  cases hd'
  have t : Stp [] Fr H1 (upd Fr T (.tup [x, z])) (upd H1 T (.tup [x, z])) := Stp.new s n
  exact ⟨_, t, T, _, rfl, upd_same, RDs.cons (r.up (xx.trans t.ex)) (RDs.cons (r'.up (xx.trans t.ex)) RDs.nil)⟩
abbrev ZipOwes (K : PySem.W.Frag) (vs : List V) (H : Hp) (R : It → Hp → Prop) : Prop := ∃ a b xs ys, vs = [V.ref a, V.ref b] ∧ ((SqL K H a xs ∧ SqL K H b ys ∧ R (Itz K a b) H) ∨ (SqT K H a xs ∧ SqT K H b ys ∧ R (RZ.ItzT K a b) H))
theorem walk_zipT {K : PySem.W.Frag} {a b : Addr} {xs ys : List V} {n : Nat} (hn : n = min xs.length ys.length) : Walk (RZ.ItzT K a b) n (fun H => SqT K H a xs ∧ SqT K H b ys) (YPair (fun i => xs[i]?) (fun i => ys[i]?)) := by
  subst hn
  refine ⟨fun i _ hi q => ?_, fun _ q => ⟨xs, ys, q.1, q.2, by omega⟩, fun i H v H' _ q y => ?_⟩
  · have h1 : i < xs.length := by omega
    have h2 : i < ys.length := by omega
    exact ⟨xs, ys, xs[i], ys[i], q.1, q.2, by simp [h1], by simp [h2]⟩
  · obtain ⟨T, x, z, h1, h2, h3, h4, h5⟩ := y
    exact ⟨T, x, z, h1, h2, h3, h4 xs q.1, h5 ys q.2⟩
abbrev HsE (f : S → γ → Rs (Ctl S R)) (P : Ctl S R → Prop) (X : Xc → Option Int → Prop) (g : TG) (tl : TS) (D : Ends) (I : S → Hp → Sg → Hp → Prop) (ee : γ → Dat) : Prop :=
  ∀ (x : γ) (rest : List γ) (s : S) (u : V) F1 σ' H1 F2 H2, I s F1 σ' H1 → Stp [] F1 H1 F2 H2 → RD F2 (ee x) u → Post (f s x) (Turn f P rest X) X → g u σ' H2 fun σ2 H3 => tl { D with nx := NxF (fun s σ H => ∃ F, I s F σ H) f P rest X, ct := NxF (fun s σ H => ∃ F, I s F σ H) f P rest X, bk := D.nx } σ2 H3
theorem fr_ZL {f : S → α × β → Rs (Ctl S R)} (h : RD F (.lst (zs.map e)) v) (h' : RD F (.lst (ys.map e')) w) (s : Same F H) (hp : Post (forR f (zs.zip ys) s0) P X) (I : S → Hp → Sg → Hp → Prop) (h0 : I s0 F σ H) (hG : ∀ s F' σ H', I s F' σ H' → Same F F' ∧ Same F' H')
    (hs : HsE f P X g tl D I (eP e e')) (hd : ∀ s σ H, (∃ F, I s F σ H) → P (.nx s) → D.nx σ H) : ZipOwes K [v, w] H fun J H => LoopOwes g tl D σ J H := by
  obtain ⟨a, vs, rfl, h1, h2⟩ := h
  obtain ⟨b, ws, rfl, h3, h4⟩ := h'
  refine ⟨a, b, vs, ws, rfl, .inl ⟨same_l s h1, same_l s h3, fr_core (walk_zip (xs := vs) (ys := ws) rfl) (by rw [List.length_zip, h2.len, h4.len, List.length_map, List.length_map]) (fun s σ H => ∃ F, I s F σ H) hp ⟨F, h0⟩
    (fun s σ H' ⟨F', q⟩ => ⟨same_l ((hG s F' σ H' q).1.trans (hG s F' σ H' q).2) h1, same_l ((hG s F' σ H' q).1.trans (hG s F' σ H' q).2) h3⟩) ?_ hd⟩⟩
  rintro i x rest s u σ' H1 H2 hx ⟨F1, q⟩ y p
  obtain ⟨F2, t, r⟩ := zi_step h2 h4 hx y (hG _ _ _ _ q).1 (hG _ _ _ _ q).2
  exact hs x rest s u F1 σ' H1 F2 H2 q t r p
theorem fr_ZT {f : S → α × β → Rs (Ctl S R)} (h : RD F (.tup (zs.map e)) v) (h' : RD F (.tup (ys.map e')) w) (s : Same F H) (hp : Post (forR f (zs.zip ys) s0) P X) (I : S → Hp → Sg → Hp → Prop) (h0 : I s0 F σ H) (hG : ∀ s F' σ H', I s F' σ H' → Same F F' ∧ Same F' H')
    (hs : HsE f P X g tl D I (eP e e')) (hd : ∀ s σ H, (∃ F, I s F σ H) → P (.nx s) → D.nx σ H) : ZipOwes K [v, w] H fun J H => LoopOwes g tl D σ J H := by
  obtain ⟨a, vs, rfl, h1, h2⟩ := h
  obtain ⟨b, ws, rfl, h3, h4⟩ := h'
  refine ⟨a, b, vs, ws, rfl, .inr ⟨same_t s h1, same_t s h3, fr_core (walk_zipT (xs := vs) (ys := ws) rfl) (by rw [List.length_zip, h2.len, h4.len, List.length_map, List.length_map]) (fun s σ H => ∃ F, I s F σ H) hp ⟨F, h0⟩
    (fun s σ H' ⟨F', q⟩ => ⟨same_t ((hG s F' σ H' q).1.trans (hG s F' σ H' q).2) h1, same_t ((hG s F' σ H' q).1.trans (hG s F' σ H' q).2) h3⟩) ?_ hd⟩⟩
  rintro i x rest s u σ' H1 H2 hx ⟨F1, q⟩ y p
  obtain ⟨F2, t, r⟩ := zi_step h2 h4 hx y (hG _ _ _ _ q).1 (hG _ _ _ _ q).2
  exact hs x rest s u F1 σ' H1 F2 H2 q t r p
theorem fr_ZQ {f : S → α × β → Rs (Ctl S R)} (h : RD F (eQ b e zs) v) (h' : RD F (eQ b e' ys) w) (s : Same F H) (hp : Post (forR f (zs.zip ys) s0) P X) (I : S → Hp → Sg → Hp → Prop) (h0 : I s0 F σ H) (hG : ∀ s F' σ H', I s F' σ H' → Same F F' ∧ Same F' H')
    (hs : HsE f P X g tl D I (eP e e')) (hd : ∀ s σ H, (∃ F, I s F σ H) → P (.nx s) → D.nx σ H) : ZipOwes K [v, w] H fun J H => LoopOwes g tl D σ J H := by
  cases b with
  | true => exact fr_ZT h h' s hp I h0 hG hs hd
  | false => exact fr_ZL h h' s hp I h0 hG hs hd
theorem st_zip {ta : TA} {R : It → Hp → Prop} (k : ta σ H fun vs H1 => ZipOwes K vs H1 R) : iZipU K ta σ H R := k
theorem fr_EQ {f : S → Int × α → Rs (Ctl S R)} {ta : TA} (h : RD F (eQ b e zs) v) (s : Same F H) (hv : ∀ Q : List V → Hp → Prop, Q [v] H → ta σ H Q) (hp : Post (forR f (enumI zs) s0) P X) (I : S → Hp → Sg → Hp → Prop) (h0 : I s0 F σ H) (hG : ∀ s F' σ H', I s F' σ H' → Same F F' ∧ Same F' H')
    (hs : HsE f P X g tl D I (eP Dat.int e)) (hd : ∀ s σ H, (∃ F, I s F σ H) → P (.nx s) → D.nx σ H) : iEnumU K ta σ H fun J H => LoopOwes g tl D σ J H := by
  cases b with
  | true => exact .inr (hv _ (fr_ET h s hp I h0 hG hs hd))
  | false => exact .inl (hv _ (fr_EL h s hp I h0 hG hs hd))
end
section
variable {α β γ : Type} {K : PySem.W.Frag} {F H : Hp} {σ : Sg} {Q : VK} {X : Xc → Option Int → Prop} {zs : List α} {ys : List γ} {g : TG} {tt : TT} {te : TE} {v w : V} {e : α → Dat} {e' : γ → Dat} {e2 : β → Dat} {ws : List Nat} {P : List β → Prop} {b : Bool}
abbrev HdK (F H : Hp) (e2 : β → Dat) (P : List β → Prop) (Q : VK) : Prop := ∀ L vs r F' H', Stp [] F H F' H' → Fre H L → Own F' H' L (.lst vs) → RDs F' (r.map e2) vs → P r → Q (.ref L) H'
theorem lc_Q {f : α → Rs (Option β)} {te0 : TE} (h : RD F (eQ b e zs) v) (s : Same F H) (hv : ∀ Q : VK, Q v H → te0 σ H Q) (hz : zs.length ≤ 1000000) (hp : Post (mapR f zs) P X)
    (hs : ∀ (x : α) (u : V) F1 H1, RD F1 (e x) u → Stp [] F H F1 H1 → LcTurn g tt te ws σ e2 F1 H1 F1 H1 (f x) X u) (hd : HdK F H e2 P Q) : iSeq K te0 σ H fun J H => LcOwes g tt te ws σ Q J H := by
  cases b with
  | true => exact .inr (hv _ (lc_T h s hz hp hs hd))
  | false => exact .inl (hv _ (lc_L h s hz hp hs hd))
theorem lc_EL {f : Int × α → Rs (Option β)} (h : RD F (.lst (zs.map e)) v) (s : Same F H) (hz : zs.length ≤ 1000000) (hp : Post (mapR f (enumI zs)) P X)
    (hs : ∀ (x : Int × α) (u : V) F1 H1, RD F1 (eP Dat.int e x) u → Stp [] F H F1 H1 → LcTurn g tt te ws σ e2 F1 H1 F1 H1 (f x) X u) (hd : HdK F H e2 P Q) : ∃ a xs, [v] = [V.ref a] ∧ SqL K H a xs ∧ LcOwes g tt te ws σ Q (Ite K a) H := by
  obtain ⟨a, vs, rfl, h1, h2⟩ := h
  refine ⟨a, vs, rfl, same_l s h1, lc_core2 (zs := enumI zs) (walk_enum (xs := vs)) (by rw [enumI_len, h2.len, List.length_map]) (by rw [enumI_len]; exact hz) s hp (fun F' H' t => same_l (t.ex.trans t.inn) h1) ?_ hd⟩
  intro i x u F1 H1 H2 hx t y
  obtain ⟨F2, t2, r⟩ := en_step h2 hx y t.ex t.inn
  exact ⟨F2, t2, hs x u F2 H2 r (t.trans t2 sub_nil)⟩
theorem lc_ET {f : Int × α → Rs (Option β)} (h : RD F (.tup (zs.map e)) v) (s : Same F H) (hz : zs.length ≤ 1000000) (hp : Post (mapR f (enumI zs)) P X)
    (hs : ∀ (x : Int × α) (u : V) F1 H1, RD F1 (eP Dat.int e x) u → Stp [] F H F1 H1 → LcTurn g tt te ws σ e2 F1 H1 F1 H1 (f x) X u) (hd : HdK F H e2 P Q) : ∃ a xs, [v] = [V.ref a] ∧ SqT K H a xs ∧ LcOwes g tt te ws σ Q (IteT K a) H := by
  obtain ⟨a, vs, rfl, h1, h2⟩ := h
  refine ⟨a, vs, rfl, same_t s h1, lc_core2 (zs := enumI zs) (walk_enumT (xs := vs)) (by rw [enumI_len, h2.len, List.length_map]) (by rw [enumI_len]; exact hz) s hp (fun F' H' t => same_t (t.ex.trans t.inn) h1) ?_ hd⟩
  intro i x u F1 H1 H2 hx t y
  obtain ⟨F2, t2, r⟩ := en_step h2 hx y t.ex t.inn
  exact ⟨F2, t2, hs x u F2 H2 r (t.trans t2 sub_nil)⟩
theorem lc_EQ {f : Int × α → Rs (Option β)} {ta : TA} (h : RD F (eQ b e zs) v) (s : Same F H) (hv : ∀ Q : List V → Hp → Prop, Q [v] H → ta σ H Q) (hz : zs.length ≤ 1000000) (hp : Post (mapR f (enumI zs)) P X)
    (hs : ∀ (x : Int × α) (u : V) F1 H1, RD F1 (eP Dat.int e x) u → Stp [] F H F1 H1 → LcTurn g tt te ws σ e2 F1 H1 F1 H1 (f x) X u) (hd : HdK F H e2 P Q) : iEnumU K ta σ H fun J H => LcOwes g tt te ws σ Q J H := by
  cases b with
  | true => exact .inr (hv _ (lc_ET h s hz hp hs hd))
  | false => exact .inl (hv _ (lc_EL h s hz hp hs hd))
theorem lc_ZL {f : α × γ → Rs (Option β)} (h : RD F (.lst (zs.map e)) v) (h' : RD F (.lst (ys.map e')) w) (s : Same F H) (hz : zs.length ≤ 1000000) (hp : Post (mapR f (zs.zip ys)) P X)
    (hs : ∀ (x : α × γ) (u : V) F1 H1, RD F1 (eP e e' x) u → Stp [] F H F1 H1 → LcTurn g tt te ws σ e2 F1 H1 F1 H1 (f x) X u) (hd : HdK F H e2 P Q) : ZipOwes K [v, w] H fun J H => LcOwes g tt te ws σ Q J H := by
  obtain ⟨a, vs, rfl, h1, h2⟩ := h
  obtain ⟨b, us, rfl, h3, h4⟩ := h'
  have hl : (zs.zip ys).length ≤ zs.length := by rw [List.length_zip]; omega
  refine ⟨a, b, vs, us, rfl, .inl ⟨same_l s h1, same_l s h3, lc_core2 (zs := zs.zip ys) (walk_zip (xs := vs) (ys := us) rfl) (by rw [List.length_zip, h2.len, h4.len, List.length_map, List.length_map]) (by omega) s hp (fun F' H' t => ⟨same_l (t.ex.trans t.inn) h1, same_l (t.ex.trans t.inn) h3⟩) ?_ hd⟩⟩
  intro i x u F1 H1 H2 hx t y
  obtain ⟨F2, t2, r⟩ := zi_step h2 h4 hx y t.ex t.inn
  exact ⟨F2, t2, hs x u F2 H2 r (t.trans t2 sub_nil)⟩
theorem lc_ZT {f : α × γ → Rs (Option β)} (h : RD F (.tup (zs.map e)) v) (h' : RD F (.tup (ys.map e')) w) (s : Same F H) (hz : zs.length ≤ 1000000) (hp : Post (mapR f (zs.zip ys)) P X)
    (hs : ∀ (x : α × γ) (u : V) F1 H1, RD F1 (eP e e' x) u → Stp [] F H F1 H1 → LcTurn g tt te ws σ e2 F1 H1 F1 H1 (f x) X u) (hd : HdK F H e2 P Q) : ZipOwes K [v, w] H fun J H => LcOwes g tt te ws σ Q J H := by
  obtain ⟨a, vs, rfl, h1, h2⟩ := h
  obtain ⟨b, us, rfl, h3, h4⟩ := h'
  have hl : (zs.zip ys).length ≤ zs.length := by rw [List.length_zip]; omega
  refine ⟨a, b, vs, us, rfl, .inr ⟨same_t s h1, same_t s h3, lc_core2 (zs := zs.zip ys) (walk_zipT (xs := vs) (ys := us) rfl) (by rw [List.length_zip, h2.len, h4.len, List.length_map, List.length_map]) (by omega) s hp (fun F' H' t => ⟨same_t (t.ex.trans t.inn) h1, same_t (t.ex.trans t.inn) h3⟩) ?_ hd⟩⟩
  intro i x u F1 H1 H2 hx t y
  obtain ⟨F2, t2, r⟩ := zi_step h2 h4 hx y t.ex t.inn
  exact ⟨F2, t2, hs x u F2 H2 r (t.trans t2 sub_nil)⟩
theorem lc_ZQ {f : α × γ → Rs (Option β)} (h : RD F (eQ b e zs) v) (h' : RD F (eQ b e' ys) w) (s : Same F H) (hz : zs.length ≤ 1000000) (hp : Post (mapR f (zs.zip ys)) P X)
    (hs : ∀ (x : α × γ) (u : V) F1 H1, RD F1 (eP e e' x) u → Stp [] F H F1 H1 → LcTurn g tt te ws σ e2 F1 H1 F1 H1 (f x) X u) (hd : HdK F H e2 P Q) : ZipOwes K [v, w] H fun J H => LcOwes g tt te ws σ Q J H := by
  cases b with
  | true => exact lc_ZT h h' s hz hp hs hd
  | false => exact lc_ZL h h' s hz hp hs hd
end
end DK
namespace DK
open PySem PySem.Spec PyProof.Rows L2
section
variable {S : List Addr} {F0 F1 H0 F5 H5 : Hp} {L L1 L2 a : Addr} {vs ws : List V} {ds ds' : List Dat} {o o' : HO}
theorem lend1 (s : Same F0 H0) (o : Own F0 H0 L (.lst vs)) (h : RDs F0 ds vs) : ∃ F1, Lent F0 H0 F1 ∧ RD F1 (.lst ds) (.ref L) ∧ ∀ p, F1 p ≠ none → F0 p = none → p ∈ [L] := by
  have l := (Lent.none s).one o
  refine ⟨_, l, ⟨L, vs, rfl, upd_same, h.up l.old⟩, fun p a b => ?_⟩
  by_cases z : p = L
  · subst z; exact List.mem_cons_self
  · rw [upd_ne z, b] at a; exact absurd rfl a
theorem lend2 (s : Same F0 H0) (o1 : Own F0 H0 L1 (.lst vs)) (h1 : RDs F0 ds vs) (o2 : Own F0 H0 L2 (.lst ws)) (h2 : RDs F0 ds' ws) (n : L2 ≠ L1) : ∃ F1, Lent F0 H0 F1 ∧ RD F1 (.lst ds) (.ref L1) ∧ RD F1 (.lst ds') (.ref L2) ∧ ∀ p, F1 p ≠ none → F0 p = none → p ∈ [L1, L2] := by
  have l := (Lent.none s).one o1
  have o2' : Own (upd F0 L1 (.lst vs)) H0 L2 (.lst ws) := ⟨by rw [upd_ne n]; exact o2.f, o2.h, trivial⟩
  have l2 := l.one o2'
  refine ⟨_, l2, ⟨L1, vs, rfl, by rw [upd_ne (Ne.symm n)]; exact upd_same, h1.up l2.old⟩, ⟨L2, ws, rfl, upd_same, h2.up l2.old⟩, fun p a b => ?_⟩
  by_cases z : p = L2
  · subst z; simp
  · rw [upd_ne z] at a
    by_cases z1 : p = L1
    · subst z1; exact List.mem_cons_self
    · rw [upd_ne z1, b] at a; exact absurd rfl a
theorem Lent.keepW (l : Lent F0 H0 F1) (s : Stp S F1 H0 F5 H5) (o0 : Own F0 H0 a o) (o5 : Own F5 H5 a o') : Own (thaw F0 F5) H5 a o' := ⟨thaw_none o0.f (.inl o5.f), o5.h, o5.nt⟩
/-- depth alone -/
def DeE {α : Type} (n : Nat) (e : α → Dat) : Prop := ∀ x, dep (e x) ≤ n
section
variable {α β γ : Type} {e : α → Dat}
theorem DeE.int : DeE 1 Dat.int := fun x => by simp only [dep]; omega
theorem DeE.str : DeE 1 Dat.str := fun x => by simp only [dep]; omega
theorem DeE.bl : DeE 1 Dat.bl := fun x => by simp only [dep]; omega
theorem DeE.non : DeE 1 (fun _ : Unit => Dat.non) := fun x => by simp only [dep]; omega
theorem DeE.maps {n : Nat} (h : DeE n e) : ∀ xs : List α, deps (xs.map e) ≤ n
  | [] => by simp [deps]
  | x :: xs => by
    have h1 := DeE.maps h xs
    have h2 := h x
    rw [List.map_cons]
    simp only [deps]
    omega
theorem DeE.eL {n : Nat} (h : DeE n e) : DeE (n + 1) (eL e) := fun xs => by have := h.maps xs; simp only [DK.eL, dep]; omega
theorem DeE.eT {n : Nat} (h : DeE n e) : DeE (n + 1) (eT e) := fun xs => by have := h.maps xs; simp only [DK.eT, dep]; omega
theorem DeE.eQ {n : Nat} {b : Bool} (h : DeE n e) : DeE (n + 1) (eQ b e) := fun xs => by
  cases b with
  | true => exact DeE.eT h xs
  | false => exact DeE.eL h xs
theorem DeE.eP {n m : Nat} {g : β → Dat} (h : DeE n e) (h' : DeE m g) : DeE (max n m + 1) (eP e g) := fun p => by
  have h1 := h p.1
  have h2 := h' p.2
  simp only [DK.eP, dep, deps]; omega
theorem DeE.eP3 {n m l : Nat} {g : β → Dat} {f : γ → Dat} (h : DeE n e) (h' : DeE m g) (h'' : DeE l f) : DeE (max n (max m l) + 1) (eP3 e g f) := fun p => by
  have h1 := h p.1
  have h2 := h' p.2.1
  have h3 := h'' p.2.2
  simp only [DK.eP3, dep, deps]; omega
theorem DeE.eO {n : Nat} (h : DeE n e) : DeE (max n 1) (eO e) := fun o => by
  cases o with
  | none => simp only [DK.eO, dep]; omega
  | some x => have := h x; simp only [DK.eO]; omega
theorem DeE.le {n m : Nat} (h : DeE n e) (x : α) (l : n ≤ m) : dep (e x) ≤ m := Nat.le_trans (h x) l
end
end
end DK
set_option maxRecDepth 100000
set_option maxHeartbeats 2000000
/-! DK, eleventh part: more steps. -/
namespace DK
open PySem PySem.Spec PyProof.Rows L2
section
variable {α β S R : Type} {K : PySem.W.Frag} {F H : Hp} {σ : Sg} {Q : VK} {D : Ends} {X : Xc → Option Int → Prop} {i j : Int} {u v : V} {b c : Bool}
theorem st_neBs (k : Q (.bl false) H) : rNeU K (.bl b) (.bl b) H Q := .inl ⟨rfl, by rw [decide_eq_true rfl]; exact k⟩
theorem st_neBd1 (k : Q (.bl true) H) : rNeU K (.bl true) (.bl false) H Q := .inl ⟨rfl, by rw [decide_eq_false (by intro z; cases z)]; exact k⟩
theorem st_neBd2 (k : Q (.bl true) H) : rNeU K (.bl false) (.bl true) H Q := .inl ⟨rfl, by rw [decide_eq_false (by intro z; cases z)]; exact k⟩
theorem st_neB (k : Q (.bl (!decide (b = c))) H) : rNeU K (.bl b) (.bl c) H Q := .inl ⟨rfl, by rw [show decide (V.bl b = V.bl c) = decide (b = c) by simp]; exact k⟩
theorem st_eqB (k : Q (.bl (decide (b = c))) H) : rEqU K (.bl b) (.bl c) H Q := .inl ⟨rfl, by rw [show decide (V.bl b = V.bl c) = decide (b = c) by simp]; exact k⟩
theorem st_eqS {s t : Str} (k : Q (.bl (decide (s = t))) H) : rEqU K (.str s) (.str t) H Q := .inl ⟨rfl, by rw [show decide (V.str s = V.str t) = decide (s = t) by simp]; exact k⟩
theorem st_neS {s t : Str} (k : Q (.bl (!decide (s = t))) H) : rNeU K (.str s) (.str t) H Q := .inl ⟨rfl, by rw [show decide (V.str s = V.str t) = decide (s = t) by simp]; exact k⟩
theorem st_andT {tb : TE} (k : tb σ H Q) : ∃ b, V.bl true = .bl b ∧ if b = true then tb σ H Q else Q (.bl false) H := ⟨true, rfl, by rw [if_pos rfl]; exact k⟩
theorem st_andF {tb : TE} (k : Q (.bl false) H) : ∃ b, V.bl false = .bl b ∧ if b = true then tb σ H Q else Q (.bl false) H := ⟨false, rfl, by rw [if_neg (by decide)]; exact k⟩
end
end DK
namespace DK
open PySem PySem.Spec PyProof.Rows L2
abbrev eP4 {α β γ δ : Type} (e : α → Dat) (g : β → Dat) (f : γ → Dat) (k : δ → Dat) (p : α × β × γ × δ) : Dat := .tup [e p.1, g p.2.1, f p.2.2.1, k p.2.2.2]
abbrev eP5 {α β γ δ ε : Type} (e : α → Dat) (g : β → Dat) (f : γ → Dat) (k : δ → Dat) (l : ε → Dat) (p : α × β × γ × δ × ε) : Dat := .tup [e p.1, g p.2.1, f p.2.2.1, k p.2.2.2.1, l p.2.2.2.2]
section
variable {α β γ δ ε : Type} {e : α → Dat} {g : β → Dat} {f : γ → Dat} {k : δ → Dat} {l : ε → Dat}
theorem SamE.eP4 (h : SamE e) (h' : SamE g) (h'' : SamE f) (h3 : SamE k) : SamE (eP4 e g f k) := fun x y => by
  have h1 := h x.1 y.1
  have h2 := h' x.2.1 y.2.1
  have h4 := h'' x.2.2.1 y.2.2.1
  have h5 := h3 x.2.2.2 y.2.2.2
  simp only [DK.eP4, sameD, samesD, Bool.and_eq_true, Bool.and_true, h1, h2, h4, h5]
  exact ⟨fun ⟨a, b, c, d⟩ => Prod.ext a (Prod.ext b (Prod.ext c d)), fun z => by rw [z]; exact ⟨rfl, rfl, rfl, rfl⟩⟩
theorem SamE.eP5 (h : SamE e) (h' : SamE g) (h'' : SamE f) (h3 : SamE k) (h4 : SamE l) : SamE (eP5 e g f k l) := fun x y => by
  have q1 := h x.1 y.1
  have q2 := h' x.2.1 y.2.1
  have q3 := h'' x.2.2.1 y.2.2.1
  have q4 := h3 x.2.2.2.1 y.2.2.2.1
  have q5 := h4 x.2.2.2.2 y.2.2.2.2
  simp only [DK.eP5, sameD, samesD, Bool.and_eq_true, Bool.and_true, q1, q2, q3, q4, q5]
  exact ⟨fun ⟨a, b, c, d, e⟩ => Prod.ext a (Prod.ext b (Prod.ext c (Prod.ext d e))), fun z => by rw [z]; exact ⟨rfl, rfl, rfl, rfl, rfl⟩⟩
theorem DeE.eP4 {a b c d : Nat} (h : DeE a e) (h' : DeE b g) (h'' : DeE c f) (h3 : DeE d k) : DeE (max a (max b (max c d)) + 1) (eP4 e g f k) := fun p => by
  have q1 := h p.1
  have q2 := h' p.2.1
  have q3 := h'' p.2.2.1
  have q4 := h3 p.2.2.2
  simp only [DK.eP4, dep, deps]; omega
theorem DeE.eP5 {a b c d m : Nat} (h : DeE a e) (h' : DeE b g) (h'' : DeE c f) (h3 : DeE d k) (h4 : DeE m l) : DeE (max a (max b (max c (max d m))) + 1) (eP5 e g f k l) := fun p => by
  have q1 := h p.1
  have q2 := h' p.2.1
  have q3 := h'' p.2.2.1
  have q4 := h3 p.2.2.2.1
  have q5 := h4 p.2.2.2.2
  simp only [DK.eP5, dep, deps]; omega
theorem NlE.eP4 (h : NlE e) (h' : NlE g) (h'' : NlE f) (h3 : NlE k) : NlE (eP4 e g f k) := fun p => by simp only [DK.eP4, noL, noLs, h p.1, h' p.2.1, h'' p.2.2.1, h3 p.2.2.2, Bool.and_self]
theorem NlE.eP5 (h : NlE e) (h' : NlE g) (h'' : NlE f) (h3 : NlE k) (h4 : NlE l) : NlE (eP5 e g f k l) := fun p => by simp only [DK.eP5, noL, noLs, h p.1, h' p.2.1, h'' p.2.2.1, h3 p.2.2.2.1, h4 p.2.2.2.2, Bool.and_self]
end
section
variable {α β S R : Type} {K : PySem.W.Frag} {F H : Hp} {σ : Sg} {v : V} {d1 d2 d3 d4 d5 : Dat} {t : TGs} {Q : Sg → Hp → Prop}
theorem sm_g3 (s : Same F H) (h : RD F (.tup [d1, d2, d3]) v) (k : ∀ x y z, RD F d1 x → RD F d2 y → RD F d3 z → t [x, y, z] σ H Q) : gTupU K 3 t v σ H Q :=
  st_gtup s h rfl fun vs h => by
    obtain ⟨x, r, rfl, h1, y, r2, rfl, h2, z, r3, rfl, h3, h4⟩ := h
    cases (show r3 = [] from h4)
    exact k x y z h1 h2 h3
theorem sm_g4 (s : Same F H) (h : RD F (.tup [d1, d2, d3, d4]) v) (k : ∀ x y z w, RD F d1 x → RD F d2 y → RD F d3 z → RD F d4 w → t [x, y, z, w] σ H Q) : gTupU K 4 t v σ H Q :=
  st_gtup s h rfl fun vs h => by
    obtain ⟨x, r, rfl, h1, y, r2, rfl, h2, z, r3, rfl, h3, w, r4, rfl, h4, h5⟩ := h
    cases (show r4 = [] from h5)
    exact k x y z w h1 h2 h3 h4
theorem sm_g5 (s : Same F H) (h : RD F (.tup [d1, d2, d3, d4, d5]) v) (k : ∀ x y z w u, RD F d1 x → RD F d2 y → RD F d3 z → RD F d4 w → RD F d5 u → t [x, y, z, w, u] σ H Q) : gTupU K 5 t v σ H Q :=
  st_gtup s h rfl fun vs h => by
    obtain ⟨x, r, rfl, h1, y, r2, rfl, h2, z, r3, rfl, h3, w, r4, rfl, h4, u, r5, rfl, h5, h6⟩ := h
    cases (show r5 = [] from h6)
    exact k x y z w u h1 h2 h3 h4 h5
end
end DK
namespace DK
open PySem PySem.Spec PyProof.Rows L2
section
variable {K : PySem.W.Frag} {S : List Addr} {F0 F1 H0 F5 H5 : Hp} {L a : Addr} {vs ws : List V} {ds : List Dat} {o o' : HO} {v : V} {ns : List Int}
theorem Scr.ofLent (h : Scr K F0 v ns) (l : Lent F0 H0 F1) : Scr K F1 v ns := by
  obtain ⟨x, e, q⟩ := h.at_
  exact ⟨⟨x, e, Same.seq l.old q⟩, h.len⟩
theorem Lent.rdsS (l : Lent F0 H0 F1) (h : RDs F0 ds vs) : RDs F1 ds vs := h.up l.old
/-- what is not lent stays ours -/
theorem Lent.ownW {T : List Addr} (l : Lent F0 H0 F1) (h : Own F0 H0 a o) (hT : ∀ p, F1 p ≠ Option.none → F0 p = Option.none → p ∈ T) (n : a ∉ T) : Own F1 H0 a o := by
  refine ⟨?_, h.h, h.nt⟩
  cases q : F1 a with
  | none => rfl
  | some u => exact absurd (hT a (by rw [q]; intro z; cases z) h.f) n
theorem DeE.lt {α : Type} {e : α → Dat} {n m : Nat} (h : DeE n e) (x : α) (l : n < m) : dep (e x) < m := Nat.lt_of_le_of_lt (h x) l
end
end DK
set_option maxRecDepth 100000
set_option maxHeartbeats 2000000
/-! DK, twelfth part: plain rules by places. -/
namespace DK
open PySem PySem.Spec PyProof.Rows L2
section
variable {α β γ S R : Type} {X : Xc → Option Int → Prop} {P : Ctl S R → Prop}
theorem Post.okD {m : Rs α} {v : α} (h : Post m (fun r => r = v) fun _ _ => False) : m = .ok v := by
  cases m with
  | ok a => rw [show a = v from h]
  | exc c t => exact h.elim
  | bad => exact h.elim
theorem Post.get {m : Rs α} {Q : α → Prop} (h : Post m Q fun _ _ => False) : ∃ a, m = .ok a ∧ Q a := by
  cases m with
  | ok a => exact ⟨a, rfl, h⟩
  | exc c t => exact h.elim
  | bad => exact h.elim
theorem drop_at {l : List α} {x : α} {rest : List α} {i : Nat} (h : x :: rest = l.drop i) : l[i]? = some x ∧ rest = l.drop (i + 1) := by
  have hl : i < l.length := by
    have := congrArg List.length h
    rw [List.length_cons, List.length_drop] at this; omega
  rw [List.drop_eq_getElem_cons hl] at h
  injection h with h1 h2
  exact ⟨by rw [List.getElem?_eq_getElem hl, h1], h2⟩
/-- a loop, by the place -/
theorem w_forI {f : S → α → Rs (Ctl S R)} (xs : List α) (I : Nat → S → Prop) {s0 : S} (h0 : I 0 s0) (hs : ∀ (i : Nat) (x : α) (s : S), xs[i]? = some x → I i s → Post (f s x) (Ctl.on (fun s' => I (i + 1) s') (fun s' => P (.nx s')) fun r => P (.rt r)) X)
    (hk : ∀ s, I xs.length s → P (.nx s)) : Post (forR f xs s0) P X := by
  refine w_for (fun rest s => ∃ i, rest = xs.drop i ∧ i ≤ xs.length ∧ I i s) ?_ ?_ xs s0 ⟨0, by simp, Nat.zero_le _, h0⟩
  · rintro x rest s ⟨i, he, hi, hI⟩
    obtain ⟨h1, h2⟩ := drop_at he
    have hl := (List.getElem?_eq_some_iff.mp h1).1
    exact (hs i x s h1 hI).mono fun c p => by
      cases c with
      | nx s' => exact ⟨i + 1, h2, hl, p⟩
      | bk s' => exact p
      | rt r => exact p
  · rintro s ⟨i, he, hi, hI⟩
    have : i = xs.length := by
      have := congrArg List.length he
      rw [List.length_nil, List.length_drop] at this; omega
    subst this
    exact hk s hI
theorem snoc_at {acc : List β} {b c : β} {k : Nat} (h : (acc ++ [b])[k]? = some c) : (k < acc.length ∧ acc[k]? = some c) ∨ (k = acc.length ∧ c = b) := by
  by_cases z : k < acc.length
  · rw [List.getElem?_append_left z] at h; exact .inl ⟨z, h⟩
  · rw [List.getElem?_append_right (by omega)] at h
    have hl := (List.getElem?_eq_some_iff.mp h).1
    simp only [List.length_cons, List.length_nil] at hl
    have e : k - acc.length = 0 := by omega
    rw [e] at h
    exact .inr ⟨by omega, by simpa using h.symm⟩
/-- a loop that appends one thing a turn -/
theorem w_accI {P : Ctl (List β) R → Prop} {f : List β → α → Rs (Ctl (List β) R)} (xs : List α) (J : Nat → β → Prop) (hs : ∀ (i : Nat) (x : α) (acc : List β), xs[i]? = some x → acc.length = i → (∀ k b, acc[k]? = some b → J k b) → Post (f acc x) (Ctl.on (fun s' => ∃ b, s' = acc ++ [b] ∧ J i b) (fun _ => False) fun _ => False) X)
    (hk : ∀ acc : List β, acc.length = xs.length → (∀ k b, acc[k]? = some b → J k b) → P (.nx acc)) : Post (forR f xs []) P X := by
  refine w_forI xs (fun i acc => acc.length = i ∧ ∀ k b, acc[k]? = some b → J k b) ⟨rfl, fun k b h => by simp at h⟩ ?_ (fun s h => hk s h.1 h.2)
  rintro i x acc hx ⟨hl, hJ⟩
  refine (hs i x acc hx hl hJ).mono fun c p => ?_
  cases c with
  | nx s' =>
    obtain ⟨b, rfl, hb⟩ := p
    refine ⟨by rw [List.length_append, hl]; rfl, fun k c hc => ?_⟩
    rcases snoc_at hc with ⟨h1, h2⟩ | ⟨h1, h2⟩
    · exact hJ k c h2
    · rw [h1, h2, hl]; exact hb
  | bk s' => exact p.elim
  | rt r => exact p.elim
theorem w_mapI {f : α → Rs (Option β)} {P : List β → Prop} (xs : List α) (J : Nat → β → Prop) (hs : ∀ (i : Nat) (x : α), xs[i]? = some x → Post (f x) (fun o => ∃ b, o = some b ∧ J i b) X)
    (hk : ∀ r : List β, r.length = xs.length → (∀ k b, r[k]? = some b → J k b) → P r) : Post (mapR f xs) P X := by
  induction xs generalizing J P with
  | nil => exact hk [] rfl (fun k b h => by simp at h)
  | cons x xs ih =>
    unfold mapR
    refine w_bnd ((hs 0 x rfl).mono fun o ho => ?_)
    obtain ⟨b, rfl, hb⟩ := ho
    refine w_bnd (ih (fun i b => J (i + 1) b) (fun i x h => hs (i + 1) x (by simpa using h)) fun r hl hr => ?_)
    refine hk (b :: r) (by rw [List.length_cons, List.length_cons, hl]) fun k c hc => ?_
    cases k with
    | zero => cases (show b = c by simpa using hc); exact hb
    | succ k => exact hr k c (by simpa using hc)
/-- a draw's counter -/
def Dr (n c : Int) (s : List Int) : Prop := ∃ k, s = [k] ∧ n ≤ k ∧ k ≤ n + c
/-- a loop that draws and appends: the counter first -/
theorem w_drA {P : Ctl (List Int × List β) R → Prop} {f : List Int × List β → α → Rs (Ctl (List Int × List β) R)} (xs : List α) (n c : Int) (J : Nat → β → Prop) (hc : 0 ≤ c) (hs : ∀ (i : Nat) (x : α) (k : Int) (acc : List β), xs[i]? = some x → n ≤ k → k ≤ n + c * i → acc.length = i → Post (f ([k], acc) x) (Ctl.on (fun s' => Dr k c s'.1 ∧ ∃ b, s'.2 = acc ++ [b] ∧ J i b) (fun _ => False) fun _ => False) X)
    (hk : ∀ (k : Int) (acc : List β), n ≤ k → k ≤ n + c * xs.length → acc.length = xs.length → (∀ k b, acc[k]? = some b → J k b) → P (.nx ([k], acc))) : Post (forR f xs ([n], [])) P X := by
  refine w_forI xs (fun i s => Dr n (c * i) s.1 ∧ s.2.length = i ∧ ∀ k b, s.2[k]? = some b → J k b) ⟨⟨n, rfl, by omega, by simp⟩, rfl, fun k b h => by simp at h⟩ ?_ ?_
  · rintro i x ⟨at_, acc⟩ hx ⟨⟨k, hk, k0, k1⟩, hl, hJ⟩
    simp only at hk hl hJ
    subst hk
    refine (hs i x k acc hx k0 k1 hl).mono fun q p => ?_
    cases q with
    | nx s' =>
      obtain ⟨a2, acc2⟩ := s'
      obtain ⟨⟨j, hj, j0, j1⟩, b, hb, hJb⟩ := p
      simp only at hj hb
      subst hj hb
      refine ⟨⟨j, rfl, by omega, ?_⟩, by rw [List.length_append, hl]; rfl, fun k c hc => ?_⟩
      · have e : c * ((i + 1 : Nat) : Int) = c * i + c := by
          rw [Int.natCast_add, Int.mul_add]; simp
        omega
      · rcases snoc_at hc with ⟨h1, h2⟩ | ⟨h1, h2⟩
        · exact hJ k c h2
        · rw [h1, h2, hl]; exact hJb
    | bk s' => exact p.elim
    | rt r => exact p.elim
  · rintro ⟨at_, acc⟩ ⟨⟨k, hk2, k0, k1⟩, hl, hJ⟩
    simp only at hk2 hl hJ
    subst hk2
    exact hk k acc k0 k1 hl hJ
/-- .. the counter last -/
theorem w_drB {P : Ctl (List β × List Int) R → Prop} {f : List β × List Int → α → Rs (Ctl (List β × List Int) R)} (xs : List α) (n c : Int) (J : Nat → β → Prop) (hc : 0 ≤ c) (hs : ∀ (i : Nat) (x : α) (k : Int) (acc : List β), xs[i]? = some x → n ≤ k → k ≤ n + c * i → acc.length = i → Post (f (acc, [k]) x) (Ctl.on (fun s' => Dr k c s'.2 ∧ ∃ b, s'.1 = acc ++ [b] ∧ J i b) (fun _ => False) fun _ => False) X)
    (hk : ∀ (k : Int) (acc : List β), n ≤ k → k ≤ n + c * xs.length → acc.length = xs.length → (∀ k b, acc[k]? = some b → J k b) → P (.nx (acc, [k]))) : Post (forR f xs ([], [n])) P X := by
  refine w_forI xs (fun i s => Dr n (c * i) s.2 ∧ s.1.length = i ∧ ∀ k b, s.1[k]? = some b → J k b) ⟨⟨n, rfl, by omega, by simp⟩, rfl, fun k b h => by simp at h⟩ ?_ ?_
  · rintro i x ⟨acc, at_⟩ hx ⟨⟨k, hk, k0, k1⟩, hl, hJ⟩
    simp only at hk hl hJ
    subst hk
    refine (hs i x k acc hx k0 k1 hl).mono fun q p => ?_
    cases q with
    | nx s' =>
      obtain ⟨acc2, a2⟩ := s'
      obtain ⟨⟨j, hj, j0, j1⟩, b, hb, hJb⟩ := p
      simp only at hj hb
      subst hj hb
      refine ⟨⟨j, rfl, by omega, ?_⟩, by rw [List.length_append, hl]; rfl, fun k c hc => ?_⟩
      · have e : c * ((i + 1 : Nat) : Int) = c * i + c := by
          rw [Int.natCast_add, Int.mul_add]; simp
        omega
      · rcases snoc_at hc with ⟨h1, h2⟩ | ⟨h1, h2⟩
        · exact hJ k c h2
        · rw [h1, h2, hl]; exact hJb
    | bk s' => exact p.elim
    | rt r => exact p.elim
  · rintro ⟨acc, at_⟩ ⟨⟨k, hk2, k0, k1⟩, hl, hJ⟩
    simp only at hk2 hl hJ
    subst hk2
    exact hk k acc k0 k1 hl hJ
/-- a loop that only looks -/
theorem w_lookI {P : Ctl Unit R → Prop} {f : Unit → α → Rs (Ctl Unit R)} (xs : List α) (hs : ∀ (i : Nat) (x : α), xs[i]? = some x → Post (f () x) (Ctl.on (fun _ => True) (fun _ => P (.nx ())) fun r => P (.rt r)) X) (hk : P (.nx ())) : Post (forR f xs ()) P X :=
  w_forI xs (fun _ _ => True) trivial (fun i x _ hx _ => hs i x hx) fun _ _ => hk
/-- a loop over draws that goes on: the counter is all -/
theorem w_drL {P : Ctl (List Int) R → Prop} {f : List Int → α → Rs (Ctl (List Int) R)} (xs : List α) (n c : Int) (hc : 0 ≤ c) (hs : ∀ (i : Nat) (x : α) (k : Int), xs[i]? = some x → n ≤ k → k ≤ n + c * i → Post (f [k] x) (Ctl.on (fun s' => Dr k c s') (fun s' => P (.nx s')) fun r => P (.rt r)) X)
    (hk : ∀ k : Int, n ≤ k → k ≤ n + c * xs.length → P (.nx [k])) : Post (forR f xs [n]) P X := by
  refine w_forI xs (fun i s => Dr n (c * i) s) ⟨n, rfl, by omega, by simp⟩ ?_ ?_
  · rintro i x s hx ⟨k, rfl, k0, k1⟩
    refine (hs i x k hx k0 k1).mono fun q p => ?_
    cases q with
    | nx s' =>
      obtain ⟨j, rfl, j0, j1⟩ := p
      refine ⟨j, rfl, by omega, ?_⟩
      have e : c * ((i + 1 : Nat) : Int) = c * i + c := by
        rw [Int.natCast_add, Int.mul_add]; simp
      omega
    | bk s' => exact p
    | rt r => exact p
  · rintro s ⟨k, rfl, k0, k1⟩
    exact hk k k0 k1
/-- two lists alike at each place -/
theorem ext_at {xs ys : List α} (hl : xs.length = ys.length) (h : ∀ (i : Nat) (x y : α), xs[i]? = some x → ys[i]? = some y → x = y) : xs = ys := by
  apply List.ext_getElem? 
  intro i
  by_cases z : i < xs.length
  · rw [List.getElem?_eq_getElem z, List.getElem?_eq_getElem (by omega)]
    exact congrArg some (h i _ _ (List.getElem?_eq_getElem z) (List.getElem?_eq_getElem (by omega)))
  · rw [List.getElem?_eq_none (by omega), List.getElem?_eq_none (by omega)]
theorem at_of_lt {xs : List α} {i : Nat} (h : i < xs.length) : ∃ x, xs[i]? = some x := ⟨_, List.getElem?_eq_getElem h⟩
theorem lt_of_at {xs : List α} {i : Nat} {x : α} (h : xs[i]? = some x) : i < xs.length := (List.getElem?_eq_some_iff.mp h).1
theorem rng0_at {n : Int} {i : Nat} {x : Int} (h : (rngI 0 n)[i]? = some x) : x = (i : Nat) ∧ (i : Int) < n := by
  have h1 := rngI_at h
  have h2 := lt_of_at h
  rw [rngI_len] at h2
  exact ⟨by omega, by omega⟩
theorem rng0_len {n : Int} : (rngI 0 n).length = n.toNat := by rw [rngI_len]; simp
/-- the sizes of data -/
theorem wid_int {i : Int} : wid (.int i) = 0 := by simp only [wid]
theorem wid_str {s : Str} : wid (.str s) = 0 := by simp only [wid]
theorem wid_eL {e : α → Dat} {n : Nat} {xs : List α} (h : xs.length ≤ n) (h2 : ∀ x ∈ xs, wid (e x) ≤ n) : wid (eL e xs) ≤ n := by
  have := wids_map h2
  simp only [eL, wid, List.length_map]; omega
theorem wid_eT {e : α → Dat} {n : Nat} {xs : List α} (h : xs.length ≤ n) (h2 : ∀ x ∈ xs, wid (e x) ≤ n) : wid (eT e xs) ≤ n := by
  have := wids_map h2
  simp only [eT, wid, List.length_map]; omega
theorem wid_eP {e : α → Dat} {g : β → Dat} {n : Nat} {p : α × β} (h : 2 ≤ n) (h1 : wid (e p.1) ≤ n) (h2 : wid (g p.2) ≤ n) : wid (eP e g p) ≤ n := by
  simp only [eP, wid, wids, List.length_cons, List.length_nil]; omega
theorem w_same {e : α → Dat} (S : SamE e) {x y : α} {k : Bool → Rs β} {P : β → Prop} (h : x = y) (g : Post (k true) P X) : Post (k (sameD (e x) (e y))) P X := by
  subst h
  rw [S.refl]; exact g
end
end DK
set_option maxRecDepth 100000
set_option maxHeartbeats 2000000
/-! DK, thirteenth part: errors raised, caught, asked. -/
namespace DK
open PySem PySem.Spec PyProof.Rows L2
/-! ### a caught error as a tracked thing -/
theorem exK_ok {P : Program} {w : World} {H : Hp} {h : Heap} {cls : Value} {d : Option Addr} {a : Addr} {oe : Obj} {vs : Array Value} (e : h.get? a = some oe) (z : Zc cls d oe) (q : oe.data = .fields vs) : ObjOk P w H h a (ExK cls d a) :=
  ⟨⟨oe, vs, e, z, q⟩, ⟨oe, e⟩, fun _ _ ⟨o, v, q, r⟩ k => ⟨o, v, k o q, r⟩⟩
section
variable {X : Cx} {pins : List (Addr × Obj)} {σ : Sg} {H : Hp} {s sI : Shared} {a : Addr}
theorem hok_track {P : Program} {w : World} {h : Heap} {o : HO} (x : HOk P w H h) (n : H a = none) (new : ObjOk P w (upd H a o) h a o) : HOk P w (upd H a o) h := by
  intro b u e
  by_cases z : b = a
  · subst z
    rw [upd_same] at e
    cases e
    exact new
  · rw [upd_ne z] at e
    refine (x b u e).stay (fun _ _ _ q => q) (fun c q => ?_) (fun c xs q => ?_)
    · rw [upd_ne (ne_of_none q n)]; exact q
    · rw [upd_ne (ne_of_none q n)]; exact q
/-- within the except suite, the error tracked -/
theorem inv_track (J : Inv X pins σ H sI) (I : Inv X pins σ H s) {cls : Value} {d : Option Addr} {oe : Obj} {vs : Array Value} (hn : sI.heap.get? a = none) (he : s.heap.get? a = some oe) (hz : Zc cls d oe) (hd : oe.data = .fields vs) (na : H a = none) (nL : a ≠ X.env.locals) :
    Inv (X.suite a (X.pn ++ pins)) [] σ (upd H a (ExK cls d a)) s where
  ok := I.ok.suite _ _
  os := I.os
  bare := I.bare
  base := by
    have n0 : X.s_0.heap.get? a = none ∨ X.H_0 a ≠ none ∨ a ∈ X.ex := by
      cases q : X.s_0.heap.get? a with
      | none => exact .inl rfl
      | some u =>
        by_cases hx : a ∈ X.ex
        · exact .inr (.inr hx)
        · obtain ⟨o', q'⟩ := J.base.there a u q hx
          rw [hn] at q'; cases q'
    have n1 : ∀ b u, X.s_0.heap.get? b = some u → b ∉ X.ex → b ≠ a := fun b u e hx z => by
      subst z
      obtain ⟨o', q'⟩ := J.base.there b u e hx
      rw [hn] at q'; cases q'
    have nu : ∀ b u, H b = some u → b ≠ a := fun b u e z => by subst z; rw [na] at e; cases e
    refine ⟨I.base.keep, I.base.slot, fun b o e n hx => ?_, I.base.there, fun b xs e => ?_, fun b o u e => ?_, fun b ps e => ?_⟩
    · rw [upd_ne (n1 b o e hx)]; exact I.base.free b o e n hx
    · have q := I.base.tups b xs e
      rw [upd_ne (nu b _ q)]; exact q
    · have q := I.base.frzs b o u e
      rw [upd_ne (nu b _ q)]; exact q
    · obtain ⟨m, q⟩ := I.base.tbls b ps e
      exact ⟨m, by rw [upd_ne (nu b _ q)]; exact q⟩
  loc := I.loc
  cell := I.cell
  free := by show upd H a _ X.env.locals = none; rw [upd_ne (Ne.symm nL)]; exact I.free
  freeC := fun x c e => by
    have hc := I.freeC x c e
    have ne : c ≠ a := fun z => by
      obtain ⟨v, o, ho, hcd⟩ := I.cell x c e
      rw [z, he] at ho
      cases ho
      rw [hd] at hcd
      cases hcd
    rw [upd_ne ne]; exact hc
  pin := fun p hp => by
    have hp' : p ∈ X.pn ++ pins := by simpa using hp
    obtain ⟨q1, q2, q3, q4, q5⟩ := I.pin p hp'
    have ne : p.1 ≠ a := fun z => by
      have := (J.pin p hp').1
      rw [z, hn] at this; cases this
    exact ⟨q1, by rw [upd_ne ne]; exact q2, q3, q4, q5⟩
  hok := hok_track I.hok na (exK_ok he hz hd)
  len := I.len
end
/-- behind the suite: the name is gone -/
abbrev goneE (i : Nat) (D : Ends) : Ends := { nx := fun σ H => D.nx (σ.set i none) H, rt := D.rt, bk := fun σ H => D.bk (σ.set i none) H, ct := fun σ H => D.ct (σ.set i none) H }
/-- what the clause wishes of an error of the body -/
def wTX (K : PySem.W.Frag) (c : Value) (i : Nat) (ts : Addr → TS) (Wout : WX) (D : Ends) : WX := fun cls d σ H =>
  ∃ b, PySem.W.exmOne K cls c = some b ∧ (b = true → ∀ a, H a = none → ts a (goneE i D) (σ.set i (some (.ref a))) (upd H a (ExK cls d a))) ∧ (b = false → Wout cls d σ H)
def tTryX (K : PySem.W.Frag) (c : Value) (i : Nat) (tb : WX → TS) (ts : Addr → TS) (Wout : WX) : TS := fun D σ H => tb (wTX K c i ts Wout D) D σ H
section
variable {X : Cx} {x n : Str} {c : Value} {i : Nat} {body suite : List Stmt} {b₀ : Stmt} {np pos pos' : Pos} {tb : WX → TS} {ts : Addr → TS} {Wout : WX}
theorem ps_tryX (hs : X.stack = X.env :: X.outer) (hf : X.env.frame = some X.env.locals) (hN : X.N.Nodup) (hi : X.N[i]? = some n) (hln : X.env.kindOf n = some .local) (hc : Names X x c) (tk : L2N.Takes X Wout)
    (hb : ∀ (W : WX) (pn : List (Addr × Obj)) (xe : Value → Shared → Prop), L2N.Takes (X.tr pn xe) W → PassesOwn (model X.prog X.w) X.A X.env xe → PSs (X.tr pn xe) body (tb W))
    (hsu : ∀ (a : Addr) (pn : List (Addr × Obj)), PSs (X.suite a pn) (b₀ :: suite) (ts a)) :
    PS X (.Try body [.ExceptHandler (some (.Name x np)) (some n) (b₀ :: suite) pos'] [] [] pos) (tTryX X.K c i tb ts Wout) := by
  constructor
  intro pins s0 σ0 H0 D I0 rd
  have okX := I0.ok
  have frX : X.A.frames = some (X.env :: X.outer) := okX.frames.trans (congrArg some hs)
  refine wpAny_Try_except (wpAny_mono ((hb (wTX X.K c i ts Wout D) (X.pn ++ pins) (fun ev t1 => wpAny (model X.prog X.w) X.A (noteFrame ev X.env) (fun _ t2 =>
    wpAny (model X.prog X.w) X.A (setFlight ev none) (fun _ t3 => wpAny (model X.prog X.w) X.A (handleBy ev X.env [.ExceptHandler (some (.Name x np)) (some n) (b₀ :: suite) pos']) (SP X pins D) X.xe t3) X.xe t2) X.xe t1) (fun uv t' fl => ?_) PassesOwn.looking).run [] s0 σ0 H0 D (I0.toTry _) rd) (fun fw t1 q => ?_) (fun ev t1 q => q))
  · obtain ⟨a, G, sI, pins', σ1, H1, cls, d, rfl, JT, nb, up, sky, na, os, ag, b, eb, yes, no⟩ := fl
    have J : Inv X pins σ1 H1 sI := JT.ofTry okX
    have sk2 : Sky G (X.env :: X.outer) a (L2N.Zn cls d) X.env.locals t'.heap := hs ▸ sky
    change wpAny (model X.prog X.w) X.A (noteFrame (.ref a) X.env) _ _ _
    refine L2N.Sky.land L2N.Zn.steady frX hf sk2 (fun h3 f3 u3 => ?_)
    have I3 : Inv X pins σ1 H1 { t' with heap := h3 } := J.landed nb f3.1 (up.trans u3) os ag
    obtain ⟨ob3, fv3, g3, z3, d3⟩ := f3.there
    have nfr : a ∉ frs (X.env :: X.outer) := by
      intro hm
      obtain ⟨_, ou, gu, hnf⟩ := f3.2.2.1.mem hm
      rw [g3] at gu
      cases gu
      exact hnf _ d3
    have nl : a ≠ X.env.locals := by
      rintro rfl
      exact nfr (List.mem_filterMap.mpr ⟨X.env, List.mem_cons_self, hf⟩)
    have new0 : sI.heap.get? a = none := by
      cases q : sI.heap.get? a with
      | none => rfl
      | some u =>
        have z := nb a u q (by rw [hs]; exact nfr)
        rw [f3.2.1] at z
        cases z
    have T3 := inv_track J I3 new0 g3 z3.zc d3 na nl
    refine wpAny_handleBy_cons (codeAny_handlers_test ?_) (by rintro ⟨⟩)
    have isT : PySem.W.Looks (model X.prog X.w) h3 (typeOf (.ref a)) cls := fun _ _ _ _ k q => wpAny_typeOf_ref (k _ _ g3) (z3.1 ▸ q)
    have isM := PySem.W.exm_one (M := model X.prog X.w) I3.kIn isT eb
    have look : ∀ {Q E : Value → Shared → Prop}, Q c { t' with heap := h3 } → wpAny (model X.prog X.w) (X.A.mark (some (.ref a))) (eval (.Name x np) X.env) Q E { t' with heap := h3 } := by
      intro Q E q
      obtain ⟨hg, hdb, ⟨hm⟩ | ⟨hm, hv, hne⟩⟩ := hc
      · exact ld_glob (X := X.suite a (X.pn ++ pins)) T3 hg hm q hdb
      · exact ld_blt (X := X.suite a (X.pn ++ pins)) T3 hg hm hv q hne hdb
    refine look (isM.here ?_)
    cases b with
    | false =>
      change wpAny _ X.A (handleBy (.ref a) X.env []) _ _ _
      refine wpAny_handleBy_nil ?_
      obtain ⟨_, _, _, ob, fv, T, oT, tv, gt, zt, dt, t1, _⟩ := id f3
      unfold PySem.passOn
      refine wpAny_bind (wpAny_field gt dt t1 ?_)
      rw [if_neg (show ¬ ((Value.ref T == Value.none) = true) from by simp)]
      have rest : wpAny (model X.prog X.w) X.A (setFlight (.ref a) X.env.frame) (fun _ t4 => wpAny (model X.prog X.w) X.A (throw (.ref a) : Sem Flow) (SP X pins D) X.xe t4) X.xe { t' with heap := h3 } := by
        rw [hf]
        refine HandSPX.setFlight_upZ f3 (fun h4 f4 u4 => wpAny_throw (tk _ _ ⟨a, G, sI, pins, σ1, H1, cls, d, rfl, J, nb, (up.trans u3).trans u4, .inr (.inr (hs.symm ▸ f4)), na, os, ag, no rfl⟩))
      first
        | exact wpAny_bind (wpAny_pure (wpAny_bind rest))
        | exact wpAny_bind rest
    | true =>
      refine codeAny_handlers_suite_as (HandSPX.lands_againZ f3 (fun h4 f4 u4 => ?_))
      have I4 : Inv X pins σ1 H1 { t' with heap := h4 } := J.landed nb f4.1 ((up.trans u3).trans u4) os ag
      obtain ⟨ob4, fv4, g4, z4, d4⟩ := f4.there
      have T4 := inv_track J I4 new0 g4 z4.zc d4 na nl
      refine store_ok (X := X.suite a (X.pn ++ pins)) (v := .ref a) T4 hN hi (.inl hln) rfl (fun t5 T5 => ?_) (.inr hln)
      refine wpAny_mono ((hsu a (X.pn ++ pins)).run [] t5 _ _ _ T5 (yes rfl a na)) (fun fw t6 q => ?_) (fun _ _ z => z.elim)
      have back : ∀ {σ6 : Sg} {H6 : Hp}, Inv (X.suite a (X.pn ++ pins)) [] σ6 H6 t6 → Inv X pins σ6 H6 t6 := fun B =>
        ⟨okX, B.os, B.bare, B.base, B.loc, B.cell, B.free, B.freeC, fun p hp => B.pin p (by simpa using hp), B.hok, B.len⟩
      have fin : ∀ {σ6 : Sg} {H6 : Hp} {Q : Shared → Prop}, Inv (X.suite a (X.pn ++ pins)) [] σ6 H6 t6 → (∀ t7, Inv X pins (σ6.set i none) H6 t7 → Q t7) →
          wpAny (model X.prog X.w) X.A (do bindName X.env n .none; unbindBehindTheSuite X.env n pos') (fun _ t7 => Q t7) X.xe t6 := fun B k => gone_ok (back B) hN hi hln k
      cases fw with
      | ret u =>
        obtain ⟨v6, σ6, H6, B6, r6, q6⟩ := q
        exact fin B6 (fun t7 J7 => ⟨_, _, _, J7, r6, q6⟩)
      | next =>
        obtain ⟨σ6, H6, B6, q6⟩ := q
        exact fin B6 (fun t7 J7 => ⟨_, _, J7, q6⟩)
      | cont =>
        obtain ⟨σ6, H6, B6, q6⟩ := q
        exact fin B6 (fun t7 J7 => ⟨_, _, J7, q6⟩)
      | brk =>
        obtain ⟨σ6, H6, B6, q6⟩ := q
        exact fin B6 (fun t7 J7 => ⟨_, _, J7, q6⟩)
  · cases fw with
    | ret u =>
      obtain ⟨v, σ1, H1, B, r, q1⟩ := q
      exact ⟨v, σ1, H1, B.ofTry okX, r, q1⟩
    | next =>
      obtain ⟨σ1, H1, B, q1⟩ := q
      exact wpAny_execs_nil ⟨σ1, H1, B.ofTry okX, q1⟩
    | cont =>
      obtain ⟨σ1, H1, B, q1⟩ := q
      exact ⟨σ1, H1, B.ofTry okX, q1⟩
    | brk =>
      obtain ⟨σ1, H1, B, q1⟩ := q
      exact ⟨σ1, H1, B.ofTry okX, q1⟩
end
end DK
set_option maxRecDepth 100000
set_option maxHeartbeats 2000000
/-! DK, fourteenth part: errors in the mirrors; calls within a try. -/
namespace DK
open PySem PySem.Spec PyProof.Rows L2
/-! ### plain -/
section
variable {α β : Type} {m : Rs α} {P : α → Prop} {X Y : Xc → Option Int → Prop} {f : Xc → Option Int → Rs α}
theorem Post.mono2 {Q : α → Prop} (h : Post m P X) (z : ∀ a, P a → Q a) (y : ∀ c l, X c l → Y c l) : Post m Q Y := by
  cases m with
  | ok a => exact z a h
  | exc c t => exact y c t h
  | bad => exact h
def noX (m : Rs α) : Rs α := match m with
  | .exc _ _ => .bad
  | x => x
theorem Post.nox (h : Post (noX m) P X) : Post m P fun _ _ => False := by
  cases m <;> exact h
theorem w_noX (h : Post m P fun _ _ => False) : Post (noX m) P X := by
  cases m with
  | exc c t => exact h.elim
  | _ => exact h
def tryR (m : Rs α) (f : Xc → Option Int → Rs α) : Rs α := match m with
  | .exc c l => f c l
  | x => x
theorem Post.tr (h : Post (tryR m f) P X) : Post m P fun c l => Post (f c l) P X := by
  cases m <;> exact h
theorem w_try (h : Post m P Y) (k : ∀ c l, Y c l → Post (f c l) P X) : Post (tryR m f) P X := by
  cases m with
  | exc c t => exact k c t h
  | _ => exact h
end
/-- a caught error without a line -/
abbrev eX (K : PySem.W.Frag) (c : Xc) : Dat := .exc (He.ga K c.nm) none
theorem eX.ref {K : PySem.W.Frag} {c : Xc} : isRef (eX K c) = true := rfl
theorem NlE.eX {K : PySem.W.Frag} : NlE (eX K) := fun _ => rfl

/-! ### calls whose errors are wished for at the slots -/
section
variable {X : Cx} {k : Nat} {f C : Addr} {fd : FuncData} {ps : List Str} {sp : Sp} {dvs : List V} {E : L2.St → XK} {x : Str} {p pos : Pos} {e : Expr} {es : List Expr} {t : TA}
theorem pe_callCX (c : CalOk X.prog X.w X.K X.mg X.base x k ps sp) (hr : Room k X.A) (hg : Gl X x) (hx : ∀ σ, PassesAt (L2N.CX X.prog X.w) X σ (E σ))
    (ha : PA X (e :: es) t) (hdb : (x == ("__debug__" : Str)) = false := by decide) (he : starEach (e :: es) X.env = (false, eval e X.env) :: starEach es X.env := by rfl) (hpl : (backTo pos (starEach es X.env)).any (·.1) = false := by rfl) :
    PE X (.Call (.Name x p) (e :: es) [] pos) (tCallSD sp [] E t) := by
  obtain ⟨fd, F, hm, hk, hb⟩ := c
  exact pe_callSD F hr hg hm hk hb .nil hx ha hdb he hpl
theorem pe_callDX (c : CalDf X.prog X.w X.K X.mg X.base x k ps sp dvs) (hr : Room k X.A) (hg : Gl X x) (hx : ∀ σ, PassesAt (L2N.CX X.prog X.w) X σ (E σ))
    (ha : PA X (e :: es) t) (hdb : (x == ("__debug__" : Str)) = false := by decide) (he : starEach (e :: es) X.env = (false, eval e X.env) :: starEach es X.env := by rfl) (hpl : (backTo pos (starEach es X.env)).any (·.1) = false := by rfl) :
    PE X (.Call (.Name x p) (e :: es) [] pos) (tCallSD sp dvs E t) := by
  obtain ⟨fd, ds, F, hm, hk, hd, hb⟩ := c
  exact pe_callSD F hr hg hm hk hb hd hx ha hdb he hpl
def tMakeSD (C : Addr) (sp : Sp) (E : L2.St → XK) (t : TA) : TE := fun σ H Q => t σ H fun vs H1 => ∀ x dx, H1 x = none → H1 dx = none → dx ≠ x →
  sp (.ref x :: (vs ++ [])) (upd (upd H1 dx (.own x)) x (.ins C dx [])) (fun v H2 => v = .non ∧ Q (.ref x) H2) (E σ)
theorem run_mkX {pins : List (Addr × Obj)} {σ : L2.St} {H : Hp} {s : Shared} {Q : VK} {us : List Value} {vs : List V} (M : Mk X.K C f) (F : FnOk X.prog X.w X.K X.mg X.base (L2N.CX X.prog X.w) k f fd ps sp) (hr : Room (k + 1) X.A) (hb : Binds X.K fd ps [])
    (hx : PassesAt (L2N.CX X.prog X.w) X σ (E σ)) (I : Inv X pins σ H s) (r : Vals vs us)
    (h : ∀ x dx, H x = none → H dx = none → dx ≠ x → sp (.ref x :: (vs ++ [])) (upd (upd H dx (.own x)) x (.ins C dx [])) (fun v H2 => v = .non ∧ Q (.ref x) H2) (E σ)) :
    wpAny (model X.prog X.w) X.A (call (.ref C) us) (EP X pins σ Q) X.xe s := by
  let n := s.heap.objs.size
  have wish := h (n + 1) n (I.hok.fresh (Nat.le_succ n)) (I.hok.fresh (Nat.le_refl n)) (Nat.ne_of_lt (Nat.lt_succ_self n))
  have J := Inv.made (C := C) I
  have rv : Vals (V.ref (n + 1) :: (vs ++ [])) (Value.ref (n + 1) :: (us ++ [])) := .cons rfl (r.append .nil)
  have many : (Value.ref (n + 1) :: us ++ []).length = ps.length := (F.len _ _ _ _ wish ▸ rv.length).symm
  have bind : BindsTo _ fd ⟨Value.ref (n + 1) :: us, []⟩ (ps.zip (Value.ref (n + 1) :: (us ++ []))) := hb _ (Value.ref (n + 1) :: us) J.kIn many
  have body := F.run _ X.stack _ _ ⟨Value.ref (n + 1) :: us, []⟩ (Value.ref (n + 1) :: (us ++ [])) _ _ (E σ) (hr.make C us []) (J.env0.make C us []) bind rv wish
  refine wpAny_call (make_map (f := f) I.kIn M.makes M.init (beq_iff_eq.mp M.fn) (codeAny_mono body ?_))
  rintro (er | fl) t hq
  · exact hx pins _ _ er t J hq
  · cases fl with
    | ret u =>
      obtain ⟨v, Hq, Jq, rr, ev, qq⟩ := J.after hq
      cases ev
      exact ⟨rr, ⟨V.ref (n + 1), Hq, Jq, rfl, qq⟩⟩
    | next => exact (show False from hq).elim
    | brk => exact (show False from hq).elim
    | cont => exact (show False from hq).elim
theorem pe_makeCX (c : MakOk X.prog X.w X.K X.mg X.base x k ps sp) (hr : Room (k + 1) X.A) (hg : Gl X x) (hx : ∀ σ, PassesAt (L2N.CX X.prog X.w) X σ (E σ))
    (ha : PA X (e :: es) t) (hdb : (x == ("__debug__" : Str)) = false := by decide) (he : starEach (e :: es) X.env = (false, eval e X.env) :: starEach es X.env := by rfl) (hpl : (backTo pos (starEach es X.env)).any (·.1) = false := by rfl) :
    PE X (.Call (.Name x p) (e :: es) [] pos) (tMakeSD (He.ga X.K x) sp E t) := by
  obtain ⟨g, fd, M, F, hm, hb⟩ := c
  refine ⟨fun pins s σ H Q I h => wpAny_Call_Name_kw (ld_glob I hg hm ?_ hdb)⟩
  refine PySem.W.callWith_K (h₀ := X.base) I.ok.mod.kin M.kp (thn (ha.run pos pins s σ H _ I h) ?_) he hpl
  rintro us s1 ⟨vs, H1, J, r, q⟩
  exact ⟨J.kIn, run_mkX M F hr hb (hx σ) J r q⟩
end

/-! ### isinstance of a caught error -/
section
variable {fa : List He.Fa} {fb : List Fb} {fn : List He.DefD} {K : PySem.W.Frag} {mg : Str → Option Value}
theorem FactsB.exi (T : FactsB fa fb fn K mg) (i : Nat) {x : Str} (h : fb[i]? = some (.exi x) := by rfl) : ExcC K (He.ga K x) := by
  obtain ⟨h1, h2⟩ := He.ba (T.more i _ h)
  obtain ⟨h2, h3⟩ := He.ba h2
  obtain ⟨h3, h4⟩ := He.ba h3
  obtain ⟨h4, h5⟩ := He.ba h4
  obtain ⟨h5, h6⟩ := He.ba h5
  obtain ⟨h6, h7⟩ := He.ba h6
  obtain ⟨h7, h8⟩ := He.ba h7
  exact ⟨of_decide_eq_true h1, of_decide_eq_true h2, of_decide_eq_true h3, h4, of_decide_eq_true h5, of_decide_eq_true h6, of_decide_eq_true h7, of_decide_eq_true h8⟩
theorem FactsB.exm (T : FactsB fa fb fn K mg) (i : Nat) {x y : Str} {b : Bool} (h : fa[i]? = some (.exm x y b) := by rfl) : PySem.W.exmOne K (.ref (He.ga K x)) (.ref (He.ga K y)) = some b := He.exm_ok (T.says.fact i h)
end
def rIsX (K : PySem.W.Frag) : List V → Hp → VK → Prop := fun xs H Q => ∃ (a D : Addr) (c : V) (u : Value) (b : Bool), xs = [.ref a, c] ∧ ClsV c u ∧ H a = some (ExK (.ref D) none a) ∧ ExcC K D ∧ PySem.W.kitOne K (.ref D) u = some b ∧ Q (.bl b) H
theorem call_isX {X : Cx} : CallR X (.builtin "isinstance") (rIsX X.K) := by
  intro pins s σ H xs us Q I r h
  obtain ⟨a, D, c, u, b, rfl, k, ha, C, e, q⟩ := h
  obtain ⟨u1, u2, rfl, r1, r2⟩ := vals2 r
  have e2 := k.eq r2
  subst e2
  cases (show u1 = Value.ref a from r1)
  obtain ⟨⟨oe, vs, ho, hz, hd⟩, _⟩ := (show ObjOk X.prog X.w H s.heap a (ExK (.ref D) none a) from I.hok a _ ha)
  have J : PySem.W.InstAt s.heap a oe D none := by
    obtain ⟨oc, od, oda, osl⟩ := oe
    obtain ⟨h1, h2⟩ := hz
    dsimp only at h1 h2 hd
    subst h1 h2 hd
    exact ⟨ho, rfl, rfl, trivial⟩
  exact PySem.W.kia_one (PySem.W.handS_kitx_exc C.hg C.hk C.hs C.hd C.ha C.hn C.ht C.hm) I.kIn J e (fun z => nomatch z) fun tk => ⟨.bl b, H, I.tok tk, rfl, q⟩

theorem Lent.ebk {F0 H0 F1 F5 H5 : Hp} {S : List Addr} (l : Lent F0 H0 F1) (s : Stp S F1 H0 F5 H5) {n : Option Int} {d : Option Addr} (h : ExD F5 n d) : ∃ Fy, Stp S F0 H0 Fy H5 ∧ ExD Fy n d := by
  refine ⟨_, l.back s, ?_⟩
  cases n with
  | none => exact h
  | some n =>
    obtain ⟨dx, rfl, q⟩ := h
    exact ⟨dx, rfl, thaw_new (l.old.trans s.ex) q (by intro xs q; cases q)⟩
/-! ### steps -/
section
variable {K : PySem.W.Frag} {σ : Sg} {H F : Hp} {Q : VK} {D : Ends}
theorem st_callX {sp : Sp} {dvs : List V} {E : L2.St → XK} {t : TA} (k : t σ H fun vs H1 => sp (vs ++ dvs) H1 Q (E σ)) : tCallSD sp dvs E t σ H Q := k
theorem st_makeX {C : Addr} {sp : Sp} {E : L2.St → XK} {t : TA} (k : t σ H fun vs H1 => ∀ x dx, H1 x = none → H1 dx = none → dx ≠ x → sp (.ref x :: (vs ++ [])) (upd (upd H1 dx (.own x)) x (.ins C dx [])) (fun v H2 => v = .non ∧ Q (.ref x) H2) (E σ)) : tMakeSD C sp E t σ H Q := k
theorem sm_isX {p : Xc} {v : V} {c : V} {u : Value} {b : Bool} (s : Same F H) (h : RD F (eX K p) v) (hc : ClsV c u) (C : ExcC K (He.ga K p.nm)) (e : PySem.W.kitOne K (.ref (He.ga K p.nm)) u = some b) (k : Q (.bl b) H) : rIsX K [v, c] H Q := by
  obtain ⟨a, d, rfl, h1, h2⟩ := h
  obtain rfl : d = none := h2
  exact ⟨a, _, c, u, b, rfl, hc, s a _ h1, C, e, k⟩
variable {S R β α : Type} {P : β → Prop} {X : Xc → Option Int → Prop}
theorem cutY {c : Value} {i : Nat} {tb : WX → TS} {ts : Addr → TS} {Wout : WX} {m : Rs (Ctl S R)} {k : S → Rs β} {r : R → Rs β} (hm : Post (m.thn k r) P X) (I : S → Sg → Hp → Prop)
    (h1 : ∀ nx : Sg → Hp → Prop, (∀ s σ' H', I s σ' H' → Post (k s) P X → nx σ' H') → Post m (Ctl.on (fun s => Post (k s) P X) (fun s => Post (k s) P X) fun x => Post (r x) P X) X → tTryX K c i tb ts Wout { D with nx := nx } σ H)
    (h2 : ∀ s σ' H', I s σ' H' → Post (k s) P X → D.nx σ' H') : tTryX K c i tb ts Wout D σ H := cutS hm I h1 h2
theorem st_tryX {A : α → Prop} {c0 : Value} {i : Nat} {tb : WX → TS} {ts : Addr → TS} {Wout : WX} {m : Rs α} {f : Xc → Option Int → Rs α} (hm : Post (tryR m f) A X) (J : Unit → Hp → Sg → Hp → Prop)
    (hj : ∀ F' σ' H', J () F' σ' H' → Same F' H')
    (hx : ∀ c : Xc, PySem.W.exmOne K (.ref (He.ga K c.nm)) c0 = some true)
    (hs : ∀ (c : Xc) (l : Option Int) (F' : Hp) (σ' : Sg) (H' : Hp) (a : Addr) (F2 H2 : Hp), J () F' σ' H' → Stp [] F' H' F2 H2 → RD F2 (.exc (He.ga K c.nm) l) (.ref a) → Post (f c l) A X → ts a (goneE i D) (σ'.set i (some (.ref a))) H2)
    (hb : ∀ W : WX, (∀ (c : Xc) (l : Option Int) (F' : Hp) (σ' : Sg) (H' : Hp) (dx : Option Addr), J () F' σ' H' → ExD F' l dx → Post (f c l) A X → W (.ref (He.ga K c.nm)) dx σ' H') → Post m A (fun c l => Post (f c l) A X) → tb W D σ H) :
    tTryX K c0 i tb ts Wout D σ H := by
  refine hb _ (fun c l F' σ' H' dx j ex hf => ⟨true, hx c, fun _ a na => ?_, fun z => by cases z⟩) hm.tr
  have sm := hj _ _ _ j
  refine hs c l F' σ' H' a (upd F' a (ExK (.ref (He.ga K c.nm)) dx a)) _ j (Stp.new sm na) ⟨a, dx, rfl, upd_same, ?_⟩ hf
  exact ExD.up (Stp.new (S := []) sm na).ex ex
end
end DK
set_option maxRecDepth 100000
set_option maxHeartbeats 2000000
/-! DK, fifteenth part: list(reversed(x)). -/
namespace DK
open PySem PySem.Spec PyProof.Rows L2
section
variable {prog : Program} {w : World} {A : Around} {E : Value → Shared → Prop} {s : Shared}
theorem init_revI {R : Result → Shared → Prop} {S it l : Addr} {items : Array Value} (free : A.handled = none) (ri : s.heap.IsRevIter it l ((items.size : Int) - 1)) (li : s.heap.IsList l items) (li_it : l ≠ it) (few : items.size ≤ sizeLine)
    (S_it : S ≠ it) (S_l : S ≠ l) (mt : s.heap.get? S = some { cls := .type "list", data := .seq #[] })
    (fin : ∀ (g : Heap) (tk : Nat) (acc : Array Value) (c : Nat), (∀ b o, b ≠ S → b ≠ it → s.heap.get? b = some o → g.get? b = some o) → g.get? S = some { cls := .type "list", dict := none, data := .seq acc c, slots := #[] } →
      ItemsOf (fun i v => items[items.size - 1 - i]? = some v) acc items.size → R (.ok (.ret .none)) { s with heap := g, toks := tk }) :
    wpAny (model prog w) A.in1 (Builtin.«list.__init__» ⟨[.ref S, .ref it], []⟩)
      (fun f s' => match f with | .done x => R (.ok x) s' | .again c' => c'.quiet = true ∧ codeAny (model prog w) A c' R s') (fun e s' => R (.error e) s') s := by
  have walk := (Walks.listRev (prog := prog) (w := w) (A := A.in1) free it l li_it items).toS
  have notin : S ∉ [it, l] := fun z => by
    rcases List.mem_cons.mp z with e | z
    · exact S_it e
    · exact S_l (List.mem_singleton.mp z)
  show wpAny _ A.in1 (do
    let old ← Builtin.List.listItems (.ref S)
    Builtin.List.listUpdate (.ref S) (fun _ => #[])
    letGo old.toList.reverse
    Builtin.List.listExtendWith (.ref S) (.ref it) .none) _ _ s
  refine wpAny_bind ?_
  unfold Builtin.List.listItems
  refine wpAny_bind (wpAny_seqItems mt rfl (wpAny_pure ?_))
  show wpAny _ A.in1 (updateSeq S (fun _ => #[]) >>= fun _ => letGo (#[] : Array Value).toList.reverse >>= fun _ =>
    Builtin.List.listExtendWith (.ref S) (.ref it) .none) _ _ s
  refine wpAny_bind (wpAny_updateSeq mt rfl ?_)
  have mt2 := Heap.get?_update_self (Obj.mapSeq fun _ => (#[] : Array Value)) mt rfl
  generalize hg : s.heap.update S (Obj.mapSeq fun _ => (#[] : Array Value)) = g at mt2 ⊢
  have rest : ∀ b o, b ≠ S → s.heap.get? b = some o → g.get? b = some o := fun b o n e => by
    rw [← hg]; exact (Heap.get?_update_other _ _ (Ne.symm n)).trans e
  refine wpAny_bind (wpAny_letGo ?_)
  have ri2 : g.IsRevIter it l ((items.size : Int) - 1) := ri.at fun o e => rest it o (Ne.symm S_it) e
  have li2 : g.IsList l items := by
    obtain ⟨o, ho, r⟩ := li
    exact ⟨o, rest l o (Ne.symm S_l) ho, r⟩
  have ty : ({ s with heap := g } : Shared).TypeIs (.ref it) "list_reverseiterator" := Heap.IsRevIter.typeIs (s := { s with heap := g }) ri2
  have apart : Builtin.List.listSameRef (.ref S) (.ref it) = false := by simp [Builtin.List.listSameRef, S_it]
  show wpAny _ A.in1 (Builtin.List.listExtendWith (.ref S) (.ref it) .none) _ _ _
  unfold Builtin.List.listExtendWith
  refine wpAny_bind (wpAny_typeOf ty ?_)
  rw [if_neg (by rw [apart]; decide)]
  refine wpAny_bind (wpAny_pyIter_revIter (s := { s with heap := g }) ri2 ?_)
  refine wpAny_bind (wpAny_holding ?_)
  unfold Builtin.List.listLengthHint
  refine wpAny_bind (wpAny_specialOf ty RT.nolen_lri ?_)
  show wpAny _ A.in1 (specialOf (Value.ref it) (Str.ofString "__length_hint__") >>= _) _ _ _
  refine wpAny_bind (wpAny_specialOf ty RT.hint_lri ?_)
  generalize hint : ("list_reverseiterator.__length_hint__" : String) = k0
  wp_delta
  rw [show splitId k0 = some ("list_reverseiterator", "__length_hint__") from by subst hint; decide +kernel]
  subst hint
  refine wpAny_bind (wpAny_isInstance (b := true) ty (by rw [isSubtype_type]; kernel_rfl) ?_)
  refine wpAny_pure ?_
  rw [if_neg (by decide)]
  have e0 : ((items.size : Nat) : Int) - 1 - ((0 : Nat) : Int) = (items.size : Int) - 1 := by omega
  refine wpAny_pure ⟨plainId_quiet F.plain_extend_loop _, codeAny_extend_loopS walk few _ notin _ items.size 0 _ _ _ rfl (Nat.zero_le _) ⟨Nat.zero_le _, by rw [e0]; exact ri2, li2⟩ mt2 (ItemsOf.nil _) fun s' acc c mv ho its => ?_⟩
  rw [Moved.eq_with mv]
  refine fin s'.heap s'.toks acc c (fun b o n1 n2 e => mv.heap b o (fun z => ?_) (rest b o n1 e)) ho its
  rcases List.mem_cons.mp z with z | z
  · exact n1 z
  · exact n2 (List.mem_singleton.mp z)
theorem call_lstRevI {it l : Addr} {items : Array Value} {Q : Value → Shared → Prop} (free : A.handled = none) (ri : s.heap.IsRevIter it l ((items.size : Int) - 1)) (li : s.heap.IsList l items) (li_it : l ≠ it) (few : items.size ≤ sizeLine)
    (fin : ∀ (g : Heap) (tk : Nat) (acc : Array Value) (c : Nat), (∀ b o, b ≠ it → s.heap.get? b = some o → g.get? b = some o) → g.get? s.heap.objs.size = some { cls := .type "list", dict := none, data := .seq acc c, slots := #[] } →
      ItemsOf (fun i v => items[items.size - 1 - i]? = some v) acc items.size → Q (.ref s.heap.objs.size) { s with heap := g, toks := tk }) :
    wpAny (model prog w) A (call (.type "list") [.ref it]) Q E s := by
  obtain ⟨oi, hoi, _⟩ := id ri
  obtain ⟨ol, hol, _⟩ := id li
  refine callType_codes (Q₁ := fun v t => v = .ref s.heap.objs.size ∧ t = { s with heap := s.heap.push { cls := .type "list", data := .seq #[] } }) F.called_list (F.typeCall_list_1 _) F.entry_list_init
    (code_list_new _ ⟨rfl, rfl⟩) ?_
  rintro v t ⟨rfl, rfl⟩
  have new : (s.heap.push { cls := .type "list", data := .seq #[] }).get? s.heap.objs.size = some { cls := .type "list", data := .seq #[] } := Heap.get?_push_size _ rfl
  refine ⟨⟨_, new, rfl⟩, F.args_list_init_2 _ _, init_revI (A := A.in1) free (ri.at fun o e => Heap.get?_push_of_some _ e) (li.push _) li_it few (Nat.ne_of_gt (Heap.lt_size hoi)) (Nat.ne_of_gt (Heap.lt_size hol)) new ?_⟩
  intro g tk acc c keep ho its
  exact ⟨rfl, fin g tk acc c (fun b o n e => keep b o (Nat.ne_of_lt (Heap.lt_size e)) n (Heap.get?_push_of_some _ e)) ho its⟩
end
/-- list(reversed(x)), x a list: a new list -/
def rLstRev (K : PySem.W.Frag) (v : V) (H : Hp) (Q : VK) : Prop := ∃ (a : Addr) (xs : List V), v = .ref a ∧ SqL K H a xs ∧ ∀ q, H q = none → Q (.ref q) (upd H q (.lst xs.reverse))
def tLstRev (K : PySem.W.Frag) (te : TE) : TE := fun σ H Q => te σ H fun v H1 => rLstRev K v H1 Q
theorem pe_lstRev {X : Cx} {e : Expr} {te : TE} {p p2 pos pos2 : Pos} (calm : X.calm = true) (g1 : Gl X "list") (m1 : X.mg "list" = none) (g2 : Gl X "reversed") (m2 : X.mg "reversed" = none) (he : PE X e te)
    (s1 : starEach [e] X.env = (false, eval e X.env) :: starEach [] X.env := by rfl)
    (s2 : starEach [.Call (.Name "reversed" p2) [e] [] pos2] X.env = (false, eval (.Call (.Name "reversed" p2) [e] [] pos2) X.env) :: starEach [] X.env := by rfl) :
    PE X (.Call (.Name "list" p) [.Call (.Name "reversed" p2) [e] [] pos2] [] pos) (tLstRev X.K te) := by
  refine ⟨fun pins s σ H Q I h => ?_⟩
  refine Call_ (ld_blt I g1 m1 boot_list (PyProof.Rows.callWith_type1 (args_cons (Call_ (ld_blt I g2 m2 PyProof.Rows.boot_reversed (PyProof.Rows.callWith_type1 (args_cons (thn (he.run pins s σ H _ I h) fun u t hx => args_nil ?_) s1) s1 rfl))) s2) s2 rfl))
  obtain ⟨v, H1, J, r1, a, xs, ev, hq, q⟩ := hx
  subst ev
  obtain rfl : u = Value.ref a := r1
  obtain ⟨its, rv, li, few⟩ := J.list hq
  refine call_reversed_list li.isList (args_nil ?_)
  have hl := li.isList
  obtain ⟨ol, hol, _⟩ := id hl
  have ne : a ≠ t.heap.objs.size := Nat.ne_of_lt (Heap.lt_size hol)
  have hn : its.toArray.size ≤ sizeLine := by rw [List.size_toArray, ← rv.length]; exact few
  refine call_lstRevI (s := { t with heap := t.heap.push (revObj a ((its.toArray.size : Int) - 1)) }) (J.ok.hd calm) ⟨_, Heap.get?_push_size _ rfl, rfl, rfl⟩ (hl.push _) ne hn fun g tk acc c keep ho hi => ?_
  have kp : ∀ b u, t.heap.get? b = some u → g.get? b = some u := fun b u e => keep b u (Nat.ne_of_lt (Heap.lt_size e)) (Heap.get?_push_of_some _ e)
  generalize hS : (t.heap.push (revObj a ((its.toArray.size : Int) - 1))).objs.size = S at ho ⊢
  have le : t.heap.objs.size ≤ S := by rw [← hS]; simp [Heap.push]
  exact ⟨.ref S, _, J.laid (t' := tk) kp le (show ObjOk X.prog X.w _ _ _ (.lst xs.reverse) from ⟨by rw [List.length_reverse]; exact few, acc.toList, c, RT.vals_rev rv hi, by rw [Array.toArray_toList]; exact ho⟩), rfl, q S (J.hok.fresh le)⟩
section
variable {α : Type} {F H : Hp} {σ : Sg} {Q : VK} {e : α → Dat} {zs : List α} {v : V} {K : PySem.W.Frag}
theorem st_lstRev {te : TE} (k : te σ H fun v H1 => rLstRev K v H1 Q) : tLstRev K te σ H Q := k
theorem sm_lstRev (s : Same F H) (h : RD F (.lst (zs.map e)) v) (k : KOwn F H (zs.reverse.map e) Q) : rLstRev K v H Q := by
  obtain ⟨a, vs, rfl, h1, h2⟩ := rd_lstV (K := K) s h
  refine ⟨a, vs, rfl, h1, nw_ownK s ?_ k⟩
  rw [List.map_reverse]
  exact h2.rev
end
/-! ### cuts within which a list of ours changes -/
section
variable {α β γ : Type} {F H : Hp} {σ : Sg} {P : β → Prop} {X : Xc → Option Int → Prop}
theorem cutTW {c : TT} {m : Rs (Bool × List α)} {k : Bool × List α → Rs β} {Q : Bool → Hp → Prop} (e : α → Dat) (F H : Hp) (a : Addr) (hm : Post (m.bnd k) P X)
    (h1 : ∀ Q' : Bool → Hp → Prop, (∀ b z ws F' H', Stp [a] F H F' H' → Own F' H' a (.lst ws) → RDs F' (List.map e z) ws → Post (k (b, z)) P X → Q' b H') → Post m (fun b => Post (k b) P X) X → c σ H Q')
    (h2 : ∀ b z ws F' H', Stp [a] F H F' H' → Own F' H' a (.lst ws) → RDs F' (List.map e z) ws → Post (k (b, z)) P X → Q b H') : c σ H Q := h1 Q h2 hm.b
theorem cutBW {c : TE} {m : Rs (Bool × List α)} {k : Bool × List α → Rs β} {Q : VK} (e : α → Dat) (F H : Hp) (a : Addr) (hm : Post (m.bnd k) P X)
    (h1 : ∀ Q' : VK, (∀ b z ws F' H', Stp [a] F H F' H' → Own F' H' a (.lst ws) → RDs F' (List.map e z) ws → Post (k (b, z)) P X → Q' (.bl b) H') → Post m (fun b => Post (k b) P X) X → c σ H Q')
    (h2 : ∀ b z ws F' H', Stp [a] F H F' H' → Own F' H' a (.lst ws) → RDs F' (List.map e z) ws → Post (k (b, z)) P X → Q (.bl b) H') : c σ H Q := h1 Q h2 hm.b
theorem cutXW {c : TE} (f : γ → V) {m : Rs (γ × List α)} {k : γ × List α → Rs β} {Q : VK} (e : α → Dat) (F H : Hp) (a : Addr) (hm : Post (m.bnd k) P X)
    (h1 : ∀ Q' : VK, (∀ b z ws F' H', Stp [a] F H F' H' → Own F' H' a (.lst ws) → RDs F' (List.map e z) ws → Post (k (b, z)) P X → Q' (f b) H') → Post m (fun b => Post (k b) P X) X → c σ H Q')
    (h2 : ∀ b z ws F' H', Stp [a] F H F' H' → Own F' H' a (.lst ws) → RDs F' (List.map e z) ws → Post (k (b, z)) P X → Q (f b) H') : c σ H Q := h1 Q h2 hm.b
theorem cutEW {c : TE} (enc : γ → Dat) {m : Rs (γ × List α)} {k : γ × List α → Rs β} {Q : VK} (e : α → Dat) (F H : Hp) (a : Addr) (hm : Post (m.bnd k) P X)
    (h1 : ∀ Q' : VK, (∀ b u z ws F' H', Stp [a] F H F' H' → RD F' (enc b) u → Own F' H' a (.lst ws) → RDs F' (List.map e z) ws → Post (k (b, z)) P X → Q' u H') → Post m (fun b => Post (k b) P X) X → c σ H Q')
    (h2 : ∀ b u z ws F' H', Stp [a] F H F' H' → RD F' (enc b) u → Own F' H' a (.lst ws) → RDs F' (List.map e z) ws → Post (k (b, z)) P X → Q u H') : c σ H Q := h1 Q h2 hm.b
end
end DK
set_option maxRecDepth 100000
set_option maxHeartbeats 2000000
/-! DK, sixteenth part: data without None; x += y. -/
namespace DK
open PySem PySem.Spec PyProof.Rows L2
mutual
def nn : Dat → Bool
  | .non => false
  | .lst ds => nns ds
  | .tup ds => nns ds
  | _ => true
def nns : List Dat → Bool
  | [] => true
  | d :: ds => nn d && nns ds
end
theorem nns_mem : ∀ {ds : List Dat} {d : Dat}, nns ds = true → d ∈ ds → nn d = true
  | e :: es, d, h, m => by
    simp only [nns, Bool.and_eq_true] at h
    rcases List.mem_cons.mp m with rfl | m
    · exact h.1
    · exact nns_mem h.2 m
section
variable {α β γ δ ε : Type} {e : α → Dat}
def NnE (e : α → Dat) : Prop := ∀ x, nn (e x) = true
theorem NnE.int : NnE Dat.int := fun x => by simp only [nn]
theorem NnE.bl : NnE Dat.bl := fun x => by simp only [nn]
theorem NnE.str : NnE Dat.str := fun x => by simp only [nn]
theorem NnE.maps (h : NnE e) : ∀ xs : List α, nns (xs.map e) = true
  | [] => by simp only [List.map_nil, nns]
  | x :: xs => by simp only [List.map_cons, nns, h x, NnE.maps h xs, Bool.and_self]
theorem NnE.eL (h : NnE e) : NnE (eL e) := fun xs => by simp only [DK.eL, nn]; exact h.maps xs
theorem NnE.eT (h : NnE e) : NnE (eT e) := fun xs => by simp only [DK.eT, nn]; exact h.maps xs
theorem NnE.eQ {b : Bool} (h : NnE e) : NnE (eQ b e) := fun xs => by
  cases b
  · simp only [DK.eQ, nn]; exact h.maps xs
  · simp only [DK.eQ, nn]; exact h.maps xs
theorem NnE.eP {g : β → Dat} (h : NnE e) (h' : NnE g) : NnE (eP e g) := fun p => by simp only [DK.eP, nn, nns, h p.1, h' p.2, Bool.and_self]
theorem NnE.eP3 {g : β → Dat} {f : γ → Dat} (h : NnE e) (h' : NnE g) (h'' : NnE f) : NnE (eP3 e g f) := fun p => by simp only [DK.eP3, nn, nns, h p.1, h' p.2.1, h'' p.2.2, Bool.and_self]
theorem NnE.eP4 {g : β → Dat} {f : γ → Dat} {k : δ → Dat} (h : NnE e) (h' : NnE g) (h'' : NnE f) (h3 : NnE k) : NnE (eP4 e g f k) := fun p => by simp only [DK.eP4, nn, nns, h p.1, h' p.2.1, h'' p.2.2.1, h3 p.2.2.2, Bool.and_self]
end
/-- a name that may be unset -/
def RDo {α : Type} (F : Hp) (e : α → Dat) (z : Option α) (o : Option V) : Prop := match z with
  | none => True
  | some x => ∃ u, o = some u ∧ RD F (e x) u
theorem RDo.up {α : Type} {F F' H H' : Hp} {S : List Addr} {e : α → Dat} {z : Option α} {o : Option V} (s : Stp S F H F' H') (h : RDo F e z o) : RDo F' e z o := by
  cases z with
  | none => trivial
  | some x =>
    obtain ⟨u, q, r⟩ := h
    exact ⟨u, q, s.up r⟩
section
variable {σ : Sg} {H : Hp} {D : Ends}
theorem st_augI {t : Nat} {te : TE} {i : Int} (k : te σ H fun y H1 => ipI (fun i j => i + j) (.int i) y H1 fun z H2 => D.nx (σ.set t (some z)) H2) (h : σ[t]? = some (some (.int i)) := by rfl) : tAug t te (ipI fun i j => i + j) D σ H := ⟨_, h, k⟩
theorem st_ipI {i j : Int} {Q : VK} (k : Q (.int (i + j)) H) : ipI (fun i j => i + j) (.int i) (.int j) H Q := ⟨i, j, rfl, rfl, k⟩
end
end DK
set_option maxRecDepth 100000
set_option maxHeartbeats 2000000
/-! DK, seventeenth part: a def called with the error that is handled; a comprehension over a range there. -/
namespace DK
open PySem PySem.Spec PyProof.Rows L2 L2H
theorem _root_.L2H.RoomH.units {k : Nat} {A : Around} (r : RoomH k A) : A.units + 64 < cLine := by have := r.un; omega
/-! ### a range walked while an error is handled -/
section
variable {X : Cx} {pins : List (Addr × Obj)} {σ : L2.St} {H : Hp} {s : Shared} {E : Value → Shared → Prop} {tg : Expr} {it : Addr} {n i : Nat}
theorem rng_item (I : Inv X pins σ H s) (f : FpOk X pins H it) (st : IsRangeIter s.heap it (0 + (i : Nat) * 1) ((n : Int) - (i : Nat)) 1) (lt : i < n) :
    wpAny (model X.prog X.w) X.A (pyNext (.ref it)) (fun r s1 => ∃ u, r = some u ∧ wpAny (model X.prog X.w) X.A (letOwnedTupleGo tg (.ref it) u) (fun _ s2 => Inv X pins σ H s2 ∧ RelV (.int (0 + (i : Nat))) u ∧ IsRangeIter s2.heap it (0 + ((i + 1 : Nat) : Int) * 1) ((n : Int) - ((i + 1 : Nat) : Int)) 1) E s1) E s := by
  obtain ⟨g0, g1, g2, g3, g4, g5⟩ := f
  refine wpAny_pyNext_range_item st (by omega) fun g sg sb => ?_
  rw [show (0 : Int) + (i : Nat) * 1 + 1 = 0 + ((i + 1 : Nat) : Int) * 1 by omega, show (n : Int) - (i : Nat) - 1 = (n : Int) - ((i + 1 : Nat) : Int) by omega] at sg
  have J : Inv X pins σ H { s with heap := g, toks := s.toks + 1 } := I.turned (fun b o nb e => (sb.2 b nb).trans e) g0 g1 g3 g4 g5
  exact ⟨_, rfl, go_of (s := { s with heap := g, toks := s.toks + 1 }) (n := "range_iterator") sg rfl rfl (by decide) ⟨J, ⟨s.toks, by rw [Int.mul_one]⟩, sg⟩⟩
theorem rng_done {x1 : Addr} (hot : HotX.HotAt X.A x1 s.heap) (I : Inv X pins σ H s) (f : FpOk X pins H it) (st : IsRangeIter s.heap it (0 + (i : Nat) * 1) ((n : Int) - (i : Nat)) 1) (ge : n ≤ i) :
    wpAny (model X.prog X.w) X.A (pyNext (.ref it)) (fun r s1 => r = none ∧ Inv X pins σ H s1) E s := by
  obtain ⟨g0, g1, g2, g3, g4, g5⟩ := f
  exact HotX.pyNext_range_end_hot hot st (by omega) fun g kp => ⟨rfl, I.turned (t' := s.toks) (fun b o _ e => kp b o e) g0 g1 g3 g4 g5⟩
/-- range(e): the iterator stands -/
theorem rng_open {a0 : Expr} {ta : TA} {p pos : Pos} {R : It → Hp → Prop} (hg : Gl X "range") (hm : X.mg "range" = none) (ha : PA X [a0] ta) (I : Inv X pins σ H s) (h : iRng1 ta σ H R) (hs : starEach [a0] X.env = [(false, eval a0 X.env)] := by rfl) :
    wpAny (model X.prog X.w) X.A (eval (.Call (.Name "range" p) [a0] [] pos) X.env) (fun v t => wpAny (model X.prog X.w) X.A (pyIter v)
      (fun w u => ∃ (it : Addr) (n : Nat) (H' : Hp), w = .ref it ∧ Inv X pins σ H' u ∧ IsRangeIter u.heap it (0 + ((0 : Nat) : Int) * 1) ((n : Int) - ((0 : Nat) : Int)) 1 ∧ FpOk X pins H' it ∧ R (Itr 0 n) H') X.xe t) X.xe s := by
  refine Call_ (ld_blt I hg hm boot_range (PyProof.Rows.callWith_type1 (thn (ha.run pos pins s σ H _ I h) ?_) hs rfl))
  rintro us t ⟨vs, H1, J, r1, j, rfl, j0, j1, q⟩
  cases r1 with
  | cons r rr =>
    cases rr
    obtain ⟨tk, rfl⟩ := r
    refine call_range_1 ?_
    refine wpAny_pyIter_range (IsRange.new ..) (small_one (by decide) (by decide) j0 j1) ?_
    have J1 := J.kept (t' := t.toks + 1 + 1) (h' := t.heap.push { cls := .type "range", data := .fields #[.int 0 t.toks, .int j tk, .int 1 (t.toks + 1)] }) fun b o e => Heap.get?_push_of_some _ e
    refine ⟨_, j.toNat, H1, rfl, J1.kept (t' := _) fun b o e => Heap.get?_push_of_some _ e, ?_, J1.fpOk (Nat.le_refl _) (J1.hok.fresh (Nat.le_refl _)), q⟩
    have e2 : ((j.toNat : Nat) : Int) - ((0 : Nat) : Int) = Builtin.Range.rangeSize 0 j 1 := by rw [rangeSize_one]; split <;> omega
    rw [e2, show (0 : Int) + ((0 : Nat) : Int) * 1 = 0 by decide]
    exact Heap.get?_push_size _ rfl
end
/-! [elt for tg in range(e) if ..], an error p handled -/
section
variable {X : Cx}
theorem lcHot_core {p : Addr × Obj} {pins : List (Addr × Obj)} {s : Shared} {σ : L2.St} {H : Hp} {Q : VK} {use : Option (Value → Sem Unit)} {Qf : Value → Shared → Prop} {pos' : Pos} {elt tg a0 : Expr} {ifs : List Expr} {scope : Scope} {own : List (Str × Nat)} {rp rpos pos : Pos} {ta : TA} {g : TG} {tt : TT} {te : TE} (hot : Hot1 X.A p) (hp : p ∈ X.pn) (hN : X.N.Nodup) (I : Inv X pins σ H s) (rg : Gl X "range") (rm : X.mg "range" = none) (ha : PA X [a0] ta)
    (ok : BlkOk X.N X.env.scope scope own)
    (hg : ∀ (s : Shared) (H : Hp) (C : Addr) (cl : List (Str × Addr)) (fp : List Addr), PG (X.blk s H scope (compEnvC scope cl C X.env) fp) tg g)
    (ht : ∀ (s : Shared) (H : Hp) (C : Addr) (cl : List (Str × Addr)) (fp : List Addr), PTs (X.blk s H scope (compEnvC scope cl C X.env) fp) ifs tt)
    (he : ∀ (s : Shared) (H : Hp) (C : Addr) (cl : List (Str × Addr)) (fp : List Addr), PE (X.blk s H scope (compEnvC scope cl C X.env) fp) elt te)
    (hs : ∀ x, foldedSetIterable (.Call (.Name "range" rp) [a0] [] rpos) X.env x = pure x) (hst : starEach [a0] X.env = [(false, eval a0 X.env)]) (h : tLc (iRng1 ta) g tt te (own.map (·.2)) σ H Q)
    (ends : ∀ D C t m H', Inv X pins σ H' t → Q (.ref D) H' → t.heap.Ns C m → FpOk X pins H' C → compPost (model X.prog X.w) X.A X.xe use Qf (.ref D) C (.ok .next) t) :
    wpAny (model X.prog X.w) X.A (comprehension (.ListComp elt [⟨tg, .Call (.Name "range" rp) [a0] [] rpos, ifs, 0⟩] scope pos) scope X.env pos' (newList []) false (eval (.Call (.Name "range" rp) [a0] [] rpos) X.env) use) Qf X.xe s := by
  have closed : ∀ y ∈ scope.names, y.2 = .free → ∃ c, X.env.cells.lookup y.1 = some c := fun y hy e => (ok.free y hy e).elim (fun k => I.ok.has _ (.inl k)) fun k => I.ok.has _ (.inr k)
  refine wpAny_comprehension_free (use := use) rfl hs (closure_ok closed) ok.kind (fun y hy e => by rw [ok.uniq y hy, e]) (thn (rng_open rg rm ha I h hst) fun xv s1 hx => thn hx ?_)
  rintro itv s2 ⟨it, n, H2, rfl, J2, r2, f2, q⟩
  refine wpAny_newObj_type (newEnv_comp ?_) (Nat.zero_le _)
  generalize eD : s2.heap.objs.size = D
  obtain ⟨W, ⟨m0, w0⟩, turn⟩ := q D (J2.hok.fresh (Nat.le_of_eq eD))
  obtain ⟨oit, git⟩ : ∃ o, s2.heap.get? it = some o := ⟨_, r2⟩
  have itlt := Heap.lt_size git
  generalize e3 : ({ s2 with heap := s2.heap.push { cls := .type "list", data := .seq ([] : List Value).toArray } } : Shared) = s3
  have hp3 : s3.heap = s2.heap.push { cls := .type "list", data := .seq ([] : List Value).toArray } := by rw [← e3]
  have J3 : Inv X pins σ (upd H2 D (.lst [])) s3 := by
    subst e3 eD
    exact J2.laid (t' := s2.toks) (fun b o e => Heap.get?_push_of_some _ e) (Nat.le_refl _) ⟨Nat.zero_le _, [], 0, .nil, Heap.get?_push_size _ rfl⟩
  have n3 : upd H2 D (.lst []) it = none := by rw [upd_ne (by rw [← eD]; exact Nat.ne_of_lt itlt)]; exact f2.1
  have f3 : ∀ b ∈ [it], FpOk X pins (upd H2 D (.lst [])) b ∧ b < s3.heap.objs.size := fun b hb => by
    obtain rfl := List.mem_singleton.mp hb
    exact ⟨⟨n3, f2.2⟩, by rw [hp3, Heap.size_push]; exact Nat.lt_succ_of_lt itlt⟩
  have r3 : IsRangeIter s3.heap it (0 + ((0 : Nat) : Int) * 1) ((n : Int) - ((0 : Nat) : Int)) 1 := by rw [hp3]; exact Heap.get?_push_of_some _ r2
  have J4 := block_start J3 ok hN f3
  have bg := hg s3 (upd H2 D (.lst [])) s3.heap.objs.size (cellsFrom (s3.heap.objs.size + 1) scope.names (cloFrom X.env.cells scope.names [])) [it]
  have bt := ht s3 (upd H2 D (.lst [])) s3.heap.objs.size (cellsFrom (s3.heap.objs.size + 1) scope.names (cloFrom X.env.cells scope.names [])) [it]
  have be := he s3 (upd H2 D (.lst [])) s3.heap.objs.size (cellsFrom (s3.heap.objs.size + 1) scope.names (cloFrom X.env.cells scope.names [])) [it]
  change codeAny _ _ (.compStart (.ListComp elt [⟨tg, .Call (.Name "range" rp) [a0] [] rpos, ifs, 0⟩] scope pos) 0 (.ref it) (.ref D) (compEnvC scope (cellsFrom (s3.heap.objs.size + 1) scope.names (cloFrom X.env.cells scope.names [])) s3.heap.objs.size X.env))
    (compPost (model X.prog X.w) X.A X.xe use Qf (.ref D) s3.heap.objs.size) { s3 with heap := pushCells (s3.heap.push { cls := .type "dict", data := .dict #[] }) scope.names }
  generalize hce : compEnvC scope (cellsFrom (s3.heap.objs.size + 1) scope.names (cloFrom X.env.cells scope.names [])) s3.heap.objs.size X.env = ce at J4 bg bt be ⊢
  have ceL : ce.locals = s3.heap.objs.size := by rw [← hce]; rfl
  generalize hH3 : upd H2 D (.lst []) = H3 at J3 J4 bg bt be w0 n3 f3
  generalize e4 : ({ s3 with heap := pushCells (s3.heap.push { cls := .type "dict", data := .dict #[] }) scope.names } : Shared) = s4 at J4 ⊢
  have r4 : IsRangeIter s4.heap it (0 + ((0 : Nat) : Int) * 1) ((n : Int) - ((0 : Nat) : Int)) 1 := by rw [← e4]; exact pushCells_keeps _ _ _ _ (Heap.get?_push_of_some _ r3)
  -- the handled error, out of the block's reach
  obtain ⟨hh, vs1, dp, cp⟩ := id hot
  have P3 := J3.pin p (List.mem_append_left _ hp)
  have pit : p.1 ∉ [it] := fun z => f2.2.2.2.2.2 p (List.mem_append_left _ hp) (List.mem_singleton.mp z)
  have warm : ∀ {σ' : L2.St} {H' : Hp} {s' : Shared} {ps : List (Addr × Obj)}, Inv (X.blk s3 H3 scope ce [it]) ps σ' H' s' → HotX.HotAt X.A p.1 s'.heap := fun B => by
    obtain ⟨sl, g⟩ := B.base.any P3.1 P3.2.1 pit
    exact ⟨hh, _, vs1, g, dp, cp⟩
  have still : ∀ {σ' : L2.St} {H' : Hp} {s' : Shared}, Inv (X.blk s3 H3 scope ce [it]) [] σ' H' s' → H' it = none → FpOk (X.blk s3 H3 scope ce [it]) [] H' it := fun B z =>
    ⟨z, (B.ok.exf it List.mem_cons_self).1, B.ok.exfs it List.mem_cons_self, .inl List.mem_cons_self, fun x c e => (B.ok.exf it List.mem_cons_self).2 x c e, fun q hq => absurd (show q ∈ ([] : List (Addr × Obj)) ++ [] from hq) (by simp)⟩
  have loop : codeAny (model X.prog X.w) X.A (.compLoop (.ListComp elt [⟨tg, .Call (.Name "range" rp) [a0] [] rpos, ifs, 0⟩] scope pos) 0 (.ref it) (.ref D) ce) (compPost (model X.prog X.w) X.A X.xe use Qf (.ref D) s3.heap.objs.size) s4 := by
    refine compLoop_any (fun m t => ∃ (i : Nat) (H' : Hp), Inv (X.blk s3 H3 scope ce [it]) [] (wipe σ (own.map (·.2))) H' t ∧ IsRangeIter t.heap it (0 + (i : Nat) * 1) ((n : Int) - (i : Nat)) 1 ∧ H' it = none ∧ W i m H') ?_ m0 ⟨0, H3, J4, r4, n3, w0⟩
    rintro m t5 ⟨i, H5, B5, r5, n5, w5⟩
    rcases turn i m H5 w5 with ⟨stop, fin⟩ | ⟨go, Nx, less, step⟩
    · refine thnF (rng_done (X := X.blk s3 H3 scope ce [it]) (E := fun _ _ => False) (warm B5) B5 (still B5 n5) r5 stop) ?_
      rintro r t6 ⟨rfl, B6⟩
      have J7 : Inv X pins σ H5 t6 := J3.call' (ch := [it]) B6.os B6.base B6.hok B6.bare fun b hb => by
        have z := (f3 b hb).1
        exact ⟨z.2.2.2.1, z.2.1, z.2.2.2.2.1, z.2.2.2.2.2⟩
      have none5 : H5 s3.heap.objs.size = none := ceL ▸ (show H5 ce.locals = none from B6.free)
      obtain ⟨mm, hns, _⟩ := B6.loc
      have hns : t6.heap.Ns s3.heap.objs.size mm := ceL ▸ (show t6.heap.Ns ce.locals mm from hns)
      exact ends D s3.heap.objs.size t6 mm H5 J7 fin hns (J3.fpOk (Nat.le_refl _) none5)
    · refine thnF (rng_item (X := X.blk s3 H3 scope ce [it]) (E := fun _ _ => False) (tg := tg) B5 (still B5 n5) r5 go) ?_
      rintro r t6 ⟨u, rfl, h6⟩
      refine thnF h6 fun _ t7 h7 => ?_
      obtain ⟨B7, rv, r7⟩ := h7
      have here : ∀ b ∈ [it], ∃ o, t7.heap.get? b = some o ∧ ∀ v, o.data ≠ .cell v := fun b hb => by
        obtain rfl := List.mem_singleton.mp hb
        exact ⟨_, r7, fun v z => nomatch z⟩
      have B7' := B7.pinned (fp := [it]) (fun b hb => by obtain rfl := List.mem_singleton.mp hb; exact still B7 n5) here
      refine thnF (bg.run _ t7 _ H5 _ u _ B7' rv (step _ H5 ⟨rfl, rfl⟩)) ?_
      rintro _ t8 ⟨σ8, H8, B8, wp8, q8⟩
      refine thnF (bt.run _ t8 σ8 H8 _ B8 q8) ?_
      rintro b t9 ⟨H9, B9, q9⟩
      have on : ∀ {t' : Shared} {H' : Hp}, Inv (X.blk s3 H3 scope ce [it]) ([] ++ pinsAt [it] t7.heap) σ8 H' t' → Nx H' →
          ∃ m', m' < m ∧ ∃ (i : Nat) (H' : Hp), Inv (X.blk s3 H3 scope ce [it]) [] (wipe σ (own.map (·.2))) H' t' ∧ IsRangeIter t'.heap it (0 + (i : Nat) * 1) ((n : Int) - (i : Nat)) 1 ∧ H' it = none ∧ W i m' H' := fun {t' H'} B' nx => by
        obtain ⟨m', lt, w'⟩ := less H' nx
        have z := B'.pin (it, _) (List.mem_append_right _ (List.mem_append_right _ (mem_pinsAt List.mem_cons_self r7)))
        refine ⟨m', lt, i + 1, H', (B'.unpinned (pins := [])).weak (by rw [← wp8, wipe_length]) (fun j v e => ?_), z.1, z.2.1, w'⟩
        rw [← wp8] at e
        exact (wipe_some e).1
      cases b with
      | false =>
        simp only [Bool.false_eq_true, if_false] at q9 ⊢
        exact on B9 q9
      | true =>
        simp only [if_true] at q9 ⊢
        refine thnF (be.run _ t9 σ8 H9 _ B9 q9) ?_
        rintro z t10 ⟨yv, H10, B10, r10, acc, hacc, few, nx⟩
        exact app_ok (X := X.blk s3 H3 scope ce [it]) B10 hacc few r10 fun t11 B11 => on B11 nx
  exact codeAny_compStart_list loop (wpAny_pyIter_rangeiter r4 loop)
theorem pe_lcHot {p : Addr × Obj} {elt tg a0 : Expr} {ifs : List Expr} {scope : Scope} {own : List (Str × Nat)} {rp rpos pos : Pos} {ta : TA} {g : TG} {tt : TT} {te : TE} (hot : Hot1 X.A p) (hp : p ∈ X.pn) (hN : X.N.Nodup) (rg : Gl X "range") (rm : X.mg "range" = none) (ha : PA X [a0] ta)
    (ok : BlkOk X.N X.env.scope scope own)
    (hg : ∀ (s : Shared) (H : Hp) (C : Addr) (cl : List (Str × Addr)) (fp : List Addr), PG (X.blk s H scope (compEnvC scope cl C X.env) fp) tg g)
    (ht : ∀ (s : Shared) (H : Hp) (C : Addr) (cl : List (Str × Addr)) (fp : List Addr), PTs (X.blk s H scope (compEnvC scope cl C X.env) fp) ifs tt)
    (he : ∀ (s : Shared) (H : Hp) (C : Addr) (cl : List (Str × Addr)) (fp : List Addr), PE (X.blk s H scope (compEnvC scope cl C X.env) fp) elt te)
    (hs : ∀ x, foldedSetIterable (.Call (.Name "range" rp) [a0] [] rpos) X.env x = pure x := by intro _; rfl) (hst : starEach [a0] X.env = [(false, eval a0 X.env)] := by rfl) :
    PE X (.ListComp elt [⟨tg, .Call (.Name "range" rp) [a0] [] rpos, ifs, 0⟩] scope pos) (tLc (iRng1 ta) g tt te (own.map (·.2))) := by
  constructor
  intro pins s σ H Q I h
  rw [eval_ListComp]
  refine lcHot_core hot hp hN I rg rm ha ok hg ht he hs hst h ?_
  intro D C t m H' J q hn f
  obtain ⟨g0, g1, g2, g3, g4, g5⟩ := f
  exact ⟨m, hn, fun h'' sb => ⟨.ref D, H', J.turned (t' := t.toks) (fun b o hb e => (sb.2 b hb).trans e) g0 g1 g3 g4 g5, rfl, q⟩⟩
/-- x = [..] on one line -/
theorem ps_setLcHot {i : Nat} {y : Str} {py spos : Pos} {p : Addr × Obj} {elt tg a0 : Expr} {ifs : List Expr} {scope : Scope} {own : List (Str × Nat)} {rp rpos pos : Pos} {ta : TA} {g : TG} {tt : TT} {te : TE} (hy : X.N[i]? = some y) (hyl : X.env.scope.names.lookup y = some .local)
    (hsw : swapsWith (.ListComp elt [⟨tg, .Call (.Name "range" rp) [a0] [] rpos, ifs, 0⟩] scope pos) (some (.Name y py)) spos.line X.env = pure true) (hot : Hot1 X.A p) (hp : p ∈ X.pn) (hN : X.N.Nodup) (rg : Gl X "range") (rm : X.mg "range" = none) (ha : PA X [a0] ta)
    (ok : BlkOk X.N X.env.scope scope own)
    (hg : ∀ (s : Shared) (H : Hp) (C : Addr) (cl : List (Str × Addr)) (fp : List Addr), PG (X.blk s H scope (compEnvC scope cl C X.env) fp) tg g)
    (ht : ∀ (s : Shared) (H : Hp) (C : Addr) (cl : List (Str × Addr)) (fp : List Addr), PTs (X.blk s H scope (compEnvC scope cl C X.env) fp) ifs tt)
    (he : ∀ (s : Shared) (H : Hp) (C : Addr) (cl : List (Str × Addr)) (fp : List Addr), PE (X.blk s H scope (compEnvC scope cl C X.env) fp) elt te)
    (hs : ∀ x, foldedSetIterable (.Call (.Name "range" rp) [a0] [] rpos) X.env x = pure x := by intro _; rfl) (hst : starEach [a0] X.env = [(false, eval a0 X.env)] := by rfl) :
    PS X (.Assign [.Name y py] (.ListComp elt [⟨tg, .Call (.Name "range" rp) [a0] [] rpos, ifs, 0⟩] scope pos) spos) (tAsg (tLc (iRng1 ta) g tt te (own.map (·.2))) (gName i)) := by
  constructor
  intro pins s σ H D I h
  rw [exec_Assign_Name_used _ _ _ _ hsw]
  refine wpAny_bind (wpAny_standAt (wpAny_bind ?_))
  have h' : tLc (iRng1 ta) g tt te (own.map (·.2)) σ H (fun x H1 => gName i x σ H1 D.nx) := h
  refine wpAny_bind (thn (lcHot_core (Qf := fun _ t => SP X pins D .next t) hot hp hN I rg rm ha ok hg ht he hs hst h' ?_) fun _ t q => wpAny_pure (wpAny_pure q))
  intro L C t m H' J q hn f
  obtain ⟨g0, g1, g2, g3, g4, g5⟩ := f
  change wpAny _ _ (assign (.Name y py) X.env (.ref L)) _ _ _
  refine wpAny_assign_Name (store_ok2 (v := V.ref L) J hN hy (.inl hyl) rfl (fun t2 J2 hsome => ?_) (.inr hyl))
  obtain ⟨b, sb, hb⟩ := hsome
  have apart : C ≠ b := hb.elim (fun z => z ▸ g1) fun z e => g4 y b z e.symm
  exact ⟨m, hn.sameBut sb apart, fun h3 sb3 => ⟨_, H', J2.turned (t' := t2.toks) (fun b o hb e => (sb3.2 b hb).trans e) g0 g1 g3 g4 g5, q⟩⟩
end
/-! ### a def called with the handled error -/
structure FnE (P : Program) (w : World) (K : PySem.W.Frag) (mg : Str → Option Value) (base : Heap) (k : Nat) (f : Addr) (fd : FuncData) (ps : List Str) (sp : Addr → Addr → Sp) : Prop where
  len : ∀ a D vs H Q E, sp a D vs H Q E → vs.length = ps.length
  run : ∀ (A : Around) (outer : List Env) (s : Shared) (H : Hp) (us : List Value) (vs : List V) (Q : VK) (E : XK) (a D : Addr) (oe : Obj), RoomH k A → Hot1 A (a, oe) → L2N.Zn (.ref D) none oe → PinOk outer H s (a, oe) → Env0 P w K mg base A outer s H →
    BindsTo s fd ⟨us, []⟩ (ps.zip us) → Vals vs us → sp a D vs H Q E → codeAny (model P w) A (.call (.ref f) ⟨us, []⟩) (CR (L2N.CX P w) outer P w H s Q E) s
theorem FunD.okE {P : Program} {w : World} {K : PySem.W.Frag} {mg : Str → Option Value} {base : Heap} {x qual : Str} {params : Arguments} {body : List Stmt} {scope : Scope} {dvs : List V} {kws : List (Str × V)} {f : Addr} {fd : FuncData} {N ps : List Str} {k : Nat} {sp : Addr → Addr → Sp}
    (F : FunD K x qual params body scope dvs kws f fd) (S : FnScope N ps scope) (len : ∀ a D vs H Q E, sp a D vs H Q E → vs.length = ps.length)
    (hbody : ∀ (cdv : Value) (A : Around) (outer : List Env) (s : Shared) (H : Hp) (vs : List V) (Q : VK) (E : XK) (a D : Addr) (oe : Obj), Hot1 A (a, oe) → L2N.Zn (.ref D) none oe → RoomH k (A.deeper (envOfC qual scope s.heap.objs.size f cdv)) → sp a D vs H Q E →
      ∃ t, PSs (cxH (L2N.CX P w) P w K mg base N qual scope f cdv A outer s H E (a, oe)) body t ∧ t { nx := fun _ H' => Q .non H', rt := Q } (start N vs) H) : FnE P w K mg base (k + 1) f fd ps sp := by
  obtain ⟨oc, od, dV, kV, doc, pm, an, cdv, ct, osl, rfl, lk, hcd, _, _⟩ := F.ex
  refine ⟨len, ?_⟩
  intro A outer s H us vs Q E a D oe room hot zn pin env bind rv wish
  have many := len _ _ _ _ _ _ wish
  have kin : K.In s.heap := env.mod.kin.keeps fun b o e => (env.bs b o e).1
  have nolim : s.heap.NoLimit := env.mod.nolimit.keeps fun b o e => (env.bs b o e).1
  have kinds : ∀ y ∈ ps.zip us, scope.names.lookup y.1 = some .local ∨ (scope.names.lookup y.1 = some .cell ∧ ((cellsFrom (s.heap.objs.size + 1) scope.names []).lookup y.1).isSome = true) := by
    rintro ⟨n, v⟩ hy
    exact (S.par n (List.of_mem_zip hy).1).imp id fun q => ⟨q, PySem.W.cellsFrom_some _ _ _ (.inl q)⟩
  refine codeAny_call_function room.depth (kin _ _ lk) rfl S.co S.gen rfl (PySem.W.codeRec_of kin hcd) (bind _ _ _ _ ?_)
  refine wpAny_newFunctionEnv_cells S.kind kinds ?_
  rintro en rfl s1 x
  refine ⟨nolim.keeps x.toInCall.keep, codeAny_func ?_⟩
  obtain ⟨t, der, owed⟩ := hbody cdv A outer s H vs Q E a D oe hot zn (room.deeper _) wish
  have J := inv_startH (CX := L2N.CX P w) (cd := cdv) (f := f) (qual := qual) (E := E) (A := A) S pin env many rv x
  refine wpAny_mono (der.run [] s1 (L2.start N vs) H _ J owed) ?_ fun _ _ z => z
  rintro (_ | u | _ | _) t' q
  · obtain ⟨σ', H', J', q⟩ := q
    exact ⟨V.non, H', J'.os, J'.bare, J'.base, J'.hok, rfl, q⟩
  all_goals first
    | (obtain ⟨v, σ', H', J', r, q⟩ := q; exact ⟨v, H', J'.os, J'.bare, J'.base, J'.hok, r, q⟩)
    | (obtain ⟨_, _, _, q⟩ := q; exact (show False from q).elim)
def CalE (P : Program) (w : World) (K : PySem.W.Frag) (mg : Str → Option Value) (base : Heap) (x : Str) (k : Nat) (ps : List Str) (sp : Addr → Addr → Sp) : Prop :=
  ∃ fd : FuncData, FnE P w K mg base k (He.ga K x) fd ps sp ∧ mg x = some (.ref (He.ga K x)) ∧ PySem.W.keepIn K (.ref (He.ga K x)) = true ∧ Binds K fd ps []
section
variable {X : Cx} {k : Nat} {ps : List Str} {sp : Addr → Addr → Sp} {x : Str} {q pos : Pos} {e : Expr} {es : List Expr} {t : TA} {a D : Addr} {oe : Obj} {pn : List (Addr × Obj)}
theorem hot_suite (zn : L2N.Zn (.ref D) none oe) (hf : ∃ vs, oe.data = .fields vs) : Hot1 (X.suite a ((a, oe) :: pn)).A (a, oe) := by
  obtain ⟨vs, e⟩ := hf
  exact ⟨rfl, vs, e, zn.2.2 vs e⟩
theorem pe_callE (c : CalE X.prog X.w X.K X.mg X.base x k ps sp) (hr : Room k X.A) (zn : L2N.Zn (.ref D) none oe) (hf : ∃ vs, oe.data = .fields vs) (hg : Gl (X.suite a ((a, oe) :: pn)) x)
    (ha : PA (X.suite a ((a, oe) :: pn)) (e :: es) t) (hdb : (x == ("__debug__" : Str)) = false := by decide) (he : starEach (e :: es) X.env = (false, eval e X.env) :: starEach es X.env := by rfl) (hpl : (backTo pos (starEach es X.env)).any (·.1) = false := by rfl) :
    PE (X.suite a ((a, oe) :: pn)) (.Call (.Name x q) (e :: es) [] pos) (tCall (sp a D) [] E0 t) := by
  obtain ⟨fd, F, hm, hk, hb⟩ := c
  refine ⟨fun pins s σ H Q I h => wpAny_Call_Name_kw (ld_glob I hg hm ?_ hdb)⟩
  refine PySem.W.callWith_K (h₀ := X.base) I.ok.mod.kin hk (thn (ha.run pos pins s σ H _ I h) ?_) he hpl
  rintro us s1 ⟨vs, H1, J, r, wish⟩
  refine ⟨J.kIn, ?_⟩
  rw [List.append_nil] at wish
  have many : us.length = ps.length := by rw [← r.length]; exact F.len _ _ _ _ _ _ wish
  have bind := hb s1 us J.kIn (by rw [List.append_nil]; exact many)
  rw [List.append_nil] at bind
  have P1 := J.pin (a, oe) (List.mem_append_left _ List.mem_cons_self)
  have pin : PinOk (X.suite a ((a, oe) :: pn)).stack H1 s1 (a, oe) := ⟨P1.1, P1.2.1, fun hm => (List.mem_cons.mp (J.stkSub a hm)).elim P1.2.2.1 P1.2.2.2.1, P1.2.2.2.2⟩
  have room : RoomH k (X.suite a ((a, oe) :: pn)).A := ⟨hr.dp, hr.un⟩
  refine wpAny_call (codeAny_mono (F.run _ _ s1 H1 us vs Q E0 a D oe room (hot_suite zn hf) zn pin J.env0 bind r wish) ?_)
  rintro (er | fl) t' hq
  · exact passLN (X := X.suite a ((a, oe) :: pn)) pins σ H1 s1 er t' J hq
  · cases fl with
    | ret u => exact J.after hq
    | next => exact (show False from hq).elim
    | brk => exact (show False from hq).elim
    | cont => exact (show False from hq).elim
end
def rIsP (K : PySem.W.Frag) (a D : Addr) : List V → Hp → VK → Prop := fun xs H Q => ∃ (c : V) (u : Value) (b : Bool), xs = [.ref a, c] ∧ ClsV c u ∧ ExcC K D ∧ PySem.W.kitOne K (.ref D) u = some b ∧ Q (.bl b) H
theorem call_isP {X : Cx} {D : Addr} {p : Addr × Obj} (hp : p ∈ X.pn) (zn : L2N.Zn (.ref D) none p.2) (hot : Hot1 X.A p) : CallR X (.builtin "isinstance") (rIsP X.K p.1 D) := by
  intro pins s σ H xs us Q I r h
  obtain ⟨c, u, b, rfl, k, C, e, q⟩ := h
  obtain ⟨u1, u2, rfl, r1, r2⟩ := vals2 r
  have e2 := k.eq r2
  subst e2
  cases (show u1 = Value.ref p.1 from r1)
  have ho := (I.pin p (List.mem_append_left _ hp)).1
  obtain ⟨_, vs, hd, _⟩ := hot
  obtain ⟨h1, h2, _⟩ := zn
  have J : PySem.W.InstAt s.heap p.1 p.2 D none := by
    obtain ⟨pa, oc, od, oda, osl⟩ := p
    dsimp only at h1 h2 hd ho ⊢
    subst h1 h2 hd
    exact ⟨ho, rfl, rfl, trivial⟩
  exact PySem.W.kia_one (PySem.W.handS_kitx_exc C.hg C.hk C.hs C.hd C.ha C.hn C.ht C.hm) I.kIn J e (fun z => nomatch z) fun tk => ⟨.bl b, H, I.tok tk, rfl, q⟩
/-! ### try whose suite holds the error without telling of it -/
def tTryW (K : PySem.W.Frag) (c : Value) (i : Nat) (tb : WX → TS) (ts : Addr → Addr → TS) (Wout : WX) : TS := fun D σ H => tb (wAs K c i (fun a cls d => fun D' σ' H' => ∃ D0, cls = .ref D0 ∧ d = none ∧ ts a D0 D' σ' H') Wout D) D σ H
theorem ps_tryW {X : Cx} {x n : Str} {c : Value} {i : Nat} {body suite : List Stmt} {b₀ : Stmt} {np pos pos' : Pos} {tb : WX → TS} {ts : Addr → Addr → TS} {Wout : WX}
    (hs : X.stack = X.env :: X.outer) (hf : X.env.frame = some X.env.locals) (hN : X.N.Nodup) (hi : X.N[i]? = some n) (hln : X.env.kindOf n = some .local) (hc : Names X x c) (tk : L2N.Takes X Wout)
    (hb : ∀ (W : WX) (pn : List (Addr × Obj)) (xe : Value → Shared → Prop), L2N.Takes (X.tr pn xe) W → PassesOwn (model X.prog X.w) X.A X.env xe → PSs (X.tr pn xe) body (tb W))
    (hsu : ∀ (a D : Addr) (oe : Obj) (pn : List (Addr × Obj)), L2N.Zn (.ref D) none oe → (∃ vs, oe.data = .fields vs) → PSs (X.suite a ((a, oe) :: pn)) (b₀ :: suite) (ts a D)) :
    PS X (.Try body [.ExceptHandler (some (.Name x np)) (some n) (b₀ :: suite) pos'] [] [] pos) (tTryW X.K c i tb ts Wout) :=
  L2N.ps_try_as hs hf hN hi hln hc tk hb fun a oe cls d pn zn hd => ⟨fun pins s σ H D I h => by
    obtain ⟨D0, rfl, rfl, q⟩ := h
    exact (hsu a D0 oe pn zn hd).run pins s σ H D I q⟩
section
variable {fa : List He.Fa} {fb : List Fb} {fn : List He.DefD} {K : PySem.W.Frag} {mg : Str → Option Value}
theorem Facts.calE {fa : List He.Fa} {fn : List He.DefD} (T : Facts fa fn K mg) {P : Program} {w : World} {base : Heap} {k : Nat} {N ps : List Str} {sp : Addr → Addr → Sp} (i j : Nat) {d : He.DefD} {x : Str} (hi : fn[i]? = some d) (hd : d.at_ = (x, none)) (hdf : d.dfl = []) (hkw : d.kwd = []) (hj : fa[j]? = some (.glo x))
    (S : FnScope N ps d.scope) (len : ∀ a D vs H Q E, sp a D vs H Q E → vs.length = ps.length)
    (hb : ∀ (dV kV doc pm : Value) (an : Option Addr) (cdv ct : Value) (us : List Value), us.length = ps.length → bindArgs (PySem.W.fnOf d.name d.qual d.params d.body d.scope .none kV doc pm an cdv ct) ⟨us, []⟩ = pure (ps.zip us))
    (hbody : ∀ (cdv : Value) (A : Around) (outer : List Env) (s : Shared) (H : Hp) (vs : List V) (Q : VK) (E : XK) (a D : Addr) (oe : Obj), Hot1 A (a, oe) → L2N.Zn (.ref D) none oe → RoomH k (A.deeper (envOfC d.qual d.scope s.heap.objs.size (He.ga K x) cdv)) → sp a D vs H Q E →
      ∃ t, PSs (cxH (L2N.CX P w) P w K mg base N d.qual d.scope (He.ga K x) cdv A outer s H E (a, oe)) d.body t ∧ t { nx := fun _ H' => Q .non H', rt := Q } (start N vs) H) :
    CalE P w K mg base x (k + 1) ps sp := by
  obtain ⟨fd, F⟩ := T.says.def_ i hi
  have e1 : He.fAd K d.at_ = He.ga K x := by rw [hd]; rfl
  rw [e1] at F
  refine ⟨fd, FunD.okE F S len hbody, T.glo j hj, F.kp, ?_⟩
  have F2 : FunD K d.name d.qual d.params d.body d.scope [] [] (He.ga K x) fd := by
    have z1 : d.dvs K = [] := by unfold He.DefD.dvs; rw [hdf]; rfl
    have z2 : d.kws K = [] := by unfold He.DefD.kws; rw [hkw]; rfl
    rw [z1, z2] at F
    exact F
  exact F2.bindsN fun kV doc pm an cdv ct us hl => hb .none kV doc pm an cdv ct us hl
end
/-! ### steps -/
section
variable {K : PySem.W.Frag} {σ : Sg} {H F : Hp} {Q : VK} {D : Ends}
theorem sm_isP {p : Xc} {a Da : Addr} {c : V} {u : Value} {b : Bool} (ed : Da = He.ga K p.nm) (hc : ClsV c u) (C : ExcC K (He.ga K p.nm)) (e : PySem.W.kitOne K (.ref (He.ga K p.nm)) u = some b) (k : Q (.bl b) H) : rIsP K a Da [.ref a, c] H Q := by
  subst ed
  exact ⟨c, u, b, rfl, hc, C, e, k⟩
variable {S R β α : Type} {P : β → Prop} {X : Xc → Option Int → Prop}
theorem cutYW {c : Value} {i : Nat} {tb : WX → TS} {ts : Addr → Addr → TS} {Wout : WX} {m : Rs (Ctl S R)} {k : S → Rs β} {r : R → Rs β} (hm : Post (m.thn k r) P X) (I : S → Sg → Hp → Prop)
    (h1 : ∀ nx : Sg → Hp → Prop, (∀ s σ' H', I s σ' H' → Post (k s) P X → nx σ' H') → Post m (Ctl.on (fun s => Post (k s) P X) (fun s => Post (k s) P X) fun x => Post (r x) P X) X → tTryW K c i tb ts Wout { D with nx := nx } σ H)
    (h2 : ∀ s σ' H', I s σ' H' → Post (k s) P X → D.nx σ' H') : tTryW K c i tb ts Wout D σ H := cutS hm I h1 h2
theorem st_tryW {A : α → Prop} {c0 : Value} {i : Nat} {tb : WX → TS} {ts : Addr → Addr → TS} {Wout : WX} {m : Rs α} {g : Xc → Rs α} (hm : Post (tryR m fun c l => grd (l = none) (g c)) A X) (J : Unit → Hp → Sg → Hp → Prop)
    (hx : ∀ c : Xc, PySem.W.exmOne K (.ref (He.ga K c.nm)) c0 = some true)
    (hs : ∀ (c : Xc) (F' : Hp) (σ' : Sg) (H' : Hp) (a : Addr), J () F' σ' H' → Fre H' a → Post (g c) A X → ts a (He.ga K c.nm) (goneE i D) (σ'.set i (some (.ref a))) H')
    (hb : ∀ W : WX, (∀ (c : Xc) (l : Option Int) (F' : Hp) (σ' : Sg) (H' : Hp) (dx : Option Addr), J () F' σ' H' → ExD F' l dx → Post (grd (l = none) (g c)) A X → W (.ref (He.ga K c.nm)) dx σ' H') → Post m A (fun c l => Post (grd (l = none) (g c)) A X) → tb W D σ H) :
    tTryW K c0 i tb ts Wout D σ H := by
  refine hb _ (fun c l F' σ' H' dx j ex hf => ⟨true, hx c, fun _ a na => ?_, fun z => by cases z⟩) hm.tr
  obtain ⟨rfl, hf⟩ := hf.g
  obtain rfl : dx = none := ex
  exact ⟨_, rfl, rfl, hs c F' σ' H' a j na hf⟩
end
theorem sm_catTm {α : Type} {e : α → Dat} {xs ys : List α} {F H : Hp} {u w : V} {Q : VK} {K : PySem.W.Frag} (s : Same F H) (h1 : RD F (.tup (xs.map e)) u) (h2 : RD F (.tup (ys.map e)) w) (z0 : 0 < xs.length) (z : xs.length + ys.length ≤ 1000000)
    (k : ∀ x F' H', Stp [] F H F' H' → RD F' (.tup ((xs ++ ys).map e)) x → Q x H') : rAddU K u w H Q := by
  refine sm_catT s h1 h2 (fun q => ?_) (by rw [List.length_map, List.length_map]; exact z) (by rw [← List.map_append]; exact k)
  rw [List.map_eq_nil_iff] at q
  subst q
  exact absurd z0 (by simp)
end DK
set_option maxRecDepth 100000
set_option maxHeartbeats 2000000
/-! DK, eighteenth part: a list of ours whose rows are lists of ours. -/
namespace DK
open PySem PySem.Spec PyProof.Rows L2
def FreN (H : Hp) (R : List Addr) : Prop := ∀ q ∈ R, H q = none
def Dis (S R : List Addr) : Prop := ∀ q ∈ R, q ∉ S
structure OwnN {α : Type} (F H : Hp) (L : Addr) (rs : List Addr) (e : α → Dat) (xss : List (List α)) : Prop where
  own : Own F H L (.lst (rs.map V.ref))
  nd : (L :: rs).Nodup
  len : rs.length = xss.length
  row : ∀ (i : Nat) r xs, rs[i]? = some r → xss[i]? = some xs → ∃ ws, Own F H r (.lst ws) ∧ RDs F (xs.map e) ws
def rowSet {α : Type} (xss : List (List α)) (i : Int) (xs : List α) : List (List α) := match ixN xss.length i with
  | some n => xss.set n xs
  | none => xss
section
variable {α : Type} {F H F1 H1 : Hp} {L a r : Addr} {rs S S' R : List Addr} {e : α → Dat} {xss : List (List α)} {o : HO} {ws : List V} {xs : List α} {i : Int} {n : Nat}
theorem OwnN.mem (o : OwnN F H L rs e xss) {q : Addr} (h : q ∈ L :: rs) : ∃ vs, Own F H q (.lst vs) := by
  rcases List.mem_cons.mp h with rfl | h
  · exact ⟨_, o.own⟩
  · obtain ⟨i, hi⟩ := List.getElem?_of_mem h
    have hl := (List.getElem?_eq_some_iff.mp hi).1
    obtain ⟨ws, h1, _⟩ := o.row i q _ hi (List.getElem?_eq_getElem (by rw [← o.len]; exact hl))
    exact ⟨ws, h1⟩
theorem Stp.keepN (a : Stp S F H F1 H1) (d : Dis S (L :: rs)) (o : OwnN F H L rs e xss) : OwnN F1 H1 L rs e xss :=
  ⟨a.keep (d L List.mem_cons_self) o.own, o.nd, o.len, fun i r xs h1 h2 => by
    obtain ⟨ws, h3, h4⟩ := o.row i r xs h1 h2
    exact ⟨ws, a.keep (d r (List.mem_cons_of_mem _ (List.mem_of_getElem? h1))) h3, a.ups h4⟩⟩
theorem Stp.backN (a : Stp S F H F1 H1) (h : FreN H1 R) : FreN H R := fun q hq => a.dom q (h q hq)
theorem Dis.nil : Dis [] R := fun _ _ h => by cases h
theorem Dis.one (h : a ∉ R) (t : Dis S R) : Dis (a :: S) R := fun q hq z => by
  rcases List.mem_cons.mp z with rfl | z
  · exact h hq
  · exact t q hq z
theorem Dis.fre (o : OwnN F H L rs e xss) (f : FreN H S) : Dis S (L :: rs) := fun q hq z => by
  obtain ⟨vs, h⟩ := o.mem hq
  have h2 := h.h
  rw [f q z] at h2
  cases h2
theorem Dis.old {β : Type} {L2 : Addr} {rs2 : List Addr} {e2 : β → Dat} {yss : List (List β)} (o : OwnN F H L2 rs2 e2 yss) (f : FreN H R) : Dis (L2 :: rs2) R := fun q hq z => by
  obtain ⟨vs, h⟩ := o.mem z
  have := f q hq
  rw [h.h] at this
  cases this
theorem Dis.app (h : Dis S R) (t : Dis S' R) : Dis (S ++ S') R := fun q hq z => by
  rcases List.mem_append.mp z with z | z
  · exact h q hq z
  · exact t q hq z
theorem sub_self : ∀ q ∈ S, q ∈ S ∨ H q = none := fun q h => .inl h
theorem sub_fre (f : FreN H S') : ∀ q ∈ S', q ∈ S ∨ H q = none := fun q h => .inr (f q h)
theorem sub_app {S1 S2 : List Addr} (h : ∀ q ∈ S1, q ∈ S ∨ H q = none) (t : ∀ q ∈ S2, q ∈ S ∨ H q = none) : ∀ q ∈ S1 ++ S2, q ∈ S ∨ H q = none := fun q hq => by
  rcases List.mem_append.mp hq with z | z
  · exact h q z
  · exact t q z
theorem sub_appR {S1 : List Addr} : ∀ q ∈ S', q ∈ S1 ++ S' ∨ H q = none := fun q h => .inl (List.mem_append_right _ h)
theorem sub_appL {S2 : List Addr} : ∀ q ∈ S', q ∈ S' ++ S2 ∨ H q = none := fun q h => .inl (List.mem_append_left _ h)
theorem nm_fre (f : FreN H R) (h : Own F H a o) : a ∉ R := fun z => by
  have := f a z
  rw [h.h] at this
  cases this
theorem nm_own (o : OwnN F H L rs e xss) (f : Fre H a) : a ∉ L :: rs := fun z => by
  obtain ⟨vs, h⟩ := o.mem z
  have h2 := h.h
  rw [show H a = none from f] at h2
  cases h2
theorem nm_app (h : a ∉ S) (t : a ∉ S') : a ∉ S ++ S' := fun z => by
  rcases List.mem_append.mp z with z | z
  · exact h z
  · exact t z
theorem FreN.hd (f : FreN H (L :: rs)) : Fre H L := f L List.mem_cons_self
theorem Stp.wide (s : Stp S F H F1 H1) (h : ∀ q ∈ S, q ∈ S') : Stp S' F H F1 H1 := ⟨s.pre, s.ex, s.inn, fun p o n => s.own p o fun z => n (h p z), s.dom, s.tup⟩
theorem rowSet_of (h : ixN xss.length i = some n) : rowSet xss i xs = xss.set n xs := by unfold rowSet; rw [h]
/-- a row -/
theorem sm_rowN {K : PySem.W.Frag} {Q : VK} (o : OwnN F H L rs e xss) (h : atI xss i = some xs) (k : ∀ n r ws, ixN xss.length i = some n → rs[n]? = some r → Own F H r (.lst ws) → RDs F (xs.map e) ws → Q (.ref r) H) : rIxU K (.ref L) (.int i) H Q := by
  unfold atI at h
  cases q : ixN xss.length i with
  | none => rw [q] at h; cases h
  | some n =>
    rw [q] at h
    have hn := (List.getElem?_eq_some_iff.mp h).1
    obtain ⟨r, hr⟩ : ∃ r, rs[n]? = some r := ⟨_, List.getElem?_eq_getElem (by rw [o.len]; exact hn)⟩
    obtain ⟨ws, h1, h2⟩ := o.row n r xs hr h
    refine st_ixO o.own (v := .ref _) ?_ (k n _ ws q hr h1 h2)
    unfold atI
    rw [List.length_map, o.len, q]
    show (rs.map V.ref)[n]? = _
    rw [List.getElem?_map, hr]; rfl
/-- a row changed -/
theorem OwnN.chg {ws' : List V} {xs' : List α} (o : OwnN F H L rs e xss) (hn : ixN xss.length i = some n) (hr : rs[n]? = some r) (s : Stp [r] F H F1 H1) (oo : Own F1 H1 r (.lst ws')) (rr : RDs F1 (xs'.map e) ws') : Stp (L :: rs) F H F1 H1 ∧ OwnN F1 H1 L rs e (rowSet xss i xs') := by
  have rm := List.mem_of_getElem? hr
  refine ⟨s.wide fun q h => by rw [List.mem_singleton.mp h]; exact List.mem_cons_of_mem _ rm, ?_⟩
  rw [rowSet_of hn]
  have nL : L ∉ [r] := fun z => by
    have h := List.mem_singleton.mp z
    exact (List.nodup_cons.mp o.nd).1 (h ▸ rm)
  refine ⟨s.keep nL o.own, o.nd, by rw [List.length_set]; exact o.len, fun k q ys h1 h2 => ?_⟩
  by_cases z : k = n
  · subst z
    rw [hr] at h1; cases h1
    have hk : k < xss.length := by have := (List.getElem?_eq_some_iff.mp h2).1; rwa [List.length_set] at this
    rw [List.getElem?_set_self hk] at h2
    cases h2
    exact ⟨ws', oo, rr⟩
  · rw [List.getElem?_set_ne (Ne.symm z)] at h2
    obtain ⟨ws, h3, h4⟩ := o.row k q ys h1 h2
    have nq : q ∉ [r] := fun y => by
      have e := List.mem_singleton.mp y
      subst e
      have nd := (List.nodup_cons.mp o.nd).2
      obtain ⟨k1, e1⟩ := List.getElem?_eq_some_iff.mp h1
      obtain ⟨k2, e2⟩ := List.getElem?_eq_some_iff.mp hr
      have pw := List.pairwise_iff_getElem.mp nd
      rcases Nat.lt_or_ge k n with lt | ge
      · exact pw k n k1 k2 lt (e1.trans e2.symm)
      · exact pw n k k2 k1 (by omega) (e2.trans e1.symm)
    exact ⟨ws, s.keep nq h3, s.ups h4⟩
theorem sm_lenN {K : PySem.W.Frag} {Q : VK} (o : OwnN F H L rs e xss) (k : Q (.int (xss.length : Nat)) H) : rLenU K [.ref L] H Q := st_lenO o.own (by rw [List.length_map, o.len]; exact k)
/-- an end put to it: what is appended then is not looked at -/
theorem sm_appN {u : V} {Q : VK} (s : Same F H) (o : OwnN F H L rs e xss) (z : xss.length < 1000000) (k : ∀ F' H', Stp (L :: rs) F H F' H' → Q .non H') : rAppend (.ref L) [u] H Q :=
  st_app s o.own (by rw [List.length_map, o.len]; exact z) fun F' H' t _ => k F' H' (t.wide fun q h => by rw [List.mem_singleton.mp h]; exact List.mem_cons_self)
open Classical in
/-- all frozen -/
noncomputable def frzR (F H : Hp) (R : List Addr) : Hp := fun p => if p ∈ R then H p else F p
theorem frzR_in {p : Addr} (h : p ∈ R) : frzR F H R p = H p := if_pos h
theorem frzR_out {p : Addr} (h : p ∉ R) : frzR F H R p = F p := if_neg h
theorem OwnN.frz (s : Same F H) (o : OwnN F H L rs e xss) : Same F (frzR F H (L :: rs)) ∧ Same (frzR F H (L :: rs)) H ∧ RD (frzR F H (L :: rs)) (eL (eL e) xss) (.ref L) := by
  have ex : Same F (frzR F H (L :: rs)) := fun p u h => by
    by_cases z : p ∈ L :: rs
    · obtain ⟨vs, q⟩ := o.mem z
      rw [q.f] at h; cases h
    · rw [frzR_out z]; exact h
  refine ⟨ex, fun p u h => ?_, ⟨L, rs.map V.ref, rfl, by rw [frzR_in List.mem_cons_self]; exact o.own.h, ?_⟩⟩
  · by_cases z : p ∈ L :: rs
    · rw [frzR_in z] at h; exact h
    · rw [frzR_out z] at h; exact s p u h
  · have rows : ∀ (ys : List (List α)) (ts : List Addr), ts.length = ys.length → (∀ (i : Nat) r xs, ts[i]? = some r → ys[i]? = some xs → r ∈ L :: rs ∧ ∃ ws, Own F H r (.lst ws) ∧ RDs F (xs.map e) ws) → RDs (frzR F H (L :: rs)) (ys.map (eL e)) (ts.map V.ref) := by
      intro ys
      induction ys with
      | nil =>
        intro ts hl _
        rw [List.length_eq_zero_iff.mp hl]
        exact RDs.nil
      | cons y ys ih =>
        intro ts hl h
        cases ts with
        | nil => simp at hl
        | cons t ts =>
          obtain ⟨tm, ws, h1, h2⟩ := h 0 t y rfl rfl
          refine ⟨.ref t, ts.map V.ref, rfl, ⟨t, ws, rfl, by rw [frzR_in tm]; exact h1.h, h2.up ex⟩, ih ts (by simpa using hl) fun i r xs a b => h (i + 1) r xs a b⟩
    exact rows xss rs o.len fun i r xs a b => ⟨List.mem_cons_of_mem _ (List.mem_of_getElem? a), o.row i r xs a b⟩
theorem own_fzN (s : Same F H) (o : OwnN F H L rs e xss) : ∃ F2, Stp (L :: rs) F H F2 H ∧ RD F2 (eL (eL e) xss) (.ref L) := by
  obtain ⟨h1, h2, h3⟩ := o.frz s
  exact ⟨_, ⟨s, h1, h2, fun p u n f q _ => ⟨q, by rw [frzR_out n]; exact f⟩, fun p q => q, fun _ _ q => q⟩, h3⟩
theorem lendN (s : Same F H) (o : OwnN F H L rs e xss) : ∃ F1, Lent F H F1 ∧ RD F1 (eL (eL e) xss) (.ref L) ∧ ∀ p, F1 p ≠ none → F p = none → p ∈ L :: rs := by
  obtain ⟨h1, h2, h3⟩ := o.frz s
  refine ⟨_, ⟨h1, h2, fun p u q n => ?_⟩, h3, fun p q n => ?_⟩
  · by_cases z : p ∈ L :: rs
    · rw [frzR_in z] at q
      obtain ⟨vs, w⟩ := o.mem z
      rw [w.h] at q; cases q
      exact ⟨vs, rfl⟩
    · rw [frzR_out z, n] at q; cases q
  · by_cases z : p ∈ L :: rs
    · exact z
    · rw [frzR_out z] at q; exact absurd n q
end
/-! comprehensions whose items are new lists of ours -/
section
variable {α β γ : Type} {K : PySem.W.Frag} {F H : Hp} {σ : Sg} {Q : VK} {X : Xc → Option Int → Prop} {f : α → Rs (Option (List β))} {zs : List α} {g : TG} {tt : TT} {te : TE} {v : V} {e : α → Dat} {e2 : β → Dat} {L : Addr} {vs : List V} {ws : List Nat} {P : List (List β) → Prop}
abbrev LcTurnN (g : TG) (tt : TT) (te : TE) (ws : List Nat) (σ : Sg) (e2 : β → Dat) (F1 H1 : Hp) (m : Rs (Option (List β))) (X : Xc → Option Int → Prop) (u : V) : Prop :=
  ∀ (PN : Option (List β) → Prop) (NY : VK) (NN : Hp → Prop), (∀ r vs xs F4 H4, Stp [] F1 H1 F4 H4 → Fre H1 r → Own F4 H4 r (.lst vs) → RDs F4 (xs.map e2) vs → PN (some xs) → NY (.ref r) H4) → (∀ F4 H4, Stp [] F1 H1 F4 H4 → PN none → NN H4) → Post m PN X →
    g u (wipe σ ws) H1 fun σ2 H3 => wipe σ2 ws = wipe σ ws ∧ tt σ2 H3 fun b H4 => if b = true then te σ2 H4 NY else NN H4
abbrev HdN (F H : Hp) (e2 : β → Dat) (P : List (List β) → Prop) (Q : VK) : Prop := ∀ L rs r F' H', Stp [] F H F' H' → FreN H (L :: rs) → OwnN F' H' L rs e2 r → P r → Q (.ref L) H'
theorem lc_coreN {J : It} {n : Nat} {G : Hp → Prop} {Y : Nat → Hp → V → Hp → Prop} (w : Walk J n G Y) (hn : n = zs.length) (hz : zs.length ≤ 1000000) (s : Same F H) (hp : Post (mapR f zs) P X) (hG : ∀ F' H', Stp [] F H F' H' → G H')
    (hs : ∀ (i : Nat) (x : α) (u : V) F1 H1 H2, zs[i]? = some x → Stp [] F H F1 H1 → Y i H1 u H2 → H1 = H2 ∧ LcTurnN g tt te ws σ e2 F1 H2 (f x) X u)
    (hd : HdN F H e2 P Q) : LcOwes g tt te ws σ Q J H := by
  intro D nD
  refine lc_it w (fun i H' => ∃ F' rs r0, Stp [] F H F' H' ∧ FreN H (D :: rs) ∧ OwnN F' H' D rs e2 r0 ∧ rs.length ≤ i ∧ Post (mapR f (zs.drop i)) (fun r => P (r0 ++ r)) X) ?_ ?_ ?_ ?_
  · refine ⟨F, [], [], Stp.newO s nD, fun q hq => by rw [List.mem_singleton.mp hq]; exact nD, ⟨⟨s.free nD, upd_same, trivial⟩, by simp, rfl, fun i r xs h => by simp at h⟩, Nat.le_refl _, hp⟩
  · rintro i H' _ ⟨F', _, _, t, _⟩
    exact hG F' H' t
  · rintro i u H1 H2 hi ⟨F1, rs, r0, t, fr, o, hl, p⟩ y
    have hlt : i < zs.length := hn ▸ hi
    rw [List.drop_eq_getElem_cons hlt] at p
    obtain ⟨rfl, T⟩ := hs i zs[i] u F1 H1 H2 (List.getElem?_eq_getElem hlt) t y
    refine T _ _ _ ?_ ?_ p.mapc
    · rintro r vs xs F4 H4 t4 nr own hx q
      have o4 := t4.keepN Dis.nil o
      refine ⟨rs.map V.ref, o4.own.h, sz_lt (by rw [List.length_map]; omega), ?_⟩
      have tp := Stp.put (o' := .lst (rs.map V.ref ++ [.ref r])) t4.inn o4.own
      have rD : r ∉ D :: rs := nm_own o nr
      have rne : r ≠ D := fun z => rD (by rw [z]; exact List.mem_cons_self)
      have t2 : Stp [] F H F4 (upd H4 D (.lst (rs.map V.ref ++ [.ref r]))) := (t.trans t4 sub_nil).trans tp (sub_new nD sub_nil)
      refine ⟨F4, rs ++ [r], r0 ++ [xs], t2, fun q hq => ?_, ⟨⟨o4.own.f, by rw [List.map_append]; exact upd_same, trivial⟩, ?_, by rw [List.length_append, List.length_append, o.len]; rfl, fun k r' ys h1 h2 => ?_⟩, by rw [List.length_append]; simp; omega, ?_⟩
      · rcases List.mem_cons.mp hq with rfl | hq
        · exact nD
        · rcases List.mem_append.mp hq with hq | hq
          · exact fr q (List.mem_cons_of_mem _ hq)
          · rw [List.mem_singleton.mp hq]; exact t.dom r nr
      · have nd := o.nd
        rw [← List.cons_append]
        refine List.nodup_append.mpr ⟨nd, by simp, fun a ha b hb => ?_⟩
        rw [List.mem_singleton.mp hb]
        exact fun z => rD (z ▸ ha)
      · rcases snoc_at h1 with ⟨k1, k2⟩ | ⟨k1, k2⟩
        · rw [List.getElem?_append_left (by rw [← o.len]; exact k1)] at h2
          obtain ⟨ws', a, b⟩ := o4.row k r' ys k2 h2
          have ne : r' ∉ [D] := fun z => (List.nodup_cons.mp o.nd).1 ((List.mem_singleton.mp z) ▸ List.mem_of_getElem? k2)
          exact ⟨ws', tp.keep ne a, b⟩
        · subst k1 k2
          rw [o.len, List.getElem?_append_right (Nat.le_refl _), Nat.sub_self] at h2
          cases h2
          exact ⟨vs, tp.keep (fun z => rne (List.mem_singleton.mp z)) own, hx⟩
      · exact q.mono fun r z => by rw [List.append_assoc]; exact z
    · rintro F4 H4 t4 q
      exact ⟨F4, rs, r0, t.trans t4 sub_nil, fr, t4.keepN Dis.nil o, by omega, q⟩
  · rintro H' ⟨F', rs, r0, t, fr, o, _, p⟩
    rw [hn, List.drop_length] at p
    have p' : P (r0 ++ []) := p
    rw [List.append_nil] at p'
    exact hd D rs r0 F' H' t fr o p'
theorem lcN_L (h : RD F (.lst (zs.map e)) v) (s : Same F H) (hz : zs.length ≤ 1000000) (hp : Post (mapR f zs) P X)
    (hs : ∀ (x : α) (u : V) F1 H1, RD F1 (e x) u → Stp [] F H F1 H1 → LcTurnN g tt te ws σ e2 F1 H1 (f x) X u) (hd : HdN F H e2 P Q) : ∃ a, v = .ref a ∧ (∃ xs, SqL K H a xs) ∧ LcOwes g tt te ws σ Q (Itl K a) H := by
  obtain ⟨a, vs, rfl, h1, h2⟩ := h
  refine ⟨a, rfl, ⟨vs, same_l s h1⟩, lc_coreN (walk_list (xs := vs)) (by rw [h2.len, List.length_map]) hz s hp (fun F' H' t => same_l (t.ex.trans t.inn) h1) ?_ hd⟩
  rintro i x u F1 H1 H2 hx t ⟨rfl, hu⟩
  obtain ⟨d, hd, r⟩ := h2.of_at hu
  rw [List.getElem?_map, hx] at hd
  cases hd
  exact ⟨rfl, hs x u F1 _ (r.up t.ex) t⟩
theorem lcN_T (h : RD F (.tup (zs.map e)) v) (s : Same F H) (hz : zs.length ≤ 1000000) (hp : Post (mapR f zs) P X)
    (hs : ∀ (x : α) (u : V) F1 H1, RD F1 (e x) u → Stp [] F H F1 H1 → LcTurnN g tt te ws σ e2 F1 H1 (f x) X u) (hd : HdN F H e2 P Q) : ∃ a, v = .ref a ∧ (∃ xs, SqT K H a xs) ∧ LcOwes g tt te ws σ Q (Itt K a) H := by
  obtain ⟨a, vs, rfl, h1, h2⟩ := h
  refine ⟨a, rfl, ⟨vs, same_t s h1⟩, lc_coreN (walk_tup (xs := vs)) (by rw [h2.len, List.length_map]) hz s hp (fun F' H' t => same_t (t.ex.trans t.inn) h1) ?_ hd⟩
  rintro i x u F1 H1 H2 hx t ⟨rfl, hu⟩
  obtain ⟨d, hd, r⟩ := h2.of_at hu
  rw [List.getElem?_map, hx] at hd
  cases hd
  exact ⟨rfl, hs x u F1 _ (r.up t.ex) t⟩
theorem lcN_R {lo hi : Int} {f : Int → Rs (Option (List β))} (s : Same F H) (hz : (hi - lo).toNat ≤ 1000000) (hp : Post (mapR f (rngI lo hi)) P X)
    (hs : ∀ (x : Int) F1 H1, Stp [] F H F1 H1 → LcTurnN g tt te ws σ e2 F1 H1 (f x) X (.int x)) (hd : HdN F H e2 P Q) : LcOwes g tt te ws σ Q (Itr lo (hi - lo).toNat) H := by
  refine lc_coreN (walk_range (lo := lo) (n := (hi - lo).toNat)) (by simp [rngI]) (by simpa [rngI] using hz) s hp (fun _ _ _ => trivial) ?_ hd
  rintro i x u F1 H1 H2 hx t ⟨rfl, rfl⟩
  have := rngI_at hx
  subst this
  exact ⟨rfl, hs _ F1 _ t⟩
theorem lcN_R1 {hi : Int} {f : Int → Rs (Option (List β))} (hb : rngOk 0 hi = true) (s : Same F H) (hz : (hi - 0).toNat ≤ 1000000) (hp : Post (mapR f (rngI 0 hi)) P X)
    (hs : ∀ (x : Int) F1 H1, Stp [] F H F1 H1 → LcTurnN g tt te ws σ e2 F1 H1 (f x) X (.int x)) (hd : HdN F H e2 P Q) : ∃ j : Int, [V.int hi] = [.int j] ∧ -(2 ^ 62) ≤ j ∧ j < 2 ^ 62 ∧ LcOwes g tt te ws σ Q (Itr 0 j.toNat) H := by
  have hb := rngOk.b hb
  have := lcN_R (lo := 0) s hz hp hs hd
  rw [Int.sub_zero] at this
  exact ⟨hi, rfl, by omega, by omega, this⟩
end
/-! all cells set -/
def allS {α : Type} : List (Option α) → Option (List α)
  | [] => some []
  | some x :: xs => (allS xs).map (x :: ·)
  | none :: _ => none
def allSS {α : Type} : List (List (Option α)) → Option (List (List α))
  | [] => some []
  | x :: xs => (allS x).bind fun y => (allSS xs).map (y :: ·)
theorem allS_map {α : Type} {e : α → Dat} : ∀ {xs : List (Option α)} {ys : List α}, allS xs = some ys → xs.map (eO e) = ys.map e
  | [], ys, h => by cases h; rfl
  | some x :: xs, ys, h => by
    unfold allS at h
    cases q : allS xs with
    | none => rw [q] at h; cases h
    | some zs =>
      rw [q] at h
      cases h
      rw [List.map_cons, List.map_cons, allS_map q]; rfl
theorem allSS_map {α : Type} {e : α → Dat} : ∀ {xs : List (List (Option α))} {ys : List (List α)}, allSS xs = some ys → xs.map (eL (eO e)) = ys.map (eL e)
  | [], ys, h => by cases h; rfl
  | x :: xs, ys, h => by
    unfold allSS at h
    cases q : allS x with
    | none => rw [q] at h; cases h
    | some z =>
      rw [q] at h
      cases p : allSS xs with
      | none => rw [p] at h; cases h
      | some zs =>
        rw [p] at h
        cases h
        rw [List.map_cons, List.map_cons, allSS_map p]
        congr 1
        simp only [eL, allS_map q]
theorem sm_isNI {F H : Hp} {Q : VK} {o : Option Int} {u : V} (h : RD F (eO Dat.int o) u) (k : Q (.bl o.isNone) H) : rIsN u .non H Q := by
  cases o with
  | none => rw [show u = V.non from h]; exact st_isN1 k
  | some x => exact st_isN0 (by rw [show u = V.int x from h]; intro z; cases z) k
theorem sm_notNI {F H : Hp} {Q : VK} {o : Option Int} {u : V} (h : RD F (eO Dat.int o) u) (k : Q (.bl (!o.isNone)) H) : rNotN u .non H Q := by
  cases o with
  | none => rw [show u = V.non from h]; exact st_notN1 k
  | some x => exact st_notN0 (by rw [show u = V.int x from h]; intro z; cases z) k
/-- what is appended at the end of a list's life is not looked at -/
theorem sm_appX {F H : Hp} {L : Addr} {vs : List V} {u : V} {Q : VK} {α : Type} {e : α → Dat} {zs : List α} (s : Same F H) (o : Own F H L (.lst vs)) (hd : RDs F (zs.map e) vs) (z : zs.length < 1000000) (k : ∀ F' H', Stp [L] F H F' H' → Q .non H') : rAppend (.ref L) [u] H Q :=
  st_app s o (by rw [hd.len, List.length_map]; exact z) fun F' H' t _ => k F' H' t
/-! sum of a tuple -/
def rSumT (K : PySem.W.Frag) : List V → Hp → VK → Prop := fun vs H Q => ∃ (a : Addr) (ns : List Int), vs = [V.ref a] ∧ SqT K H a (ns.map V.int) ∧ Q (.int ns.sum) H
theorem cr_sumT {X : Cx} (hc : X.calm = true) : CallR X (.builtin "sum") (rSumT X.K) := by
  intro pins s σ H vs us Q I r h
  obtain ⟨a, ns, rfl, hs, q⟩ := h
  obtain ⟨its, rv, ht, _⟩ := I.tuple hs
  rw [Vals.ref1 r]
  have hi := rv.ints
  obtain ⟨xs, e⟩ := hi.allInts.items
  have hn : numsOf (intItems xs).toList = ns := by rw [← e]; exact hi.numsOf
  rw [nums_intItems] at hn
  rw [e] at ht
  refine PySem.W.ktm_sumG (I.ok.hd hc) ht fun h' tk t' hk => ?_
  rw [preSum_eq, List.take_of_length_le (by simp), hn]
  exact ⟨.int _, H, I.kept hk, ⟨_, rfl⟩, q⟩
def rSumU (K : PySem.W.Frag) : List V → Hp → VK → Prop := fun vs H Q => rSum K vs H Q ∨ rSumT K vs H Q
theorem cr_sumU {X : Cx} (hc : X.calm = true) : CallR X (.builtin "sum") (rSumU X.K) := CallR.or (cr_sum hc) (cr_sumT hc)
section
variable {K : PySem.W.Frag} {F H : Hp} {v : V} {Q : VK} {ns : List Int}
theorem sm_sumLU (s : Same F H) (h : RD F (.lst (ns.map Dat.int)) v) (k : Q (.int ns.sum) H) : rSumU K [v] H Q := .inl (sm_sumL s h k)
theorem sm_sumTU (s : Same F H) (h : RD F (.tup (ns.map Dat.int)) v) (k : Q (.int ns.sum) H) : rSumU K [v] H Q := by
  obtain ⟨a, vs, rfl, h1, h2⟩ := rd_tupV (K := K) s h
  rw [h2.ints] at h1
  exact .inr ⟨a, ns, rfl, h1, k⟩
end
end DK
set_option maxRecDepth 100000
set_option maxHeartbeats 2000000
/-! DK, nineteenth part: x in a list or tuple of data. -/
namespace DK
open PySem PySem.Spec PyProof.Rows L2
section
variable {X : Cx} {pins : List (Addr × Obj)} {σ : L2.St} {H : Hp} {s : Shared}
mutual
theorem dp_inj (I : Inv X pins σ H s) : ∀ (d d' : PyData) (v : V), Dp X.K H v d → Dp X.K H v d' → d = d'
  | .none, _, _, h, k => by cases h; cases k; rfl
  | .bool b, _, _, h, k => by cases h; cases k; rfl
  | .int i, _, _, h, k => by cases h; cases k; rfl
  | .str x, _, _, h, k => by cases h; cases k; rfl
  | .list ds, _, _, h, k => by
    cases h with
    | lst q1 a1 =>
      cases k with
      | lst q2 a2 =>
        cases I.list_inj q1 q2
        rw [dps_inj I ds _ _ a1 a2]
      | tup q2 a2 =>
        obtain ⟨its, _, ⟨o, n, ho, hc, _, _⟩, _⟩ := I.list q1
        obtain ⟨its', _, ⟨o', ho', hc', _⟩, _⟩ := I.tuple q2
        rw [ho] at ho'; cases ho'
        rw [hc] at hc'
        exact absurd hc' (by decide)
  | .tuple ds, _, _, h, k => by
    cases h with
    | tup q1 a1 =>
      cases k with
      | tup q2 a2 =>
        cases I.tuple_inj q1 q2
        rw [dps_inj I ds _ _ a1 a2]
      | lst q2 a2 =>
        obtain ⟨its', _, ⟨o', ho', hc', _⟩, _⟩ := I.tuple q1
        obtain ⟨its, _, ⟨o, n, ho, hc, _, _⟩, _⟩ := I.list q2
        rw [ho] at ho'; cases ho'
        rw [hc] at hc'
        exact absurd hc' (by decide)
  | .dict _, _, _, h, _ => by cases h
theorem dps_inj (I : Inv X pins σ H s) : ∀ (ds ds' : List PyData) (vs : List V), DpAll X.K H vs ds → DpAll X.K H vs ds' → ds = ds'
  | [], _, _, h, k => by cases h; cases k; rfl
  | d :: ds, _, _, h, k => by
    cases h with
    | cons h1 h2 =>
      cases k with
      | cons k1 k2 => rw [dp_inj I d _ _ h1 k1, dps_inj I ds _ _ h2 k2]
end
end
def rInD (K : PySem.W.Frag) (neg : Bool) : R2 := fun x y H Q => ∃ (p : Addr) (xs : List V) (d : PyData) (ds : List PyData), y = .ref p ∧ (SqL K H p xs ∨ SqT K H p xs) ∧ Dp K H x d ∧ DpAll K H xs ds ∧ SeqAt.shaped d = true ∧ d.depth ≤ 60 ∧ (∀ e ∈ ds, SeqAt.shaped e = true) ∧
  Q (.bl (if neg then !ds.any (fun e => PyData.eqv e d) else ds.any fun e => PyData.eqv e d)) H
section
variable {X : Cx} {pins : List (Addr × Obj)} {σ : L2.St} {H : Hp} {s : Shared}
theorem dps_at {K : PySem.W.Frag} : ∀ {vs : List V} {ds : List PyData} {us : List Value} {u : Value}, DpAll K H vs ds → Vals vs us → u ∈ us → ∃ v d, d ∈ ds ∧ Dp K H v d ∧ RelV v u
  | _, _, _, _, .nil, .nil, h => by cases h
  | _, _, _, u, .cons h1 h2, .cons r1 r2, h => by
    rcases List.mem_cons.mp h with rfl | h
    · exact ⟨_, _, List.mem_cons_self, h1, r1⟩
    · obtain ⟨v, d, m, a, b⟩ := dps_at h2 r2 h
      exact ⟨v, d, List.mem_cons_of_mem _ m, a, b⟩
open Classical in
/-- what == tells of a value that bears data -/
noncomputable def tells (K : PySem.W.Frag) (H : Hp) (d : PyData) (u : Value) : Bool := if ∃ v e, RelV v u ∧ Dp K H v e ∧ PyData.eqv e d = true then true else false
theorem tells_of (I : Inv X pins σ H s) {d e : PyData} {v : V} {u : Value} (r : RelV v u) (h : Dp X.K H v e) : tells X.K H d u = PyData.eqv e d := by
  unfold tells
  by_cases z : ∃ v e, RelV v u ∧ Dp X.K H v e ∧ PyData.eqv e d = true
  · rw [if_pos z]
    obtain ⟨v', e', r', h', q⟩ := z
    cases r.inj r'
    rw [dp_inj I _ _ _ h h', q]
  · rw [if_neg z]
    cases q : PyData.eqv e d with
    | false => rfl
    | true => exact absurd ⟨v, e, r, h, q⟩ z
theorem tells_any (I : Inv X pins σ H s) {d : PyData} : ∀ {vs : List V} {ds : List PyData} {us : List Value}, DpAll X.K H vs ds → Vals vs us → us.any (tells X.K H d) = ds.any fun e => PyData.eqv e d
  | _, _, _, .nil, .nil => rfl
  | _, _, _, .cons h1 h2, .cons r1 r2 => by rw [List.any_cons, List.any_cons, tells_of I r1 h1, tells_any I h2 r2]
theorem tells_eq (I : Inv X pins σ H s) (hu : X.A.units + 64 < cLine) {d : PyData} {x : V} {v : Value} (hx : Dp X.K H x d) (rx : RelV x v) (sd : SeqAt.shaped d = true) (dd : d.depth ≤ 60) {vs : List V} {ds : List PyData} {us : List Value} (h : DpAll X.K H vs ds) (r : Vals vs us) (sh : ∀ e ∈ ds, SeqAt.shaped e = true) :
    ∀ u ∈ us, SeqAt.EqAt X.A.in1 s u v (tells X.K H d u) := fun u hm => by
  obtain ⟨w, e, m, hw, rw_⟩ := dps_at h r hm
  rw [tells_of I rw_ hw]
  obtain ⟨as, r1⟩ := Dp.reads I e w u hw rw_
  obtain ⟨bs, r2⟩ := Dp.reads I d x v hx rx
  refine SeqAt.eqAt_reads e d X.A.in1 s u v as bs r1 r2 (SeqAt.canLay_of_shaped (sh e m)) (SeqAt.canLay_of_shaped sd) ?_
  have h2 : min e.depth d.depth ≤ d.depth := Nat.min_le_right _ _
  have h3 : X.A.in1.units ≤ X.A.units + 2 := by simp [Around.in1]
  omega
theorem op_inD (hu : X.A.units + 64 < cLine) : OpR X (compareOp .In) (rInD X.K false) := by
  intro pins s σ H x y v u Q I rx ry h
  obtain ⟨p, xs, d, ds, rfl, hq, hx, hds, sd, dd, sh, q⟩ := h
  cases ry
  rcases hq with hq | hq
  · obtain ⟨its, r, pl, hz⟩ := I.list hq
    refine SeqAt.in_listAt (tells X.K H d) pl.isList (fun w hw => tells_eq I hu hx rx sd dd hds r sh w (by simpa using hw)) ⟨.bl _, H, I, rfl, ?_⟩
    rw [show its.toArray.any (tells X.K H d) = its.any (tells X.K H d) by simp, tells_any I hds r]
    exact q
  · obtain ⟨its, r, pl, hz⟩ := I.tuple hq
    refine SeqAt.in_tupleAt (tells X.K H d) pl (fun w hw => tells_eq I hu hx rx sd dd hds r sh w (by simpa using hw)) ⟨.bl _, H, I, rfl, ?_⟩
    rw [show its.toArray.any (tells X.K H d) = its.any (tells X.K H d) by simp, tells_any I hds r]
    exact q
theorem op_notInD (hu : X.A.units + 64 < cLine) : OpR X (compareOp .NotIn) (rInD X.K true) := by
  intro pins s σ H x y v u Q I rx ry h
  obtain ⟨p, xs, d, ds, rfl, hq, hx, hds, sd, dd, sh, q⟩ := h
  cases ry
  rcases hq with hq | hq
  · obtain ⟨its, r, pl, hz⟩ := I.list hq
    refine SeqAt.notIn_listAt (tells X.K H d) pl.isList (fun w hw => tells_eq I hu hx rx sd dd hds r sh w (by simpa using hw)) ⟨.bl _, H, I, rfl, ?_⟩
    rw [show its.toArray.any (tells X.K H d) = its.any (tells X.K H d) by simp, tells_any I hds r]
    exact q
  · obtain ⟨its, r, pl, hz⟩ := I.tuple hq
    refine SeqAt.notIn_tupleAt (tells X.K H d) pl (fun w hw => tells_eq I hu hx rx sd dd hds r sh w (by simpa using hw)) ⟨.bl _, H, I, rfl, ?_⟩
    rw [show its.toArray.any (tells X.K H d) = its.any (tells X.K H d) by simp, tells_any I hds r]
    exact q
end
/-! the steps -/
def inD {α : Type} (e : α → Dat) (x : α) (xs : List α) : Bool := xs.any fun y => datEq (e y) (e x)
section
variable {α : Type} {K : PySem.W.Frag} {F H : Hp} {Q : VK} {u v : V} {e : α → Dat} {x : α} {xs : List α} {n : Nat}
theorem toPys_map : ∀ xs : List α, toPys (xs.map e) = xs.map fun y => toPy (e y)
  | [] => by simp only [List.map_nil, toPys]
  | x :: xs => by simp only [List.map_cons, toPys, toPys_map xs]
theorem in_data (s : Same F H) (p : PlE n e) (hn : n ≤ 60) (hx : RD F (e x) u) (h : RD F (.lst (xs.map e)) v ∨ RD F (.tup (xs.map e)) v) :
    ∃ (p : Addr) (vs : List V) (d : PyData) (ds : List PyData), v = .ref p ∧ (SqL K H p vs ∨ SqT K H p vs) ∧ Dp K H u d ∧ DpAll K H vs ds ∧ SeqAt.shaped d = true ∧ d.depth ≤ 60 ∧ (∀ e ∈ ds, SeqAt.shaped e = true) ∧ (ds.any fun e => PyData.eqv e d) = inD e x xs := by
  have pm := p.maps xs
  have sh : ∀ z ∈ toPys (xs.map e), SeqAt.shaped z = true := fun z hz => by
    rw [toPys_map] at hz
    obtain ⟨y, _, rfl⟩ := List.mem_map.mp hz
    exact (p.pl hn y).shaped
  have an : ((toPys (xs.map e)).any fun z => PyData.eqv z (toPy (e x))) = inD e x xs := by
    rw [toPys_map, List.any_map]; rfl
  have dx : Dp K H u (toPy (e x)) := RD.dp s hx (by have := (p x).2; omega)
  rcases h with h | h
  · obtain ⟨a, vs, rfl, h1, h2⟩ := rd_lstV (K := K) s h
    exact ⟨a, vs, _, _, rfl, .inl h1, dx, RDs.dp s h2 (by omega), (p.pl hn x).shaped, by have := py_depth (e x); have := (p x).2; omega, sh, an⟩
  · obtain ⟨a, vs, rfl, h1, h2⟩ := rd_tupV (K := K) s h
    exact ⟨a, vs, _, _, rfl, .inr h1, dx, RDs.dp s h2 (by omega), (p.pl hn x).shaped, by have := py_depth (e x); have := (p x).2; omega, sh, an⟩
theorem sm_inD (s : Same F H) (p : PlE n e) (hn : n ≤ 60) (hx : RD F (e x) u) (h : RD F (.lst (xs.map e)) v ∨ RD F (.tup (xs.map e)) v) (k : Q (.bl (inD e x xs)) H) : rInD K false u v H Q := by
  obtain ⟨p, vs, d, ds, h1, h2, h3, h4, h5, h0, h6, h7⟩ := in_data (K := K) s p hn hx h
  exact ⟨p, vs, d, ds, h1, h2, h3, h4, h5, h0, h6, by rw [if_neg (by decide), h7]; exact k⟩
theorem sm_ninD (s : Same F H) (p : PlE n e) (hn : n ≤ 60) (hx : RD F (e x) u) (h : RD F (.lst (xs.map e)) v ∨ RD F (.tup (xs.map e)) v) (k : Q (.bl (!inD e x xs)) H) : rInD K true u v H Q := by
  obtain ⟨p, vs, d, ds, h1, h2, h3, h4, h5, h0, h6, h7⟩ := in_data (K := K) s p hn hx h
  exact ⟨p, vs, d, ds, h1, h2, h3, h4, h5, h0, h6, by rw [if_pos rfl, h7]; exact k⟩
theorem inD_iff [DecidableEq α] (q : EqE e) : inD e x xs = decide (x ∈ xs) := by
  unfold inD
  rw [Bool.eq_iff_iff, List.any_eq_true, decide_eq_true_eq]
  constructor
  · rintro ⟨y, hy, h⟩
    rw [q.iff, decide_eq_true_eq] at h
    exact h ▸ hy
  · intro h
    exact ⟨x, h, by rw [q.iff, decide_eq_true rfl]⟩
end
def rInU (K : PySem.W.Frag) (neg : Bool) : R2 := fun x y H Q => rIn K neg x y H Q ∨ rInD K neg x y H Q
theorem op_inU {X : Cx} (hu : X.A.units + 64 < cLine) : OpR X (compareOp .In) (rInU X.K false) := by
  intro pins s σ H x y v u Q I rx ry h
  rcases h with h | h
  · exact op_in_seq pins s σ H x y v u Q I rx ry h
  · exact op_inD hu pins s σ H x y v u Q I rx ry h
theorem op_notInU {X : Cx} (hu : X.A.units + 64 < cLine) : OpR X (compareOp .NotIn) (rInU X.K true) := by
  intro pins s σ H x y v u Q I rx ry h
  rcases h with h | h
  · exact op_notIn_seq pins s σ H x y v u Q I rx ry h
  · exact op_notInD hu pins s σ H x y v u Q I rx ry h
theorem eQ_or {α : Type} {F : Hp} {b : Bool} {e : α → Dat} {xs : List α} {v : V} (h : RD F (eQ b e xs) v) : RD F (.lst (xs.map e)) v ∨ RD F (.tup (xs.map e)) v := by
  cases b with
  | true => exact .inr h
  | false => exact .inl h
end DK
set_option maxRecDepth 100000
set_option maxHeartbeats 2000000
/-! DK, twentieth part: lending within an expression; rows frozen alone. -/
namespace DK
open PySem PySem.Spec PyProof.Rows L2
section
variable {α : Type} {F H F1 H1 : Hp} {L a r : Addr} {rs S S' R : List Addr} {e : α → Dat} {xss : List (List α)} {o : HO} {vs ws : List V} {ds : List Dat} {xs : List α} {i : Int} {n : Nat}
theorem lendN2 (s : Same F H) (o : OwnN F H L rs e xss) : ∃ F1, Lent F H F1 ∧ Stp (L :: rs) F H F1 H ∧ RD F1 (eL (eL e) xss) (.ref L) := by
  obtain ⟨h1, h2, h3⟩ := o.frz s
  refine ⟨_, ⟨h1, h2, fun p u q n => ?_⟩, ⟨s, h1, h2, fun p u n f q _ => ⟨q, by rw [frzR_out n]; exact f⟩, fun p q => q, fun _ _ q => q⟩, h3⟩
  by_cases z : p ∈ L :: rs
  · rw [frzR_in z] at q
    obtain ⟨vs, w⟩ := o.mem z
    rw [w.h] at q; cases q
    exact ⟨vs, rfl⟩
  · rw [frzR_out z, n] at q; cases q
theorem lend1s (s : Same F H) (o : Own F H L (.lst vs)) (h : RDs F (xs.map e) vs) : ∃ F1, Lent F H F1 ∧ Stp [L] F H F1 H ∧ RD F1 (eL e xs) (.ref L) := by
  have l := (Lent.none s).one o
  exact ⟨_, l, Stp.frz s o, ⟨L, vs, rfl, upd_same, h.up l.old⟩⟩
/-- the rows alone are frozen -/
theorem own_fzR (s : Same F H) (o : OwnN F H L rs e xss) : ∃ F2, Stp (L :: rs) F H F2 H ∧ ∃ ws, Own F2 H L (.lst ws) ∧ RDs F2 (xss.map (eL e)) ws := by
  have nL : L ∉ rs := (List.nodup_cons.mp o.nd).1
  have ex : Same F (frzR F H rs) := fun p u h => by
    by_cases z : p ∈ rs
    · obtain ⟨vs, q⟩ := o.mem (List.mem_cons_of_mem _ z)
      rw [q.f] at h; cases h
    · rw [frzR_out z]; exact h
  have inn : Same (frzR F H rs) H := fun p u h => by
    by_cases z : p ∈ rs
    · rw [frzR_in z] at h; exact h
    · rw [frzR_out z] at h; exact s p u h
  refine ⟨_, ⟨s, ex, inn, fun p u n f q _ => ⟨q, by rw [frzR_out fun z => n (List.mem_cons_of_mem _ z)]; exact f⟩, fun p q => q, fun _ _ q => q⟩, rs.map V.ref, ⟨by rw [frzR_out nL]; exact o.own.f, o.own.h, trivial⟩, ?_⟩
  have rows : ∀ (ys : List (List α)) (ts : List Addr), ts.length = ys.length → (∀ (i : Nat) r xs, ts[i]? = some r → ys[i]? = some xs → r ∈ rs ∧ ∃ ws, Own F H r (.lst ws) ∧ RDs F (xs.map e) ws) → RDs (frzR F H rs) (ys.map (eL e)) (ts.map V.ref) := by
    intro ys
    induction ys with
    | nil =>
      intro ts hl _
      rw [List.length_eq_zero_iff.mp hl]
      exact RDs.nil
    | cons y ys ih =>
      intro ts hl h
      cases ts with
      | nil => simp at hl
      | cons t ts =>
        obtain ⟨tm, ws, h1, h2⟩ := h 0 t y rfl rfl
        refine ⟨.ref t, ts.map V.ref, rfl, ⟨t, ws, rfl, by rw [frzR_in tm]; exact h1.h, h2.up ex⟩, ih ts (by simpa using hl) fun i r xs a b => h (i + 1) r xs a b⟩
  exact rows xss rs o.len fun i r xs a b => ⟨List.mem_of_getElem? a, o.row i r xs a b⟩
end
end DK
set_option maxRecDepth 100000
set_option maxHeartbeats 2000000
/-! DK, twenty-first part: slices of tuples of few, pop of a place. -/
namespace DK
open PySem PySem.Spec PyProof.Rows L2
section
variable {α β : Type} {K : PySem.W.Frag} {F H : Hp} {Q : VK} {X : Xc → Option Int → Prop} {L : Addr} {vs : List V} {v : V} {ds : List Dat} {lo hi : Option Int} {e : α → Dat} {zs : List α} {i : Int} {z : α}
theorem sm_slD (s : Same F H) (h : RD F (.tup ds) v) (k : ∀ u F' H', Stp [] F H F' H' → RD F' (.tup (cutL ds lo hi)) u → Q u H') : rSlU K v lo hi H Q :=
  sm_slT (e := id) (zs := ds) s (by rw [List.map_id]; exact h) fun u F' H' t r => k u F' H' t (by rw [List.map_id] at r; exact r)
theorem sm_lenP {n : Int} (s : Same F H) (h : RD F (.tup ds) v) (e : (ds.length : Int) = n) (k : Q (.int n) H) : rLenU K [v] H Q := st_lenT s h (by rw [e]; exact k)
def popAtR (xs : List α) (i : Int) (k : α → List α → Rs β) : Rs β := if (decide (0 ≤ i) && decide (i.natAbs.log2 < 60)) = true then (match xs[i.toNat]? with
  | some x => k x (xs.eraseIdx i.toNat)
  | none => .bad) else .bad
theorem Post.popAt {P : β → Prop} {xs : List α} {i : Int} {k : α → List α → Rs β} (h : Post (popAtR xs i k) P X) : ∃ x, xs[i.toNat]? = some x ∧ 0 ≤ i ∧ i < 2 ^ 63 ∧ Post (k x (xs.eraseIdx i.toNat)) P X := by
  unfold popAtR at h
  split at h
  · rename_i c
    simp only [Bool.and_eq_true, decide_eq_true_eq] at c
    cases q : xs[i.toNat]? with
    | none => rw [q] at h; exact h.elim
    | some x =>
      rw [q] at h
      refine ⟨x, rfl, c.1, ?_, h⟩
      have h1 := Nat.lt_log2_self (n := i.natAbs)
      have h2 : 2 ^ (i.natAbs.log2 + 1) ≤ 2 ^ 60 := Nat.pow_le_pow_right (by decide) (by omega)
      omega
  · exact h.elim
theorem RDs.erase {ds : List Dat} (h : RDs F ds vs) (n : Nat) : RDs F (ds.eraseIdx n) (vs.eraseIdx n) := by
  induction ds generalizing vs n with
  | nil => rw [show vs = [] from h]; exact RDs.nil
  | cons d ds ih =>
    obtain ⟨v, r, rfl, h1, h2⟩ := h
    cases n with
    | zero => exact h2
    | succ n => exact ⟨v, r.eraseIdx n, rfl, h1, ih h2 n⟩
theorem map_erase (f : α → Dat) (xs : List α) (n : Nat) : (xs.eraseIdx n).map f = (xs.map f).eraseIdx n := by
  induction xs generalizing n with
  | nil => rfl
  | cons x xs ih => cases n with
    | zero => rfl
    | succ n => simp [ih]
theorem sm_popAt (s : Same F H) (o : Own F H L (.lst vs)) (h : RDs F (zs.map e) vs) (hz : zs[i.toNat]? = some z) (h0 : 0 ≤ i) (h1 : i < 2 ^ 63) (k : ∀ u ws F' H', Stp [L] F H F' H' → Own F' H' L (.lst ws) → RDs F' ((zs.eraseIdx i.toNat).map e) ws → RD F' (e z) u → Q u H') : rPopAt (.ref L) [.int i] H Q := by
  have hl : vs.length = zs.length := by rw [h.len, List.length_map]
  obtain ⟨u, hu, r⟩ := h.at (i := i.toNat) (d := e z) (by rw [List.getElem?_map, hz]; rfl)
  have il := (List.getElem?_eq_some_iff.mp hz).1
  refine ⟨L, vs, i, i.toNat, u, rfl, rfl, o.h, by omega, h1, ?_, hu, ?_⟩
  · unfold seqIndex?
    simp only [show ¬ i < 0 by omega, if_false]
    rw [if_pos]
    rw [Bool.and_eq_true, decide_eq_true_eq, decide_eq_true_eq]; omega
  · have t : Stp [L] F H F (upd H L (.lst (vs.eraseIdx i.toNat))) := Stp.put s o
    exact k u _ F _ t ⟨o.f, upd_same, trivial⟩ (by rw [map_erase]; exact h.erase _) r
/-- a written number, kept from being reckoned with -/
@[irreducible] def nI (i : Int) : Int := i
theorem nI_eq (i : Int) : nI i = i := by unfold nI; rfl
theorem nI_v (i : Int) : V.int i = V.int (nI i) := by rw [nI_eq]
/-- no object itself -/
def nob : Dat → Bool
  | .obj _ _ _ => false
  | .exc _ _ => false
  | .dct _ => false
  | _ => true
theorem RD.tyN (s : Same F H) {d : Dat} {u : V} (h : RD F d u) (z : nob d = true) : TyX K H u (.type (tyN d)) := by
  cases d with
  | non => rw [show u = V.non from h]; exact .base .non
  | bl b => rw [show u = V.bl b from h]; exact .base (.bl b)
  | int i => rw [show u = V.int i from h]; exact .base (.int i)
  | str x => rw [show u = V.str x from h]; exact .base (.str x)
  | lst ds => obtain ⟨a, vs, rfl, h1, h2⟩ := h; exact .base (.lst (s a _ h1))
  | tup ds => obtain ⟨a, vs, rfl, h1, h2⟩ := h; exact .base (.tup (s a _ h1))
  | obj C ns ds => cases z
  | exc C l => cases z
  | dct kvs => cases z
theorem sm_isbN {T : String} {b : Bool} {d : Dat} {u : V} (s : Same F H) (h : RD F d u) (z : nob d = true) (e : kitB (DK.tyN d) T = some b) (k : Q (.bl b) H) : rIsi K [u, .ty T] H Q :=
  ⟨u, .ty T, _, _, b, rfl, .ty T, RD.tyN s h z, kit_ty e, k⟩
end
end DK
set_option maxRecDepth 100000
set_option maxHeartbeats 2000000
/-! DK, twenty-second part: methods of own classes, classes without __init__. -/
namespace DK
open PySem PySem.Spec PyProof.Rows L2
/-! ### C() of a class without __init__ -/
structure MkP (K : PySem.W.Frag) (C : Addr) : Prop where
  makes : PySem.W.makesIn K C = true
  ini : PySem.W.findIn K (.ref C) "__init__" = some (some (.builtin "object.__init__"))
  kp : PySem.W.keepIn K (.ref C) = true
  top : PySem.W.mroIn K C (.type "object") = some true
def tMakePlain (C : Addr) : TE := fun _ H Q => ∀ x dx, H x = none → H dx = none → dx ≠ x → Q (.ref x) (upd (upd H dx (.own x)) x (.ins C dx []))
section
variable {X : Cx} {C : Addr} {x : Str} {p pos : Pos}
theorem run_plain {pins : List (Addr × Obj)} {σ : L2.St} {H : Hp} {s : Shared} {Q : VK} (M : MkP X.K C) (I : Inv X pins σ H s) (h : tMakePlain C σ H Q) : wpAny (model X.prog X.w) X.A (call (.ref C) []) (EP X pins σ Q) X.xe s := by
  have hq := h (s.heap.objs.size + 1) s.heap.objs.size (I.hok.fresh (Nat.le_succ _)) (I.hok.fresh (Nat.le_refl _)) (Nat.ne_of_lt (Nat.lt_succ_self _))
  have J := Inv.made (C := C) I
  refine wpAny_call (make_map0 I.kIn M.makes M.ini (fun self => PySem.W.Looks.of_pure (PySem.W.oi_bind _)) ?_)
  have ho : ((s.heap.push PySem.W.emptyDict).push (PySem.W.instObj C s.heap.objs.size)).get? (s.heap.objs.size + 1) = some (PySem.W.instObj C s.heap.objs.size) := by
    have h1 := Heap.get?_push_size (s.heap.push PySem.W.emptyDict) (o := PySem.W.instObj C s.heap.objs.size) rfl
    rw [Heap.size_push] at h1
    exact h1
  have t1 : PySem.W.Looks (model X.prog X.w) ((s.heap.push PySem.W.emptyDict).push (PySem.W.instObj C s.heap.objs.size)) (typeOf (.ref (s.heap.objs.size + 1))) (.ref C) := (PySem.W.Looks.ld ho).andThen .now
  have t2 : PySem.W.Looks (model X.prog X.w) ((s.heap.push PySem.W.emptyDict).push (PySem.W.instObj C s.heap.objs.size)) (isInstance (.ref (s.heap.objs.size + 1)) (.type "object")) true := t1.andThen (PySem.W.looks_mroIn J.kIn M.top)
  refine codeAny_call_builtin PySem.W.oi_plain PySem.W.entry_oi (@PySem.W.check_slot (model X.prog X.w) _ _ _ "object.__init__" "object" "__init__" (.ref (s.heap.objs.size + 1)) [] [] _ PySem.W.oi_kind PySem.W.oi_split t2 (PySem.W.oi_args (.ref (s.heap.objs.size + 1))) ?_)
  rw [PySem.W.oi_run]
  exact wpAny_pure (And.intro rfl ⟨V.ref (s.heap.objs.size + 1), _, J, rfl, hq⟩)
theorem pe_makePlain (M : MkP X.K C) (hg : Gl X x) (hm : X.mg x = some (.ref C)) (hdb : (x == ("__debug__" : Str)) = false := by decide) : PE X (.Call (.Name x p) [] [] pos) (tMakePlain C) := by
  refine ⟨fun pins s σ H Q I h => ?_⟩
  refine wpAny_Call_Name_kw (ld_glob I hg hm ?_ hdb)
  exact PySem.W.callWith_K0 I.kIn M.kp (run_plain M I h)
end
section
variable {fa : List He.Fa} {fb : List Fb} {fn : List He.DefD} {K : PySem.W.Frag} {mg : Str → Option Value}
theorem FactsB.mko (T : FactsB fa fb fn K mg) (i j : Nat) {x : Str} (h : fb[i]? = some (.mko x) := by rfl) (h' : fb[j]? = some (.ins x) := by rfl) : MkP K (He.ga K x) := by
  obtain ⟨h1, h2⟩ := He.ba (T.more i _ h)
  obtain ⟨h2, h3⟩ := He.ba h2
  exact ⟨h1, of_decide_eq_true h2, h3, (T.ins j h').hm⟩
end
/-! ### methods -/
def MetOk (P : Program) (w : World) (K : PySem.W.Frag) (mg : Str → Option Value) (base : Heap) (C m : Str) (k : Nat) (ps : List Str) (sp : Sp) : Prop :=
  ∃ (f : Addr) (fd : FuncData), Cls K (He.ga K C) ∧ Meth K (He.ga K C) m f ∧ FnOk P w K mg base (L2N.CX P w) k f fd ps sp ∧ Binds K fd ps []
/-- a method that is one of several, by the class of its instance -/
def MetA (P : Program) (w : World) (K : PySem.W.Frag) (mg : Str → Option Value) (base : Heap) (m : Str) (k : Nat) (al : List (Str × Sp)) : Prop :=
  ∀ a ∈ al, ∃ ps k', k' ≤ k ∧ MetOk P w K mg base a.1 m k' ps a.2
theorem MetA.nil {P : Program} {w : World} {K : PySem.W.Frag} {mg : Str → Option Value} {base : Heap} {m : Str} {k : Nat} : MetA P w K mg base m k [] := fun _ h => by cases h
theorem MetA.cons {P : Program} {w : World} {K : PySem.W.Frag} {mg : Str → Option Value} {base : Heap} {C m : Str} {k k' : Nat} {ps : List Str} {sp : Sp} {al : List (Str × Sp)} (h : MetOk P w K mg base C m k' ps sp) (l : k' ≤ k) (t : MetA P w K mg base m k al) : MetA P w K mg base m k ((C, sp) :: al) := fun a ha => by
  rcases List.mem_cons.mp ha with rfl | ha
  · exact ⟨ps, k', l, h⟩
  · exact t a ha
def tMethA (K : PySem.W.Frag) (m : Str) (al : List (Str × Sp)) (E : XK) (ta : TE) (t : TA) : TE := fun σ H Q => ta σ H fun x H1 => ∃ a dx fs p, p ∈ al ∧ x = .ref a ∧ H1 a = some (.ins (He.ga K p.1) dx fs) ∧ fs.lookup m = none ∧
  t σ H1 fun vs H2 => p.2 (x :: (vs ++ [])) H2 Q E
def tMethX (K : PySem.W.Frag) (m : Str) (al : List (Str × Sp)) (E : L2.St → XK) (ta : TE) (t : TA) : TE := fun σ H Q => ta σ H fun x H1 => ∃ a dx fs p, p ∈ al ∧ x = .ref a ∧ H1 a = some (.ins (He.ga K p.1) dx fs) ∧ fs.lookup m = none ∧
  t σ H1 fun vs H2 => p.2 (x :: (vs ++ [])) H2 Q (E σ)
section
variable {X : Cx} {k : Nat} {al : List (Str × Sp)} {m : Str} {pos apos : Pos} {e o : Expr} {es : List Expr} {ta : TE} {t : TA}
theorem pe_methX {E : L2.St → XK} {pl : Sem Bool} (c : MetA X.prog X.w X.K X.mg X.base m k al) (hr : Room k X.A) (hx : ∀ σ, PassesAt (L2N.CX X.prog X.w) X σ (E σ)) (he : PE X o ta) (ha : PA X (e :: es) t)
    (hst : starEach (e :: es) X.env = (false, eval e X.env) :: starEach es X.env := by rfl) (hpl : (backTo pos (starEach es X.env)).any (·.1) = false := by rfl)
    (ht : eval (.Call (.Attribute o m apos) (e :: es) [] pos) X.env = (do
      let ov ← eval o X.env
      standAt apos.atName
      let (f, first) ← holding [ov] (getMethod ov m pl)
      callWith pos f first (backTo pos (starEach (e :: es) X.env)) (backToKw pos (keywordEach [] X.env))) := by rfl) :
    PE X (.Call (.Attribute o m apos) (e :: es) [] pos) (tMethX X.K m al E ta t) := by
  refine ⟨fun pins s σ H Q I h => ?_⟩
  refine PySem.W.methodCall_KW (pl := pl) (thn (he.run pins s σ H _ I h) fun u s1 ⟨x, H1, I1, rx, a, dx, fs, q, hq, ex, ea, l, z⟩ => ?_) ht
  subst ex
  obtain rfl : u = Value.ref a := rx
  obtain ⟨ps, k', lk, f, fd, cl, hm, F, hb⟩ := c q hq
  refine getmeth_ok I1 ea cl hm l ?_
  refine PySem.W.callWith_K (first := [.ref a]) (h₀ := X.base) I.ok.mod.kin hm.kp (thn (ha.run pos pins s1 σ H1 _ I1 z) fun us s2 ⟨vs, H2, I2, r, q2⟩ => ⟨I2.kIn, ?_⟩) hst hpl
  exact run_fnSD (us := .ref a :: us) (vs := .ref a :: vs) F (hr.mono lk) hb .nil (hx σ) I2 (.cons rfl r) q2
theorem pe_methX0 {E : L2.St → XK} {pl : Sem Bool} (c : MetA X.prog X.w X.K X.mg X.base m k al) (hr : Room k X.A) (hx : ∀ σ, PassesAt (L2N.CX X.prog X.w) X σ (E σ)) (he : PE X o ta)
    (ht : eval (.Call (.Attribute o m apos) [] [] pos) X.env = (do
      let ov ← eval o X.env
      standAt apos.atName
      let (f, first) ← holding [ov] (getMethod ov m pl)
      callWith pos f first (backTo pos (starEach [] X.env)) (backToKw pos (keywordEach [] X.env))) := by rfl) :
    PE X (.Call (.Attribute o m apos) [] [] pos) (tMethX X.K m al E ta tNil) := by
  refine ⟨fun pins s σ H Q I h => ?_⟩
  refine PySem.W.methodCall_KW (pl := pl) (thn (he.run pins s σ H _ I h) fun u s1 ⟨x, H1, I1, rx, a, dx, fs, q, hq, ex, ea, l, z⟩ => ?_) ht
  subst ex
  obtain rfl : u = Value.ref a := rx
  obtain ⟨ps, k', lk, f, fd, cl, hm, F, hb⟩ := c q hq
  refine getmeth_ok I1 ea cl hm l ?_
  exact PySem.W.callWith_K0 (first := [.ref a]) I1.kIn hm.kp (run_fnSD (us := [.ref a]) (vs := [.ref a]) F (hr.mono lk) hb .nil (hx σ) I1 (.cons rfl .nil) z)
theorem pe_methA {E : XK} {pl : Sem Bool} (c : MetA X.prog X.w X.K X.mg X.base m k al) (hr : Room k X.A) (hx : Passes (L2N.CX X.prog X.w) X E) (he : PE X o ta) (ha : PA X (e :: es) t)
    (hst : starEach (e :: es) X.env = (false, eval e X.env) :: starEach es X.env := by rfl) (hpl : (backTo pos (starEach es X.env)).any (·.1) = false := by rfl)
    (ht : eval (.Call (.Attribute o m apos) (e :: es) [] pos) X.env = (do
      let ov ← eval o X.env
      standAt apos.atName
      let (f, first) ← holding [ov] (getMethod ov m pl)
      callWith pos f first (backTo pos (starEach (e :: es) X.env)) (backToKw pos (keywordEach [] X.env))) := by rfl) :
    PE X (.Call (.Attribute o m apos) (e :: es) [] pos) (tMethA X.K m al E ta t) := by
  refine ⟨fun pins s σ H Q I h => ?_⟩
  refine PySem.W.methodCall_KW (pl := pl) (thn (he.run pins s σ H _ I h) fun u s1 ⟨x, H1, I1, rx, a, dx, fs, q, hq, ex, ea, l, z⟩ => ?_) ht
  subst ex
  obtain rfl : u = Value.ref a := rx
  obtain ⟨ps, k', lk, f, fd, cl, hm, F, hb⟩ := c q hq
  refine getmeth_ok I1 ea cl hm l ?_
  refine PySem.W.callWith_K (first := [.ref a]) (h₀ := X.base) I.ok.mod.kin hm.kp (thn (ha.run pos pins s1 σ H1 _ I1 z) fun us s2 ⟨vs, H2, I2, r, q2⟩ => ⟨I2.kIn, ?_⟩) hst hpl
  exact run_fn (us := .ref a :: us) (vs := .ref a :: vs) F (hr.mono lk) hb .nil hx I2 (.cons rfl r) q2
theorem pe_methA0 {E : XK} {pl : Sem Bool} (c : MetA X.prog X.w X.K X.mg X.base m k al) (hr : Room k X.A) (hx : Passes (L2N.CX X.prog X.w) X E) (he : PE X o ta)
    (ht : eval (.Call (.Attribute o m apos) [] [] pos) X.env = (do
      let ov ← eval o X.env
      standAt apos.atName
      let (f, first) ← holding [ov] (getMethod ov m pl)
      callWith pos f first (backTo pos (starEach [] X.env)) (backToKw pos (keywordEach [] X.env))) := by rfl) :
    PE X (.Call (.Attribute o m apos) [] [] pos) (tMethA X.K m al E ta tNil) := by
  refine ⟨fun pins s σ H Q I h => ?_⟩
  refine PySem.W.methodCall_KW (pl := pl) (thn (he.run pins s σ H _ I h) fun u s1 ⟨x, H1, I1, rx, a, dx, fs, q, hq, ex, ea, l, z⟩ => ?_) ht
  subst ex
  obtain rfl : u = Value.ref a := rx
  obtain ⟨ps, k', lk, f, fd, cl, hm, F, hb⟩ := c q hq
  refine getmeth_ok I1 ea cl hm l ?_
  exact PySem.W.callWith_K0 (first := [.ref a]) I1.kIn hm.kp (run_fn (us := [.ref a]) (vs := [.ref a]) F (hr.mono lk) hb .nil hx I1 (.cons rfl .nil) z)
end
section
variable {fa : List He.Fa} {fn : List He.DefD} {K : PySem.W.Frag} {mg : Str → Option Value}
/-- a method -/
theorem Facts.met (T : Facts fa fn K mg) {P : Program} {w : World} {base : Heap} {k : Nat} {N ps : List Str} {sp : Sp} (i j l : Nat) {d : He.DefD} {x m : Str} (hi : fn[i]? = some d) (hd : d.at_ = (x, some m)) (hdf : d.dfl = []) (hkw : d.kwd = []) (hj : fa[j]? = some (.cls x)) (hl : fa[l]? = some (.meth x m))
    (S : FnScope N ps d.scope) (len : ∀ vs H Q E, sp vs H Q E → vs.length = ps.length)
    (hb : ∀ (dV kV doc pm : Value) (an : Option Addr) (cdv ct : Value) (us : List Value), us.length = ps.length → bindArgs (PySem.W.fnOf d.name d.qual d.params d.body d.scope .none kV doc pm an cdv ct) ⟨us, []⟩ = pure (ps.zip us))
    (hbody : ∀ (cdv : Value) (A : Around) (outer : List Env) (s : Shared) (H : Hp) (vs : List V) (Q : VK) (E : XK), Room k (A.deeper (envOfC d.qual d.scope s.heap.objs.size (He.fAd K d.at_) cdv)) → sp vs H Q E →
      ∃ t, PSs (cxOf (L2N.CX P w) P w K mg base N d.qual d.scope (He.fAd K d.at_) cdv A outer s H E) d.body t ∧ t { nx := fun _ H' => Q .non H', rt := Q } (start N vs) H) :
    MetOk P w K mg base x m (k + 1) ps sp := by
  obtain ⟨fd, F⟩ := T.says.def_ i hi
  have F2 : FunD K d.name d.qual d.params d.body d.scope [] [] (He.fAd K d.at_) fd := by
    have z1 : d.dvs K = [] := by unfold He.DefD.dvs; rw [hdf]; rfl
    have z2 : d.kws K = [] := by unfold He.DefD.kws; rw [hkw]; rfl
    rw [z1, z2] at F
    exact F
  have M := T.meth l hl
  have e1 : He.fAd K d.at_ = He.ma K (He.ga K x) m := by rw [hd]; rfl
  exact ⟨He.fAd K d.at_, fd, T.cls j hj, by rw [e1]; exact M, FunD.ok F S len hbody, F2.bindsN fun kV doc pm an cdv ct us hl => hb .none kV doc pm an cdv ct us hl⟩
end
section
variable {K : PySem.W.Frag} {F H : Hp} {σ : Sg} {Q : VK} {m : Str} {al : List (Str × Sp)} {ta : TE} {t : TA}
theorem st_methA {E : XK} (k : ta σ H fun x H1 => ∃ a dx fs p, p ∈ al ∧ x = .ref a ∧ H1 a = some (.ins (He.ga K p.1) dx fs) ∧ fs.lookup m = none ∧ t σ H1 fun vs H2 => p.2 (x :: (vs ++ [])) H2 Q E) : tMethA K m al E ta t σ H Q := k
theorem st_methX {E : L2.St → XK} (k : ta σ H fun x H1 => ∃ a dx fs p, p ∈ al ∧ x = .ref a ∧ H1 a = some (.ins (He.ga K p.1) dx fs) ∧ fs.lookup m = none ∧ t σ H1 fun vs H2 => p.2 (x :: (vs ++ [])) H2 Q (E σ)) : tMethX K m al E ta t σ H Q := k
theorem st_makePlain {C : Addr} (k : ∀ x dx, H x = none → H dx = none → dx ≠ x → Q (.ref x) (upd (upd H dx (.own x)) x (.ins C dx []))) : tMakePlain C σ H Q := k
/-- a new instance without attributes, frozen -/
theorem sm_makePlain {C : Addr} (s : Same F H) (k : ∀ u F' H', Stp [] F H F' H' → RD F' (.obj C [] []) u → Q u H') : ∀ x dx, H x = none → H dx = none → dx ≠ x → Q (.ref x) (upd (upd H dx (.own x)) x (.ins C dx [])) := fun x dx h1 h2 h3 => by
  have t1 : Stp [] F H F (upd H dx (.own x)) := Stp.newO s h2
  have h4 : upd H dx (.own x) x = none := by rw [upd_ne (Ne.symm h3)]; exact h1
  have t2 : Stp [] F (upd H dx (.own x)) (upd F x (.ins C dx [])) (upd (upd H dx (.own x)) x (.ins C dx [])) := Stp.new t1.inn h4
  exact k _ _ _ (t1.trans t2 sub_nil) ⟨x, dx, [], rfl, upd_same, RDs.nil⟩
end
theorem sm_mkPlain {F H : Hp} {σ : Sg} {Q : VK} {C : Addr} (s : Same F H) (k : ∀ u F' H', Stp [] F H F' H' → RD F' (.obj C [] []) u → Q u H') : tMakePlain C σ H Q := sm_makePlain s k
/-! ### dicts whose keys are cells -/
def kP (p : Int × Int) : List Key := [.inl p.1, .inl p.2]
theorem kP_inj {p q : Int × Int} : kP p = kP q ↔ p = q := by
  obtain ⟨a, b⟩ := p
  obtain ⟨c, d⟩ := q
  unfold kP
  simp
abbrev dTK {α : Type} (vv : α → V) (zs : List ((Int × Int) × α)) : List (List Key × V) := zs.map fun p => (kP p.1, vv p.2)
def putD {α : Type} (zs : List ((Int × Int) × α)) (k : Int × Int) (v : α) : List ((Int × Int) × α) := if zs.any (fun p => decide (p.1 = k)) = true then zs.map (fun p => if p.1 = k then (p.1, v) else p) else zs ++ [(k, v)]
def lookD {α : Type} (zs : List ((Int × Int) × α)) (k : Int × Int) : Option α := (zs.find? fun p => decide (p.1 = k)).map (·.2)
def eD {α : Type} (vv : α → V) (zs : List ((Int × Int) × α)) : Dat := .dct (dTK vv zs)
section
variable {α : Type} {vv : α → V} {zs : List ((Int × Int) × α)} {k : Int × Int} {v : α}
theorem dec_kP (p q : Int × Int) : decide (kP p = kP q) = decide (p = q) := by
  by_cases h : p = q
  · rw [decide_eq_true h, decide_eq_true (kP_inj.mpr h)]
  · rw [decide_eq_false h, decide_eq_false fun z => h (kP_inj.mp z)]
theorem putK_d : putK (dTK vv zs) (kP k) (vv v) = dTK vv (putD zs k v) := by
  unfold putK putD
  have e : ((dTK vv zs).any fun kv => decide (kv.1 = kP k)) = zs.any fun p => decide (p.1 = k) := by
    rw [List.any_map]
    congr 1
    funext p
    exact dec_kP p.1 k
  rw [e]
  split
  · show List.map _ (List.map _ zs) = List.map _ (List.map _ zs)
    rw [List.map_map, List.map_map]
    refine List.map_congr_left fun p _ => ?_
    show (if kP p.1 = kP k then _ else _) = (fun q : (Int × Int) × α => (kP q.1, vv q.2)) (if p.1 = k then (p.1, v) else p)
    by_cases h : p.1 = k
    · rw [if_pos (by rw [h]), if_pos h]
    · rw [if_neg fun z => h (kP_inj.mp z), if_neg h]
  · show List.map _ zs ++ _ = List.map _ (zs ++ [(k, v)])
    rw [List.map_append]; rfl
theorem valV_d : valV (dTK vv zs) (kP k) = (lookD zs k).map vv := by
  unfold valV lookD
  rw [List.find?_map]
  have e : ((fun kv : List Key × V => decide (kv.1 = kP k)) ∘ fun p : (Int × Int) × α => (kP p.1, vv p.2)) = fun p : (Int × Int) × α => decide (p.1 = k) := by
    funext p
    exact dec_kP p.1 k
  rw [e]
  cases zs.find? fun p => decide (p.1 = k) <;> rfl
end
section
variable {α : Type} {vv : α → V} {K : PySem.W.Frag} {F H : Hp} {σ : Sg} {Q : VK} {D : Ends} {zs : List ((Int × Int) × α)} {k : Int × Int} {v : α} {u x : V} {L : Addr}
theorem rd_key (s : Same F H) (h : RD F (eP Dat.int Dat.int k) u) : ∃ b, u = .ref b ∧ H b = some (.tup ((kP k).map kV)) := by
  obtain ⟨a, vs, rfl, h1, h2⟩ := h
  obtain ⟨y, r, rfl, e1, z, r2, rfl, e2, e3⟩ := h2
  cases (show y = V.int k.1 from e1)
  cases (show z = V.int k.2 from e2)
  cases (show r2 = [] from e3)
  exact ⟨a, rfl, s a _ h1⟩
/-- a new dict -/
theorem sm_dnewT (s : Same F H) (k : ∀ L F' H', Stp [] F H F' H' → Fre H L → Own F' H' L (.dT (dTK vv [])) → Q (.ref L) H') : tDNewT σ H Q := nw_own s (k := k)
theorem own_fzD (s : Same F H) (o : Own F H L (.dT (dTK vv zs))) : ∃ F2, Stp [L] F H F2 H ∧ RD F2 (eD vv zs) (.ref L) := by
  have t := Stp.frz s o
  exact ⟨_, t, L, rfl, upd_same⟩
theorem sm_dputT {P : Hp → Prop} (s : Same F H) (o : Own F H L (.dT (dTK vv zs))) (hk : RD F (eP Dat.int Dat.int k) u) (hl : zs.length < 1000000) (kk : ∀ F' H', Stp [L] F H F' H' → Own F' H' L (.dT (dTK vv (putD zs k v))) → P H') :
    ∃ a H4, V.ref L = .ref a ∧ DPut H a u (vv v) H4 ∧ P H4 := by
  obtain ⟨b, rfl, hb⟩ := rd_key s hk
  exact ⟨L, _, rfl, DPut.t o.h hb (sz_lt (by rw [List.length_map]; exact hl)), kk _ _ (Stp.put s o) ⟨o.f, by rw [upd_same, putK_d], trivial⟩⟩
theorem dget_of (s : Same F H) (h : H L = some (.dT (dTK vv zs))) (hk : RD F (eP Dat.int Dat.int k) u) : DGet H L u ((lookD zs k).map vv) := by
  obtain ⟨b, rfl, hb⟩ := rd_key s hk
  rw [← valV_d]
  exact DGet.t h hb
theorem rd_dct (s : Same F H) (h : RD F (eD vv zs) x) : ∃ L, x = .ref L ∧ H L = some (.dT (dTK vv zs)) := by
  obtain ⟨a, rfl, h1⟩ := h
  exact ⟨a, rfl, s a _ h1⟩
theorem sm_dinO (s : Same F H) (o : Own F H L (.dT (dTK vv zs))) (hk : RD F (eP Dat.int Dat.int k) u) (kk : Q (.bl (lookD zs k).isSome) H) : ∃ a o, V.ref L = .ref a ∧ DGet H a u o ∧ Q (.bl o.isSome) H :=
  ⟨L, _, rfl, dget_of s o.h hk, by rw [Option.isSome_map]; exact kk⟩
theorem sm_dninO (s : Same F H) (o : Own F H L (.dT (dTK vv zs))) (hk : RD F (eP Dat.int Dat.int k) u) (kk : Q (.bl (!(lookD zs k).isSome)) H) : ∃ a o, V.ref L = .ref a ∧ DGet H a u o ∧ Q (.bl (!o.isSome)) H :=
  ⟨L, _, rfl, dget_of s o.h hk, by rw [Option.isSome_map]; exact kk⟩
theorem sm_dinF (s : Same F H) (h : RD F (eD vv zs) x) (hk : RD F (eP Dat.int Dat.int k) u) (kk : Q (.bl (lookD zs k).isSome) H) : ∃ a o, x = .ref a ∧ DGet H a u o ∧ Q (.bl o.isSome) H := by
  obtain ⟨L, rfl, hL⟩ := rd_dct s h
  exact ⟨L, _, rfl, dget_of s hL hk, by rw [Option.isSome_map]; exact kk⟩
theorem sm_dninF (s : Same F H) (h : RD F (eD vv zs) x) (hk : RD F (eP Dat.int Dat.int k) u) (kk : Q (.bl (!(lookD zs k).isSome)) H) : ∃ a o, x = .ref a ∧ DGet H a u o ∧ Q (.bl (!o.isSome)) H := by
  obtain ⟨L, rfl, hL⟩ := rd_dct s h
  exact ⟨L, _, rfl, dget_of s hL hk, by rw [Option.isSome_map]; exact kk⟩
theorem isD_of (h : H L = some (.dT (dTK vv zs))) : IsD H L := .inr ⟨_, .inl h⟩
/-- d.get(k, x) -/
theorem st_dget2 {td ty tx : TE} (k : td σ H fun x H1 => ∃ a, x = .ref a ∧ IsD H1 a ∧ ty σ H1 fun y H2 => tx σ H2 fun z H3 => ∃ o, DGet H3 a y o ∧ Q (o.getD z) H3) : tDGet2 td ty tx σ H Q := k
theorem sm_isDO (o : Own F H L (.dT (dTK vv zs))) {P : Addr → Prop} (k : P L) : ∃ a, V.ref L = .ref a ∧ IsD H a ∧ P a := ⟨L, rfl, isD_of o.h, k⟩
theorem sm_isDF (s : Same F H) (h : RD F (eD vv zs) x) {P : Addr → Prop} (k : ∀ L, x = .ref L → P L) : ∃ a, x = .ref a ∧ IsD H a ∧ P a := by
  obtain ⟨L, rfl, hL⟩ := rd_dct s h
  exact ⟨L, rfl, isD_of hL, k L rfl⟩
theorem sm_getO {d : α} (s : Same F H) (o : Own F H L (.dT (dTK vv zs))) (hk : RD F (eP Dat.int Dat.int k) u) (kk : Q (vv ((lookD zs k).getD d)) H) : ∃ o, DGet H L u o ∧ Q (o.getD (vv d)) H :=
  ⟨_, dget_of s o.h hk, by cases q : lookD zs k <;> rw [q] at kk <;> exact kk⟩
theorem sm_getF {d : α} (s : Same F H) (h : RD F (eD vv zs) (.ref L)) (hk : RD F (eP Dat.int Dat.int k) u) (kk : Q (vv ((lookD zs k).getD d)) H) : ∃ o, DGet H L u o ∧ Q (o.getD (vv d)) H := by
  obtain ⟨L', e, hL⟩ := rd_dct s h
  cases e
  exact ⟨_, dget_of s hL hk, by cases q : lookD zs k <;> rw [q] at kk <;> exact kk⟩
theorem st_din {ty td : TE} (k : ty σ H fun y H1 => td σ H1 fun x H2 => ∃ a o, x = .ref a ∧ DGet H2 a y o ∧ Q (.bl o.isSome) H2) : tDIn ty td σ H Q := k
theorem st_dnin {ty td : TE} (k : ty σ H fun y H1 => td σ H1 fun x H2 => ∃ a o, x = .ref a ∧ DGet H2 a y o ∧ Q (.bl (!o.isSome)) H2) : tDNotIn ty td σ H Q := k
end
theorem sm_addS {K : PySem.W.Frag} {H : Hp} {Q : VK} {a b : Str} (g : Str.length a + Str.length b ≤ 1000000) (k : Q (.str (a ++ b)) H) : rAddU K (.str a) (.str b) H Q :=
  .inr (.inr (.inr ⟨a, b, rfl, rfl, sz_le g, k⟩))
/-- a field of our own instance -/
theorem sm_ofld {K : PySem.W.Frag} {F H : Hp} {L C dx : Addr} {fs : List (Str × V)} {f : Str} {v : V} {Q : VK} (o : Own F H L (.ins C dx fs)) (cl : Cls K C) (na : NoAttr K C f) (hl : fs.lookup f = some v) (k : Q v H) :
    ∃ a C dx fs v, V.ref L = .ref a ∧ H a = some (.ins C dx fs) ∧ Cls K C ∧ NoAttr K C f ∧ fs.lookup f = some v ∧ Q v H := ⟨L, C, dx, fs, v, rfl, o.h, cl, na, hl, k⟩
end DK
set_option maxRecDepth 100000
set_option maxHeartbeats 2000000
/-! DK, twenty-third part: instances of ours, changed in place; tuples of one. -/
namespace DK
open PySem PySem.Spec PyProof.Rows L2
def OwnI (F H : Hp) (C L : Addr) (ns : List Str) (ds : List Dat) : Prop := ∃ dx ws, Own F H L (.ins C dx (ns.zip ws)) ∧ RDs F ds ws
theorem zip_lookup {ns : List Str} {ws : List V} {f : Str} {n : Nat} {u : V} (hf : ns.idxOf f = n) (hl : n < ns.length) (hu : ws[n]? = some u) : (ns.zip ws).lookup f = some u := by
  induction ns generalizing n ws with
  | nil => simp at hl
  | cons m ms ih =>
    cases ws with
    | nil => simp at hu
    | cons w ws =>
      rw [List.zip_cons_cons, List.lookup_cons]
      by_cases z : f = m
      · have zb : (f == m) = true := by simpa using z
        rw [zb]
        have hn : n = 0 := by rw [← hf, List.idxOf_cons]; simp [z]
        subst hn
        simpa using hu
      · have zb : (f == m) = false := by simpa using z
        rw [zb]
        have hm : (m == f) = false := by simpa using fun q => z q.symm
        have hn : n = ms.idxOf f + 1 := by rw [← hf, List.idxOf_cons, hm]; rfl
        subst hn
        exact ih rfl (by simpa using hl) (by simpa using hu)
theorem zip_none {ns : List Str} {ws : List V} {f : Str} (h : f ∉ ns) : (ns.zip ws).lookup f = none := by
  induction ns generalizing ws with
  | nil => simp
  | cons m ms ih =>
    cases ws with
    | nil => simp
    | cons w ws =>
      rw [List.mem_cons, not_or] at h
      rw [List.zip_cons_cons, List.lookup_cons]
      have zb : (f == m) = false := by simpa using h.1
      rw [zb]
      exact ih h.2
theorem putF_zip {ns : List Str} {ws : List V} {f : Str} {n : Nat} {u : V} (hf : ns.idxOf f = n) (hl : n < ns.length) (hw : ws.length = ns.length) : putF f u (ns.zip ws) = ns.zip (ws.set n u) := by
  induction ns generalizing n ws with
  | nil => simp at hl
  | cons m ms ih =>
    cases ws with
    | nil => simp at hw
    | cons w ws =>
      rw [List.zip_cons_cons]
      unfold putF
      by_cases z : m = f
      · have hn : n = 0 := by rw [← hf, List.idxOf_cons]; simp [z]
        subst hn
        rw [if_pos z]
        rfl
      · have hm : (m == f) = false := by simpa using z
        have hn : n = ms.idxOf f + 1 := by rw [← hf, List.idxOf_cons, hm]; rfl
        subst hn
        rw [if_neg z, ih rfl (by simpa using hl) (by simpa using hw)]
        rfl
section
variable {K : PySem.W.Frag} {S : List Addr} {F H F1 H1 : Hp} {C L M : Addr} {ns : List Str} {ds : List Dat} {d : Dat} {f : Str} {n : Nat} {u : V}
theorem Stp.keepI (a : Stp S F H F1 H1) (h : L ∉ S) (o : OwnI F H C L ns ds) : OwnI F1 H1 C L ns ds := by
  obtain ⟨dx, ws, o, r⟩ := o
  exact ⟨dx, ws, a.keep h o, a.ups r⟩
theorem OwnI.ne (o : OwnI F H C L ns ds) (h : Fre H M) : L ≠ M := by
  obtain ⟨dx, ws, o, r⟩ := o
  exact o.ne h
theorem own_fzO (s : Same F H) (o : OwnI F H C L ns ds) : ∃ F2, Stp [L] F H F2 H ∧ RD F2 (.obj C ns ds) (.ref L) := by
  obtain ⟨dx, ws, o, r⟩ := o
  exact own_fzI s o r
/-- o.f of ours -/
theorem sm_fldI {P : V → Prop} (o : OwnI F H C L ns ds) (cl : Cls K C) (na : NoAttr K C f) (hf : ns.idxOf f = n) (hl : n < ns.length) (hd : ds[n]? = some d) (k : ∀ u, RD F d u → P u) :
    ∃ a C dx fs u, V.ref L = .ref a ∧ H a = some (.ins C dx fs) ∧ Cls K C ∧ NoAttr K C f ∧ fs.lookup f = some u ∧ P u := by
  obtain ⟨dx, ws, o, r⟩ := o
  obtain ⟨u, hu, ru⟩ := r.at hd
  exact ⟨L, C, dx, _, u, rfl, o.h, cl, na, zip_lookup hf hl hu, k u ru⟩
/-- o.f = x of ours -/
theorem sm_setI {P : Hp → Prop} (s : Same F H) (o : OwnI F H C L ns ds) (hy : RD F d u) (cl : Cls K C) (na : NoAttr K C f) (hf : ns.idxOf f = n) (hl : n < ns.length) (hs : ns.length < 1000) (hn : ds.length = ns.length) (k : ∀ F' H', Stp [L] F H F' H' → OwnI F' H' C L ns (ds.set n d) → P H') :
    ∃ a C dx fs, V.ref L = .ref a ∧ H a = some (.ins C dx fs) ∧ Cls K C ∧ NoAttr K C f ∧ fs.length < 1000 ∧ P (upd H a (.ins C dx (putF f u fs))) := by
  obtain ⟨dx, ws, o, r⟩ := o
  have hw : ws.length = ns.length := r.len.trans hn
  refine ⟨L, C, dx, _, rfl, o.h, cl, na, ?_, ?_⟩
  · rw [List.length_zip]; omega
  · rw [putF_zip hf hl hw]
    have t : Stp [L] F H F (upd H L (.ins C dx (ns.zip (ws.set n u)))) := Stp.put s o
    exact k F _ t ⟨dx, _, ⟨o.f, upd_same, trivial⟩, RDs.set n r hy⟩
/-- the instance whose method is called -/
theorem sm_metI {m : Str} {Cn : Str} {sp : Sp} {al : List (Str × Sp)} {R : Sp → Prop} (o : OwnI F H (He.ga K Cn) L ns ds) (hm : m ∉ ns) (ha : (Cn, sp) ∈ al) (k : R sp) :
    ∃ a dx fs p, p ∈ al ∧ V.ref L = .ref a ∧ H a = some (.ins (He.ga K p.1) dx fs) ∧ fs.lookup m = none ∧ R p.2 := by
  obtain ⟨dx, ws, o, r⟩ := o
  exact ⟨L, dx, _, (Cn, sp), ha, rfl, o.h, zip_none hm, k⟩
end
/-- a tuple of one -/
abbrev eP1 {α : Type} (e : α → Dat) (p : α) : Dat := .tup [e p]
section
variable {α : Type} {e : α → Dat}
theorem NlE.eP1 (h : NlE e) : NlE (eP1 e) := fun p => by simp only [DK.eP1, noL, noLs, h p, Bool.and_self]
theorem SamE.eP1 (h : SamE e) : SamE (eP1 e) := fun x y => by simp only [DK.eP1, sameD, samesD, Bool.and_true]; exact h x y
end
theorem NlE.eD {α} {vv : α → V} : NlE (eD vv) := fun _ => by simp only [DK.eD, DK.noL]
section
variable {H F : Hp} {L : Addr} {α : Type} {vv : α → V} {zs : List ((Int × Int) × α)} {k : Int × Int} {u x : V} {G : Option V → Prop}
theorem sm_dinO' (s : Same F H) (o : Own F H L (.dT (dTK vv zs))) (hk : RD F (eP Dat.int Dat.int k) u) (kk : ∀ o : Option V, o.isSome = (lookD zs k).isSome → G o) : ∃ a o, V.ref L = .ref a ∧ DGet H a u o ∧ G o :=
  ⟨L, _, rfl, dget_of s o.h hk, kk _ (by rw [Option.isSome_map])⟩
theorem sm_dinF' (s : Same F H) (h : RD F (eD vv zs) x) (hk : RD F (eP Dat.int Dat.int k) u) (kk : ∀ o : Option V, o.isSome = (lookD zs k).isSome → G o) : ∃ a o, x = .ref a ∧ DGet H a u o ∧ G o := by
  obtain ⟨L, rfl, hL⟩ := rd_dct s h
  exact ⟨L, _, rfl, dget_of s hL hk, kk _ (by rw [Option.isSome_map])⟩
end
end DK
set_option maxRecDepth 100000
set_option maxHeartbeats 2000000
/-! DK, twenty-fourth part: rows of ours that grow; reading dicts with a choice. -/
namespace DK
open PySem PySem.Spec PyProof.Rows L2
section
variable {α : Type} {F H : Hp} {L r : Addr} {rs : List Addr} {e : α → Dat} {xss : List (List α)} {ws : List V} {xs : List α}
theorem OwnN.nil (o : Own F H L (.lst [])) : OwnN F H L [] e [] := ⟨o, by simp, rfl, fun i r xs h => by simp at h⟩
theorem FreN.one (h : Fre H L) : FreN H [L] := fun q hq => by rw [List.mem_singleton.mp hq]; exact h
theorem FreN.snoc (h : FreN H (L :: rs)) (f : Fre H r) : FreN H (L :: (rs ++ [r])) := fun q hq => by
  rcases List.mem_cons.mp hq with rfl | hq
  · exact h _ List.mem_cons_self
  · rcases List.mem_append.mp hq with hq | hq
    · exact h _ (List.mem_cons_of_mem _ hq)
    · rw [List.mem_singleton.mp hq]; exact f
theorem sm_appR {Q : VK} (s : Same F H) (o : OwnN F H L rs e xss) (h : Own F H r (.lst ws)) (rr : RDs F (xs.map e) ws) (hr : r ∉ L :: rs) (z : xss.length < 1000000) (k : ∀ F' H', Stp [L] F H F' H' → OwnN F' H' L (rs ++ [r]) e (xss ++ [xs]) → Q .non H') : rAppend (.ref L) [.ref r] H Q :=
  st_app s o.own (by rw [List.length_map, o.len]; exact z) fun F' H' t o' => k F' H' t ⟨by rw [List.map_append]; exact o', by
    have nd := o.nd
    rw [List.nodup_cons] at nd ⊢
    rw [List.mem_cons, not_or] at hr
    refine ⟨fun q => ?_, ?_⟩
    · rcases List.mem_append.mp q with q | q
      · exact nd.1 q
      · exact hr.1 (List.mem_singleton.mp q).symm
    · rw [List.nodup_append]
      refine ⟨nd.2, by simp, fun a ha b hb q => ?_⟩
      rw [List.mem_singleton.mp hb] at q
      exact hr.2 (q ▸ ha), by simp [o.len], fun i r' xs' h1 h2 => by
    have nd := List.nodup_cons.mp o.nd
    by_cases z : i < rs.length
    · rw [List.getElem?_append_left z] at h1
      rw [List.getElem?_append_left (by rw [← o.len]; exact z)] at h2
      obtain ⟨ws, a, b⟩ := o.row i r' xs' h1 h2
      refine ⟨ws, t.keep (fun q => nd.1 ?_) a, t.ups b⟩
      rw [← List.mem_singleton.mp q]; exact List.mem_of_getElem? h1
    · have e1 : i = rs.length := by
        have := (List.getElem?_eq_some_iff.mp h1).1
        rw [List.length_append] at this
        simp at this
        omega
      subst e1
      rw [List.getElem?_append_right (Nat.le_refl _)] at h1
      rw [List.getElem?_append_right (by rw [o.len]; exact Nat.le_refl _)] at h2
      simp [o.len] at h1 h2
      subst h1 h2
      refine ⟨ws, t.keep (fun q => hr ?_) h, t.ups rr⟩
      rw [List.mem_singleton.mp q]; exact List.mem_cons_self⟩
end
section
variable {H F : Hp} {L : Addr} {α : Type} {vv : α → V} {zs : List ((Int × Int) × α)} {k : Int × Int} {u x : V} {G : Option V → Prop}
theorem sm_getO' {d : α} (s : Same F H) (o : Own F H L (.dT (dTK vv zs))) (hk : RD F (eP Dat.int Dat.int k) u) (kk : ∀ o : Option V, o.getD (vv d) = vv ((lookD zs k).getD d) → G o) : ∃ o, DGet H L u o ∧ G o :=
  ⟨_, dget_of s o.h hk, kk _ (by cases lookD zs k <;> rfl)⟩
theorem sm_getF' {d : α} (s : Same F H) (h : RD F (eD vv zs) (.ref L)) (hk : RD F (eP Dat.int Dat.int k) u) (kk : ∀ o : Option V, o.getD (vv d) = vv ((lookD zs k).getD d) → G o) : ∃ o, DGet H L u o ∧ G o := by
  obtain ⟨L', e, hL⟩ := rd_dct s h
  cases e
  exact ⟨_, dget_of s hL hk, kk _ (by cases lookD zs k <;> rfl)⟩
end
end DK
set_option maxRecDepth 100000
set_option maxHeartbeats 2000000
/-! DK, twenty-fifth part: least and greatest of a tuple; a written tuple unpacked at once. -/
namespace PySem
open PySem.Spec PyProof.Rows
section
variable {prog : Program} {w : World} {A : Around} {E : Value → Shared → Prop} {s : Shared} {l : Addr} {xs : Array (Int × Tok)}
theorem dk_iter_tup {vs : Array Value} {Q : Value → Shared → Prop} (hl : s.heap.IsTuple l vs)
    (h : ∀ s₂ : Shared, s₂ = { s with heap := s.heap.push { cls := .type "tuple_iterator", data := .fields #[.ref l, .int 0 0] } } → l ≠ s.heap.objs.size → (s₂.heap.IsTupleIter s.heap.objs.size l 0 ∧ s₂.heap.IsTuple l vs) → (∀ b ∈ [s.heap.objs.size, l], b < s₂.heap.objs.size) → (∀ b o, s.heap.get? b = some o → s₂.heap.get? b = some o) → (∀ b o, s.heap.get? b = some o → b ∉ [s.heap.objs.size]) → Q (.ref s.heap.objs.size) s₂) :
    wpAny (model prog w) A (pyIter (.ref l)) Q E s := by
  obtain ⟨o, ho, hc, n, hd⟩ := id hl
  have hne : l ≠ s.heap.objs.size := Nat.ne_of_lt (Heap.lt_size ho)
  refine wpAny_pyIter_tuple hl (h _ rfl hne ⟨⟨_, Heap.get?_push_size _ rfl, rfl, rfl⟩, hl.at fun o e => Heap.get?_push_of_some _ e⟩ (fun b hb => ?_) (fun b o e => Heap.get?_push_of_some _ e) fun b o e hb => ?_)
  · rcases List.mem_cons.mp hb with rfl | hb
    · exact Heap.lt_size (Heap.get?_push_size _ rfl)
    · obtain rfl := List.mem_singleton.mp hb
      exact Heap.lt_size (Heap.get?_push_of_some _ ho)
  · rw [List.mem_singleton.mp hb] at e
    exact Nat.lt_irrefl _ (Heap.lt_size e)
theorem dk_min_intTup {Q : Value → Shared → Prop} (hh : A.handled = none) (hl : s.heap.IsTuple l (intItems xs)) (hne : 0 < xs.size)
    (h : ∀ v h' tk, (intItems xs)[argBest (fun i j => decide (numAt xs i < numAt xs j)) (xs.size - 1)]? = some v → (∀ b o, s.heap.get? b = some o → h'.get? b = some o) → Q v { s with heap := h', toks := tk }) :
    wpAny (model prog w) A (call (.builtin "min") [.ref l]) Q E s := by
  refine call_min_walk (dk_iter_tup hl fun s₂ e nl st hfp hold hnew => ?_)
  subst e
  refine ⟨_, _, _, _, _, _, _, rfl, Walks.tuple (A := A.in1) hh _ l nl (intItems xs), st, hfp, by simpa [intItems] using hne, CmpOf.ints_lt (numAt xs) (fun _ _ => intItems_at), fun v h' tk hP hk => ?_⟩
  exact h v h' tk (by simpa [intItems] using hP) fun b o e => hk b o (hnew b o e) (hold b o e)
theorem dk_max_intTup {Q : Value → Shared → Prop} (hh : A.handled = none) (hl : s.heap.IsTuple l (intItems xs)) (hne : 0 < xs.size)
    (h : ∀ v h' tk, (intItems xs)[argBest (fun i j => decide (numAt xs i > numAt xs j)) (xs.size - 1)]? = some v → (∀ b o, s.heap.get? b = some o → h'.get? b = some o) → Q v { s with heap := h', toks := tk }) :
    wpAny (model prog w) A (call (.builtin "max") [.ref l]) Q E s := by
  refine call_max_walk (dk_iter_tup hl fun s₂ e nl st hfp hold hnew => ?_)
  subst e
  refine ⟨_, _, _, _, _, _, _, rfl, Walks.tuple (A := A.in1) hh _ l nl (intItems xs), st, hfp, by simpa [intItems] using hne, CmpOf.ints_gt (numAt xs) (fun _ _ => intItems_at), fun v h' tk hP hk => ?_⟩
  exact h v h' tk (by simpa [intItems] using hP) fun b o e => hk b o (hnew b o e) (hold b o e)
end
end PySem
namespace DK
open PySem PySem.Spec PyProof.Rows L2
def rMaxT (K : PySem.W.Frag) : List V → Hp → VK → Prop := fun vs H Q => ∃ (a : Addr) (ns : List Int), vs = [V.ref a] ∧ SqT K H a (ns.map V.int) ∧ 0 < ns.length ∧ ∀ m, m ∈ ns → (∀ y, y ∈ ns → y ≤ m) → Q (.int m) H
def rMinT (K : PySem.W.Frag) : List V → Hp → VK → Prop := fun vs H Q => ∃ (a : Addr) (ns : List Int), vs = [V.ref a] ∧ SqT K H a (ns.map V.int) ∧ 0 < ns.length ∧ ∀ m, m ∈ ns → (∀ y, y ∈ ns → m ≤ y) → Q (.int m) H
theorem cr_minT {X : Cx} (hc : X.calm = true) : CallR X (.builtin "min") (rMinT X.K) := by
  intro pins s σ H vs us Q I r h
  obtain ⟨a, ns, rfl, hs, hne, q⟩ := h
  obtain ⟨its, rv, ht, _⟩ := I.tuple hs
  rw [Vals.ref1 r]
  have hi := rv.ints
  obtain ⟨xs, e⟩ := hi.allInts.items
  have hn : numsOf (intItems xs).toList = ns := by rw [← e]; exact hi.numsOf
  rw [nums_intItems] at hn
  subst hn
  rw [e] at ht
  have hsz : 0 < xs.size := by simpa using hne
  refine PySem.dk_min_intTup (I.ok.hd hc) ht hsz fun v h' tk hv hk => ?_
  obtain ⟨t, rfl⟩ := intItems_at hv
  obtain ⟨h1, h2⟩ := argBest_lt (numAt xs) (xs.size - 1)
  refine ⟨.int _, H, I.kept hk, ⟨_, rfl⟩, q _ ?_ fun a ha => ?_⟩
  · rw [numAt_eq]; exact PySem.getD_mem (by rw [List.length_map, Array.length_toList]; omega)
  · obtain ⟨j, hj, rfl⟩ := mem_getD ha
    rw [List.length_map, Array.length_toList] at hj
    rw [← numAt_eq]; exact h2 j (by omega)
theorem cr_maxT {X : Cx} (hc : X.calm = true) : CallR X (.builtin "max") (rMaxT X.K) := by
  intro pins s σ H vs us Q I r h
  obtain ⟨a, ns, rfl, hs, hne, q⟩ := h
  obtain ⟨its, rv, ht, _⟩ := I.tuple hs
  rw [Vals.ref1 r]
  have hi := rv.ints
  obtain ⟨xs, e⟩ := hi.allInts.items
  have hn : numsOf (intItems xs).toList = ns := by rw [← e]; exact hi.numsOf
  rw [nums_intItems] at hn
  subst hn
  rw [e] at ht
  have hsz : 0 < xs.size := by simpa using hne
  refine PySem.dk_max_intTup (I.ok.hd hc) ht hsz fun v h' tk hv hk => ?_
  obtain ⟨t, rfl⟩ := intItems_at hv
  obtain ⟨h1, h2⟩ := argBest_gt (numAt xs) (xs.size - 1)
  refine ⟨.int _, H, I.kept hk, ⟨_, rfl⟩, q _ ?_ fun a ha => ?_⟩
  · rw [numAt_eq]; exact PySem.getD_mem (by rw [List.length_map, Array.length_toList]; omega)
  · obtain ⟨j, hj, rfl⟩ := mem_getD ha
    rw [List.length_map, Array.length_toList] at hj
    rw [← numAt_eq]; exact h2 j (by omega)
def rMaxU (K : PySem.W.Frag) : List V → Hp → VK → Prop := fun vs H Q => rMax K vs H Q ∨ rMaxT K vs H Q
def rMinU (K : PySem.W.Frag) : List V → Hp → VK → Prop := fun vs H Q => rMin K vs H Q ∨ rMinT K vs H Q
theorem cr_maxU {X : Cx} (hc : X.calm = true) : CallR X (.builtin "max") (rMaxU X.K) := CallR.or (cr_max hc) (cr_maxT hc)
theorem cr_minU {X : Cx} (hc : X.calm = true) : CallR X (.builtin "min") (rMinU X.K) := CallR.or (cr_min hc) (cr_minT hc)
section
variable {K : PySem.W.Frag} {F H : Hp} {v : V} {Q : VK} {ns : List Int} {m : Int} {b : Bool}
theorem ints_pos (h : m ∈ ns) : 0 < ns.length := List.length_pos_of_mem h
theorem sm_maxLU (s : Same F H) (h : RD F (.lst (ns.map Dat.int)) v) (h1 : m ∈ ns) (h2 : ∀ y ∈ ns, y ≤ m) (k : Q (.int m) H) : rMaxU K [v] H Q := .inl (sm_maxL s h h1 h2 k)
theorem sm_minLU (s : Same F H) (h : RD F (.lst (ns.map Dat.int)) v) (h1 : m ∈ ns) (h2 : ∀ y ∈ ns, m ≤ y) (k : Q (.int m) H) : rMinU K [v] H Q := .inl (sm_minL s h h1 h2 k)
theorem sm_maxTU (s : Same F H) (h : RD F (.tup (ns.map Dat.int)) v) (h1 : m ∈ ns) (h2 : ∀ y ∈ ns, y ≤ m) (k : Q (.int m) H) : rMaxU K [v] H Q := by
  obtain ⟨a, vs, rfl, h3, h4⟩ := rd_tupV (K := K) s h
  rw [h4.ints] at h3
  refine .inr ⟨a, ns, rfl, h3, ints_pos h1, fun m' a1 a2 => ?_⟩
  have : m' = m := Int.le_antisymm (h2 m' a1) (a2 m h1)
  rw [this]; exact k
theorem sm_minTU (s : Same F H) (h : RD F (.tup (ns.map Dat.int)) v) (h1 : m ∈ ns) (h2 : ∀ y ∈ ns, m ≤ y) (k : Q (.int m) H) : rMinU K [v] H Q := by
  obtain ⟨a, vs, rfl, h3, h4⟩ := rd_tupV (K := K) s h
  rw [h4.ints] at h3
  refine .inr ⟨a, ns, rfl, h3, ints_pos h1, fun m' a1 a2 => ?_⟩
  have : m' = m := Int.le_antisymm (a2 m h1) (h2 m' a1)
  rw [this]; exact k
theorem sm_maxQU (s : Same F H) (h : RD F (eQ b Dat.int ns) v) (h1 : m ∈ ns) (h2 : ∀ y ∈ ns, y ≤ m) (k : Q (.int m) H) : rMaxU K [v] H Q := by
  cases b
  · exact sm_maxLU s h h1 h2 k
  · exact sm_maxTU s h h1 h2 k
theorem sm_minQU (s : Same F H) (h : RD F (eQ b Dat.int ns) v) (h1 : m ∈ ns) (h2 : ∀ y ∈ ns, m ≤ y) (k : Q (.int m) H) : rMinU K [v] H Q := by
  cases b
  · exact sm_minLU s h h1 h2 k
  · exact sm_minTU s h h1 h2 k
theorem sm_sumQU (s : Same F H) (h : RD F (eQ b Dat.int ns) v) (k : Q (.int ns.sum) H) : rSumU K [v] H Q := by
  cases b
  · exact sm_sumLU s h k
  · exact sm_sumTU s h k
end
section
variable {K : PySem.W.Frag} {F H : Hp} {vs : List V} {Q : VK} {x y : V} {p : Addr} {σ : L2.St}
theorem newTo (z : vs.length ≤ 1000000) (e : Same F H) (k : ∀ p F' H', Stp [] F H F' H' → F' p = some (.tup vs) → Q (.ref p) H') : NewT vs H Q := ⟨sz_le z, fun p n => k p _ _ (Stp.new e n) upd_same⟩
theorem sm_g2V {t : TGs} {R : Sg → Hp → Prop} (s : Same F H) (h : F p = some (.tup [x, y])) (k : t [x, y] σ H R) : gTupU K 2 t (.ref p) σ H R :=
  .inl ⟨p, [x, y], rfl, same_t s h, rfl, k⟩
end
theorem sm_sumO {K : PySem.W.Frag} {F H : Hp} {L : Addr} {vs : List V} {ns : List Int} {Q : VK} (o : Own F H L (.lst vs)) (r : RDs F (ns.map Dat.int) vs) (k : Q (.int ns.sum) H) : rSumU K [.ref L] H Q :=
  .inl ⟨L, ns, rfl, by rw [← r.ints]; exact SqL.of o.h, k⟩
theorem NnE.eP5 {α β γ δ ε : Type} {e : α → Dat} {g : β → Dat} {f : γ → Dat} {k : δ → Dat} {l : ε → Dat} (h : NnE e) (h' : NnE g) (h'' : NnE f) (h3 : NnE k) (h4 : NnE l) : NnE (eP5 e g f k l) := fun p => by simp only [DK.eP5, nn, nns, h p.1, h' p.2.1, h'' p.2.2.1, h3 p.2.2.2.1, h4 p.2.2.2.2, Bool.and_self]
end DK
set_option maxRecDepth 100000
set_option maxHeartbeats 2000000
/-! DK, twenty-sixth part: what is a list or a tuple, sliced and zipped. -/
namespace DK
open PySem PySem.Spec PyProof.Rows L2
theorem sm_slQ {K : PySem.W.Frag} {F H : Hp} {α : Type} {e : α → Dat} {zs : List α} {v : V} {Q : VK} {lo hi : Option Int} {b : Bool} (s : Same F H) (h : RD F (eQ b e zs) v) (k : ∀ u F' H', Stp [] F H F' H' → RD F' (eQ b e (cutL zs lo hi)) u → Q u H') : rSlU K v lo hi H Q := by
  cases b
  · exact sm_slL s h k
  · exact sm_slT s h k
section
variable {α β γ : Type} {K : PySem.W.Frag} {F H : Hp} {σ : Sg} {Q : VK} {X : Xc → Option Int → Prop} {f : α → Rs (Option β)} {zs : List α} {g : TG} {tt : TT} {te : TE} {v : V} {e : α → Dat} {e2 : β → Dat} {L : Addr} {vs : List V} {ws : List Nat}
theorem lc_R3 {lo hi c : Int} {P : List β → Prop} {f : Int → Rs (Option β)} (hb : rngSOk lo hi c = true) (s : Same F H) (hz : (rngS lo hi c).length ≤ 1000000) (hp : Post (mapR f (rngS lo hi c)) P X)
    (hs : ∀ (x : Int) F1 H1, Stp [] F H F1 H1 → LcTurn g tt te ws σ e2 F1 H1 F1 H1 (f x) X (.int x))
    (hd : ∀ L vs r F' H', Stp [] F H F' H' → Fre H L → Own F' H' L (.lst vs) → RDs F' (r.map e2) vs → P r → Q (.ref L) H') : ∃ (i j c' : Int) (n : Nat), [V.int lo, V.int hi, V.int c] = [.int i, .int j, .int c'] ∧ RgC i j c' n ∧ LcOwes g tt te ws σ Q (Itc i c' n) H := by
  simp only [rngSOk, Bool.and_eq_true, decide_eq_true_eq] at hb
  refine ⟨lo, hi, c, (Builtin.Range.rangeSize lo hi c).toNat, rfl, ⟨hb.1.1, hb.1.2, hb.2, ?_⟩, ?_⟩
  · have := size_nn (lo := lo) (hi := hi) hb.1.1; omega
  · refine lc_core2 (walk_rangeC (lo := lo) (c := c) (n := (Builtin.Range.rangeSize lo hi c).toNat)) (by simp [rngS]) (by simpa [rngS] using hz) s hp (fun _ _ _ => trivial) ?_ hd
    rintro i x u F1 H1 H2 hx t ⟨rfl, rfl⟩
    have := rngS_at hx
    subst this
    exact ⟨F1, Stp.refl t.inn, hs _ F1 _ t⟩
end
end DK
set_option maxRecDepth 100000
set_option maxHeartbeats 2000000
/-! DK, twenty-seventh part: an instance of ours with lists, rows and a dict of ours in it (Setting). -/
namespace DK
open PySem PySem.Spec PyProof.Rows L2
abbrev SetZ := Int × List (List Int) × List (Int × Int) × List Int × List Int × List (List Int × Int) × List ((Int × Int) × Int)
abbrev setF (z : SetZ) (Lst Ld Ls : Addr) (vc vs vi : V) : List (Str × V) := [("most", .int z.1), ("shades", .ref Ls), ("cells", vc), ("shares", vs), ("inks", vi), ("states", .ref Lst), ("set_inks", .ref Ld)]
structure OwnP (C : Addr) (F H : Hp) (a : Addr) (z : SetZ) (dx Lst Ld Ls : Addr) (rss : List Addr) (vc vs vi : V) (ws : List V) : Prop where
  ins : Own F H a (.ins C dx (setF z Lst Ld Ls vc vs vi))
  shades : OwnN F H Ls rss Dat.int z.2.1
  cells : RD F (eL (eP Dat.int Dat.int) z.2.2.1) vc
  shares : RD F (eL Dat.int z.2.2.2.1) vs
  inks : RD F (eL Dat.int z.2.2.2.2.1) vi
  states : Own F H Lst (.lst ws)
  rstates : RDs F (z.2.2.2.2.2.1.map (eP (eT Dat.int) Dat.int)) ws
  dict : Own F H Ld (.dT (dTK V.int z.2.2.2.2.2.2))
  ap : Lst ∉ Ls :: rss
def OwnS (C : Addr) (F H : Hp) (a : Addr) (rs : List Addr) (z : SetZ) : Prop :=
  ∃ dx Lst Ld Ls rss vc vs vi ws, rs = Lst :: Ld :: Ls :: rss ∧ OwnP C F H a z dx Lst Ld Ls rss vc vs vi ws
section
variable {α : Type} {C : Addr} {F H F1 H1 : Hp} {L L2 a b r dx Lst Ld Ls : Addr} {rs rss S S' R : List Addr} {z : SetZ} {o : HO} {vc vs vi : V} {ws : List V} {e : α → Dat} {xss : List (List α)}
/-- what the parts are, all apart -/
theorem OwnS.opn (o : OwnS C F H a rs z) : ∃ dx Lst Ld Ls rss vc vs vi ws, rs = Lst :: Ld :: Ls :: rss ∧ Own F H a (.ins C dx [("most", .int z.1), ("shades", .ref Ls), ("cells", vc), ("shares", vs), ("inks", vi), ("states", .ref Lst), ("set_inks", .ref Ld)]) ∧ OwnN F H Ls rss Dat.int z.2.1 ∧ RD F (eL (eP Dat.int Dat.int) z.2.2.1) vc ∧ RD F (eL Dat.int z.2.2.2.1) vs ∧ RD F (eL Dat.int z.2.2.2.2.1) vi ∧ Own F H Lst (.lst ws) ∧ RDs F (z.2.2.2.2.2.1.map (eP (eT Dat.int) Dat.int)) ws ∧ Own F H Ld (.dT (dTK V.int z.2.2.2.2.2.2)) ∧ Lst ∉ Ls :: rss ∧ a ∉ Ls :: rss ∧ Ld ∉ Ls :: rss ∧ a ≠ Lst ∧ a ≠ Ld ∧ Lst ≠ Ld := by
  obtain ⟨dx, Lst, Ld, Ls, rss, vc, vs, vi, ws, e, p⟩ := o
  have n1 : ∀ {x : Addr} {o : HO}, Own F H x o → (∀ vs, o ≠ .lst vs) → x ∉ Ls :: rss := fun h n q => by
    obtain ⟨vs, w⟩ := p.shades.mem q
    have := h.h.symm.trans w.h
    exact n vs (Option.some.inj this)
  refine ⟨dx, Lst, Ld, Ls, rss, vc, vs, vi, ws, e, p.ins, p.shades, p.cells, p.shares, p.inks, p.states, p.rstates, p.dict, p.ap, n1 p.ins (fun _ q => by cases q), n1 p.dict (fun _ q => by cases q), ?_, ?_, ?_⟩
  · rintro rfl; have := p.ins.h.symm.trans p.states.h; cases this
  · rintro rfl; have := p.ins.h.symm.trans p.dict.h; cases this
  · rintro rfl; have := p.states.h.symm.trans p.dict.h; cases this
/-- .. at the addresses known -/
theorem OwnS.opn2 (o : OwnS C F H a (Lst :: Ld :: Ls :: rss) z) : ∃ dx vc vs vi ws, Own F H a (.ins C dx [("most", .int z.1), ("shades", .ref Ls), ("cells", vc), ("shares", vs), ("inks", vi), ("states", .ref Lst), ("set_inks", .ref Ld)]) ∧ OwnN F H Ls rss Dat.int z.2.1 ∧ RD F (eL (eP Dat.int Dat.int) z.2.2.1) vc ∧ RD F (eL Dat.int z.2.2.2.1) vs ∧ RD F (eL Dat.int z.2.2.2.2.1) vi ∧ Own F H Lst (.lst ws) ∧ RDs F (z.2.2.2.2.2.1.map (eP (eT Dat.int) Dat.int)) ws ∧ Own F H Ld (.dT (dTK V.int z.2.2.2.2.2.2)) := by
  obtain ⟨dx, Lst', Ld', Ls', rss', vc, vs, vi, ws, e, p⟩ := o
  simp only [List.cons.injEq] at e
  obtain ⟨rfl, rfl, rfl, rfl⟩ := e
  exact ⟨dx, vc, vs, vi, ws, p.ins, p.shades, p.cells, p.shares, p.inks, p.states, p.rstates, p.dict⟩
theorem OwnS.mk {most : Int} {shades : List (List Int)} {cells : List (Int × Int)} {shares inks : List Int} {states : List (List Int × Int)} {dict : List ((Int × Int) × Int)} (h1 : Own F H a (.ins C dx [("most", .int most), ("shades", .ref Ls), ("cells", vc), ("shares", vs), ("inks", vi), ("states", .ref Lst), ("set_inks", .ref Ld)])) (h2 : OwnN F H Ls rss Dat.int shades) (h3 : RD F (eL (eP Dat.int Dat.int) cells) vc) (h4 : RD F (eL Dat.int shares) vs) (h5 : RD F (eL Dat.int inks) vi) (h6 : Own F H Lst (.lst ws)) (h7 : RDs F (states.map (eP (eT Dat.int) Dat.int)) ws) (h8 : Own F H Ld (.dT (dTK V.int dict))) (h9 : Lst ∉ Ls :: rss) : OwnS C F H a (Lst :: Ld :: Ls :: rss) (most, shades, cells, shares, inks, states, dict) :=
  ⟨dx, Lst, Ld, Ls, rss, vc, vs, vi, ws, rfl, ⟨h1, h2, h3, h4, h5, h6, h7, h8, h9⟩⟩
theorem OwnS.insI (o : OwnS C F H a rs z) : ∃ dx fs, H a = some (.ins C dx fs) ∧ ∀ m : Str, m ∉ (["most", "shades", "cells", "shares", "inks", "states", "set_inks"] : List Str) → fs.lookup m = none := by
  obtain ⟨dx, Lst, Ld, Ls, rss, vc, vs, vi, ws, e, p⟩ := o
  refine ⟨dx, _, p.ins.h, fun m hm => ?_⟩
  exact zip_none (ns := (["most", "shades", "cells", "shares", "inks", "states", "set_inks"] : List Str)) (ws := [.int z.1, .ref Ls, vc, vs, vi, .ref Lst, .ref Ld]) hm
theorem OwnS.mem (o : OwnS C F H a rs z) {q : Addr} (h : q ∈ a :: rs) : ∃ x, Own F H q x := by
  obtain ⟨dx, Lst, Ld, Ls, rss, vc, vs, vi, ws, rfl, p⟩ := o
  rcases List.mem_cons.mp h with rfl | h
  · exact ⟨_, p.ins⟩
  rcases List.mem_cons.mp h with rfl | h
  · exact ⟨_, p.states⟩
  rcases List.mem_cons.mp h with rfl | h
  · exact ⟨_, p.dict⟩
  obtain ⟨vs, w⟩ := p.shades.mem h
  exact ⟨_, w⟩
theorem Stp.keepS (s : Stp S F H F1 H1) (d : Dis S (a :: rs)) (o : OwnS C F H a rs z) : OwnS C F1 H1 a rs z := by
  obtain ⟨dx, Lst, Ld, Ls, rss, vc, vs, vi, ws, rfl, p⟩ := o
  have dm : ∀ q, q ∈ a :: Lst :: Ld :: Ls :: rss → q ∉ S := d
  exact ⟨dx, Lst, Ld, Ls, rss, vc, vs, vi, ws, rfl, ⟨s.keep (dm _ (by simp)) p.ins, s.keepN (fun q hq => dm q (List.mem_cons_of_mem _ (List.mem_cons_of_mem _ (List.mem_cons_of_mem _ hq)))) p.shades, s.up p.cells, s.up p.shares, s.up p.inks, s.keep (dm _ (by simp)) p.states, s.ups p.rstates, s.keep (dm _ (by simp)) p.dict, p.ap⟩⟩
theorem Dis.freS (o : OwnS C F H a rs z) (f : FreN H S) : Dis S (a :: rs) := fun q hq y => by
  obtain ⟨x, h⟩ := o.mem hq
  have h2 := h.h
  rw [f q y] at h2
  cases h2
theorem Dis.oldS (o : OwnS C F H a rs z) (f : FreN H R) : Dis (a :: rs) R := fun q hq y => by
  obtain ⟨x, h⟩ := o.mem y
  have := f q hq
  rw [h.h] at this
  cases this
theorem nm_ownS (o : OwnS C F H a rs z) (f : Fre H b) : b ∉ a :: rs := fun y => by
  obtain ⟨x, h⟩ := o.mem y
  have h2 := h.h
  rw [show H b = none from f] at h2
  cases h2
theorem FreN.cons (h : Fre H a) (t : FreN H rs) : FreN H (a :: rs) := fun q hq => by
  rcases List.mem_cons.mp hq with rfl | hq
  · exact h
  · exact t q hq
theorem sub_tl1 {x : Addr} : ∀ q ∈ S', q ∈ x :: S' ∨ H q = none := fun q h => .inl (List.mem_cons_of_mem _ h)
theorem sub_tl3 {x y w : Addr} : ∀ q ∈ S', q ∈ x :: y :: w :: S' ∨ H q = none := fun q h => .inl (List.mem_cons_of_mem _ (List.mem_cons_of_mem _ (List.mem_cons_of_mem _ h)))
/-- rows made while others are lent -/
theorem Lent.keepN {F0 H0 F5 H5 : Hp} (l : Lent F0 H0 F1) (s : Stp S F1 H0 F5 H5) (o5 : OwnN F5 H5 L rs e xss) (h0 : FreN H0 (L :: rs)) (hn : ∀ xs : List α, noLs (xs.map e) = true) : OwnN (thaw F0 F5) H5 L rs e xss :=
  ⟨l.keep s o5.own (h0 _ List.mem_cons_self), o5.nd, o5.len, fun i r xs h1 h2 => by
    obtain ⟨ws, h3, h4⟩ := o5.row i r xs h1 h2
    exact ⟨ws, l.keep s h3 (h0 r (List.mem_cons_of_mem _ (List.mem_of_getElem? h1))), l.rds s h4 (hn xs)⟩⟩
end
end DK
set_option maxRecDepth 100000
set_option maxHeartbeats 2000000
/-! DK, twenty-eighth part: isinstance with a tuple of classes, of a caught error. -/
namespace DK
open PySem PySem.Spec PyProof.Rows L2
/-- one of some classes -/
def AnyC (K : PySem.W.Frag) (D : Addr) : List V → Bool → Prop
  | [], b => b = false
  | v :: vs, b => ∃ C b1 b2, v = .ref C ∧ PySem.W.kitOne K (.ref D) (.ref C) = some b1 ∧ AnyC K D vs b2 ∧ b = (b1 || b2)
theorem AnyC.kit {K : PySem.W.Frag} {D : Addr} : ∀ {vs : List V} {us : List Value} {b : Bool}, AnyC K D vs b → Vals vs us → PySem.W.kitAny K (.ref D) us = some b
  | [], _, b, h, r => by cases r; cases h; rfl
  | v :: vs, _, b, h, r => by
    cases r with
    | cons r1 r2 =>
      obtain ⟨C, b1, b2, rfl, e1, h2, rfl⟩ := h
      cases (show _ = Value.ref C from r1)
      have e2 := AnyC.kit h2 r2
      show (match PySem.W.kitOne K (.ref D) (.ref C) with | some true => some true | some false => PySem.W.kitAny K (.ref D) _ | none => none) = _
      rw [e1]
      cases b1 with
      | true => rfl
      | false => exact e2
def rIsT (K : PySem.W.Frag) : List V → Hp → VK → Prop := fun xs H Q => ∃ (a D tp : Addr) (cs : List V) (b : Bool), xs = [.ref a, .ref tp] ∧ H tp = some (.tup cs) ∧ H a = some (ExK (.ref D) none a) ∧ ExcC K D ∧ AnyC K D cs b ∧ Q (.bl b) H
theorem call_isT {X : Cx} : CallR X (.builtin "isinstance") (rIsT X.K) := by
  intro pins s σ H xs us Q I r h
  obtain ⟨a, D, tp, cs, b, rfl, ht, ha, C, e, q⟩ := h
  obtain ⟨u1, u2, rfl, r1, r2⟩ := vals2 r
  cases (show u1 = Value.ref a from r1)
  cases (show u2 = Value.ref tp from r2)
  obtain ⟨⟨oe, vs, ho, hz, hd⟩, _⟩ := (show ObjOk X.prog X.w H s.heap a (ExK (.ref D) none a) from I.hok a _ ha)
  have J : PySem.W.InstAt s.heap a oe D none := by
    obtain ⟨oc, od, oda, osl⟩ := oe
    obtain ⟨h1, h2⟩ := hz
    dsimp only at h1 h2 hd
    subst h1 h2 hd
    exact ⟨ho, rfl, rfl, trivial⟩
  obtain ⟨_, its, rv, T⟩ := (show ObjOk X.prog X.w H s.heap tp (.tup cs) from I.hok tp _ ht)
  obtain ⟨⟨oc, od, oda, osl⟩, T1, T2, n, T3⟩ := T
  dsimp only at T2 T3
  subst T2 T3
  exact PySem.W.kia_tup (PySem.W.handS_kitx_exc C.hg C.hk C.hs C.hd C.ha C.hn C.ht C.hm) I.kIn J T1 (e.kit rv) (fun z => nomatch z) fun tk => ⟨.bl b, H, I.tok tk, rfl, q⟩
section
variable {K : PySem.W.Frag} {F H : Hp} {Q : VK}
theorem sm_isT {p : Xc} {v : V} {tp : Addr} {cs : List V} {b : Bool} (s : Same F H) (h : RD F (eX K p) v) (ht : H tp = some (.tup cs)) (C : ExcC K (He.ga K p.nm)) (e : AnyC K (He.ga K p.nm) cs b) (k : Q (.bl b) H) : rIsT K [v, .ref tp] H Q := by
  obtain ⟨a, d, rfl, h1, h2⟩ := h
  obtain rfl : d = none := h2
  exact ⟨a, _, tp, cs, b, rfl, ht, s a _ h1, C, e, k⟩
theorem AnyC.nil {D : Addr} : AnyC K D [] false := rfl
theorem AnyC.cons {D C : Addr} {b1 b2 : Bool} {vs : List V} (h : PySem.W.kitOne K (.ref D) (.ref C) = some b1) (t : AnyC K D vs b2) : AnyC K D (.ref C :: vs) (b1 || b2) := ⟨C, b1, b2, rfl, h, t, rfl⟩
/-- a tuple that is made to be looked at -/
theorem newT_any {vs : List V} (z : vs.length ≤ 1000000) (e : Same F H) (k : ∀ p F' H', Stp [] F H F' H' → H' p = some (.tup vs) → Q (.ref p) H') : NewT vs H Q :=
  ⟨sz_le z, fun p n => k p _ _ (Stp.new e n) upd_same⟩
end
end DK
set_option maxRecDepth 100000
set_option maxHeartbeats 2000000
/-! DK, twenty-ninth part: a setting whose shares and inks are lists of ours, too. -/
namespace DK
open PySem PySem.Spec PyProof.Rows L2
structure OwnU (C : Addr) (F H : Hp) (a : Addr) (z : SetZ) (dx Lst Ld La Lb Ls : Addr) (rss : List Addr) (vc : V) (ws wa wb : List V) : Prop where
  ins : Own F H a (.ins C dx [("most", .int z.1), ("shades", .ref Ls), ("cells", vc), ("shares", .ref La), ("inks", .ref Lb), ("states", .ref Lst), ("set_inks", .ref Ld)])
  shades : OwnN F H Ls rss Dat.int z.2.1
  cells : RD F (eL (eP Dat.int Dat.int) z.2.2.1) vc
  shares : Own F H La (.lst wa)
  rshares : RDs F (z.2.2.2.1.map Dat.int) wa
  inks : Own F H Lb (.lst wb)
  rinks : RDs F (z.2.2.2.2.1.map Dat.int) wb
  states : Own F H Lst (.lst ws)
  rstates : RDs F (z.2.2.2.2.2.1.map (eP (eT Dat.int) Dat.int)) ws
  dict : Own F H Ld (.dT (dTK V.int z.2.2.2.2.2.2))
  ap : Lst ∉ Ls :: rss
  ap1 : La ∉ Ls :: rss
  ap2 : Lb ∉ Ls :: rss
  ap3 : La ≠ Lst
  ap4 : Lb ≠ Lst
  ap5 : La ≠ Lb
def OwnT (C : Addr) (F H : Hp) (a : Addr) (rs : List Addr) (z : SetZ) : Prop :=
  ∃ dx Lst Ld La Lb Ls rss vc ws wa wb, rs = Lst :: Ld :: La :: Lb :: Ls :: rss ∧ OwnU C F H a z dx Lst Ld La Lb Ls rss vc ws wa wb
section
variable {C : Addr} {F H F1 H1 : Hp} {a b dx Lst Ld La Lb Ls : Addr} {rs rss S S' R : List Addr} {z : SetZ} {vc : V} {ws wa wb : List V}
theorem OwnT.opn (o : OwnT C F H a rs z) : ∃ dx Lst Ld La Lb Ls rss vc ws wa wb, rs = Lst :: Ld :: La :: Lb :: Ls :: rss ∧ Own F H a (.ins C dx [("most", .int z.1), ("shades", .ref Ls), ("cells", vc), ("shares", .ref La), ("inks", .ref Lb), ("states", .ref Lst), ("set_inks", .ref Ld)]) ∧ OwnN F H Ls rss Dat.int z.2.1 ∧ RD F (eL (eP Dat.int Dat.int) z.2.2.1) vc ∧ Own F H La (.lst wa) ∧ RDs F (z.2.2.2.1.map Dat.int) wa ∧ Own F H Lb (.lst wb) ∧ RDs F (z.2.2.2.2.1.map Dat.int) wb ∧ Own F H Lst (.lst ws) ∧ RDs F (z.2.2.2.2.2.1.map (eP (eT Dat.int) Dat.int)) ws ∧ Own F H Ld (.dT (dTK V.int z.2.2.2.2.2.2)) ∧ Lst ∉ Ls :: rss ∧ a ∉ Ls :: rss ∧ Ld ∉ Ls :: rss ∧ a ≠ Lst ∧ a ≠ Ld ∧ Lst ≠ Ld ∧ La ∉ Ls :: rss ∧ Lb ∉ Ls :: rss ∧ La ≠ Lst ∧ Lb ≠ Lst ∧ La ≠ Lb ∧ a ≠ La ∧ a ≠ Lb ∧ La ≠ Ld ∧ Lb ≠ Ld := by
  obtain ⟨dx, Lst, Ld, La, Lb, Ls, rss, vc, ws, wa, wb, e, p⟩ := o
  have n1 : ∀ {x : Addr} {o : HO}, Own F H x o → (∀ vs, o ≠ .lst vs) → x ∉ Ls :: rss := fun h n q => by
    obtain ⟨vs, w⟩ := p.shades.mem q
    have := h.h.symm.trans w.h
    exact n vs (Option.some.inj this)
  refine ⟨dx, Lst, Ld, La, Lb, Ls, rss, vc, ws, wa, wb, e, p.ins, p.shades, p.cells, p.shares, p.rshares, p.inks, p.rinks, p.states, p.rstates, p.dict, p.ap, n1 p.ins (fun _ q => by cases q), n1 p.dict (fun _ q => by cases q), ?_, ?_, ?_, p.ap1, p.ap2, p.ap3, p.ap4, p.ap5, ?_, ?_, ?_, ?_⟩
  · rintro rfl; have := p.ins.h.symm.trans p.states.h; cases this
  · rintro rfl; have := p.ins.h.symm.trans p.dict.h; cases this
  · rintro rfl; have := p.states.h.symm.trans p.dict.h; cases this
  · rintro rfl; have := p.ins.h.symm.trans p.shares.h; cases this
  · rintro rfl; have := p.ins.h.symm.trans p.inks.h; cases this
  · rintro rfl; have := p.shares.h.symm.trans p.dict.h; cases this
  · rintro rfl; have := p.inks.h.symm.trans p.dict.h; cases this
theorem OwnT.opn2 (o : OwnT C F H a (Lst :: Ld :: La :: Lb :: Ls :: rss) z) : ∃ dx vc ws wa wb, Own F H a (.ins C dx [("most", .int z.1), ("shades", .ref Ls), ("cells", vc), ("shares", .ref La), ("inks", .ref Lb), ("states", .ref Lst), ("set_inks", .ref Ld)]) ∧ OwnN F H Ls rss Dat.int z.2.1 ∧ RD F (eL (eP Dat.int Dat.int) z.2.2.1) vc ∧ Own F H La (.lst wa) ∧ RDs F (z.2.2.2.1.map Dat.int) wa ∧ Own F H Lb (.lst wb) ∧ RDs F (z.2.2.2.2.1.map Dat.int) wb ∧ Own F H Lst (.lst ws) ∧ RDs F (z.2.2.2.2.2.1.map (eP (eT Dat.int) Dat.int)) ws ∧ Own F H Ld (.dT (dTK V.int z.2.2.2.2.2.2)) := by
  obtain ⟨dx, Lst', Ld', La', Lb', Ls', rss', vc, ws, wa, wb, e, p⟩ := o
  simp only [List.cons.injEq] at e
  obtain ⟨rfl, rfl, rfl, rfl, rfl, rfl⟩ := e
  exact ⟨dx, vc, ws, wa, wb, p.ins, p.shades, p.cells, p.shares, p.rshares, p.inks, p.rinks, p.states, p.rstates, p.dict⟩
theorem OwnT.mk {most : Int} {shades : List (List Int)} {cells : List (Int × Int)} {shares inks : List Int} {states : List (List Int × Int)} {dict : List ((Int × Int) × Int)} (h1 : Own F H a (.ins C dx [("most", .int most), ("shades", .ref Ls), ("cells", vc), ("shares", .ref La), ("inks", .ref Lb), ("states", .ref Lst), ("set_inks", .ref Ld)])) (h2 : OwnN F H Ls rss Dat.int shades) (h3 : RD F (eL (eP Dat.int Dat.int) cells) vc) (h4 : Own F H La (.lst wa)) (h4' : RDs F (shares.map Dat.int) wa) (h5 : Own F H Lb (.lst wb)) (h5' : RDs F (inks.map Dat.int) wb) (h6 : Own F H Lst (.lst ws)) (h7 : RDs F (states.map (eP (eT Dat.int) Dat.int)) ws) (h8 : Own F H Ld (.dT (dTK V.int dict))) (h9 : Lst ∉ Ls :: rss) (k1 : La ∉ Ls :: rss) (k2 : Lb ∉ Ls :: rss) (k3 : La ≠ Lst) (k4 : Lb ≠ Lst) (k5 : La ≠ Lb) : OwnT C F H a (Lst :: Ld :: La :: Lb :: Ls :: rss) (most, shades, cells, shares, inks, states, dict) :=
  ⟨dx, Lst, Ld, La, Lb, Ls, rss, vc, ws, wa, wb, rfl, ⟨h1, h2, h3, h4, h4', h5, h5', h6, h7, h8, h9, k1, k2, k3, k4, k5⟩⟩
theorem OwnT.insI (o : OwnT C F H a rs z) : ∃ dx fs, H a = some (.ins C dx fs) ∧ ∀ m : Str, m ∉ (["most", "shades", "cells", "shares", "inks", "states", "set_inks"] : List Str) → fs.lookup m = none := by
  obtain ⟨dx, Lst, Ld, La, Lb, Ls, rss, vc, ws, wa, wb, e, p⟩ := o
  refine ⟨dx, _, p.ins.h, fun m hm => ?_⟩
  exact zip_none (ns := (["most", "shades", "cells", "shares", "inks", "states", "set_inks"] : List Str)) (ws := [.int z.1, .ref Ls, vc, .ref La, .ref Lb, .ref Lst, .ref Ld]) hm
theorem OwnT.mem (o : OwnT C F H a rs z) {q : Addr} (h : q ∈ a :: rs) : ∃ x, Own F H q x := by
  obtain ⟨dx, Lst, Ld, La, Lb, Ls, rss, vc, ws, wa, wb, rfl, p⟩ := o
  rcases List.mem_cons.mp h with rfl | h
  · exact ⟨_, p.ins⟩
  rcases List.mem_cons.mp h with rfl | h
  · exact ⟨_, p.states⟩
  rcases List.mem_cons.mp h with rfl | h
  · exact ⟨_, p.dict⟩
  rcases List.mem_cons.mp h with rfl | h
  · exact ⟨_, p.shares⟩
  rcases List.mem_cons.mp h with rfl | h
  · exact ⟨_, p.inks⟩
  obtain ⟨vs, w⟩ := p.shades.mem h
  exact ⟨_, w⟩
theorem Stp.keepT (s : Stp S F H F1 H1) (d : Dis S (a :: rs)) (o : OwnT C F H a rs z) : OwnT C F1 H1 a rs z := by
  obtain ⟨dx, Lst, Ld, La, Lb, Ls, rss, vc, ws, wa, wb, rfl, p⟩ := o
  have dm : ∀ q, q ∈ a :: Lst :: Ld :: La :: Lb :: Ls :: rss → q ∉ S := d
  exact ⟨dx, Lst, Ld, La, Lb, Ls, rss, vc, ws, wa, wb, rfl, ⟨s.keep (dm _ (by simp)) p.ins, s.keepN (fun q hq => dm q (List.mem_cons_of_mem _ (List.mem_cons_of_mem _ (List.mem_cons_of_mem _ (List.mem_cons_of_mem _ (List.mem_cons_of_mem _ hq)))))) p.shades, s.up p.cells, s.keep (dm _ (by simp)) p.shares, s.ups p.rshares, s.keep (dm _ (by simp)) p.inks, s.ups p.rinks, s.keep (dm _ (by simp)) p.states, s.ups p.rstates, s.keep (dm _ (by simp)) p.dict, p.ap, p.ap1, p.ap2, p.ap3, p.ap4, p.ap5⟩⟩
theorem Dis.freT (o : OwnT C F H a rs z) (f : FreN H S) : Dis S (a :: rs) := fun q hq y => by
  obtain ⟨x, h⟩ := o.mem hq
  have h2 := h.h
  rw [f q y] at h2
  cases h2
theorem Dis.oldT (o : OwnT C F H a rs z) (f : FreN H R) : Dis (a :: rs) R := fun q hq y => by
  obtain ⟨x, h⟩ := o.mem y
  have := f q hq
  rw [h.h] at this
  cases this
theorem nm_ownT (o : OwnT C F H a rs z) (f : Fre H b) : b ∉ a :: rs := fun y => by
  obtain ⟨x, h⟩ := o.mem y
  have h2 := h.h
  rw [show H b = none from f] at h2
  cases h2
theorem sub_tl5 {x y w u v : Addr} : ∀ q ∈ S', q ∈ x :: y :: w :: u :: v :: S' ∨ H q = none := fun q h => .inl (List.mem_cons_of_mem _ (List.mem_cons_of_mem _ (List.mem_cons_of_mem _ (List.mem_cons_of_mem _ (List.mem_cons_of_mem _ h)))))
end
end DK
namespace DK
open PySem PySem.Spec PyProof.Rows L2
section
variable {α β : Type} {P : β → Prop} {X : Xc → Option Int → Prop} {σ : Sg} {H : Hp}
theorem cutTS {c : TT} {m : Rs (Bool × α)} {k : Bool × α → Rs β} {Q : Bool → Hp → Prop} (J : α → Hp → Hp → Prop) (S : List Addr) (F H : Hp) (hm : Post (m.bnd k) P X)
    (h1 : ∀ Q' : Bool → Hp → Prop, (∀ b z F' H', Stp S F H F' H' → J z F' H' → Post (k (b, z)) P X → Q' b H') → Post m (fun b => Post (k b) P X) X → c σ H Q')
    (h2 : ∀ b z F' H', Stp S F H F' H' → J z F' H' → Post (k (b, z)) P X → Q b H') : c σ H Q := h1 Q h2 hm.b
end
end DK
set_option maxRecDepth 100000
set_option maxHeartbeats 2000000
/-! DK, thirtieth part: a, b, c = x, y, z. -/
namespace DK
open PySem PySem.Spec PyProof.Rows L2
def tPar3 (i j k : Nat) (ta : TA) : TS := fun D σ H => ta σ H fun vs H1 => ∃ v w t, vs = [v, w, t] ∧ D.nx (((σ.set k (some t)).set j (some w)).set i (some v)) H1
theorem vals3 {v w t : V} {us : List Value} (r : Vals [v, w, t] us) : ∃ u1 u2 u3, us = [u1, u2, u3] ∧ RelV v u1 ∧ RelV w u2 ∧ RelV t u3 := by
  cases r with
  | cons p q =>
    cases q with
    | cons p' q' =>
      cases q' with
      | cons p2 q2 =>
        cases q2 with
        | nil => exact ⟨_, _, _, rfl, p, p', p2⟩
theorem ps_par3 {X : Cx} {pos : Pos} {i j k : Nat} {x y z : Str} {a b c : Expr} {ta : TA} {px py pz pt : Pos} {kt k2 : Nat} {pt2 : Pos} (hc : X.calm = true) (hN : X.N.Nodup) (hi : X.N[i]? = some x) (hj : X.N[j]? = some y) (hk : X.N[k]? = some z)
    (hx : X.env.scope.names.lookup x = some NameKind.local) (hy : X.env.scope.names.lookup y = some NameKind.local) (hz : X.env.scope.names.lookup z = some NameKind.local) (ha : PA X [a, b, c] ta)
    (hw : swappedStores [Expr.Tuple [Expr.Name x px, Expr.Name y py, Expr.Name z pz] kt pt] (Expr.Tuple [a, b, c] k2 pt2) X.env = pure (some [x, y, z]))
    (hs : swapsWithSole [Expr.Tuple [Expr.Name x px, Expr.Name y py, Expr.Name z pz] kt pt] (Expr.Tuple [a, b, c] k2 pt2) pos.line X.env = pure false := by rfl) :
    PS X (Stmt.Assign [Expr.Tuple [Expr.Name x px, Expr.Name y py, Expr.Name z pz] kt pt] (Expr.Tuple [a, b, c] k2 pt2) pos) (tPar3 i j k ta) := ⟨fun pins s σ H D I h => by
  refine PyProof.Rows.Assign_Tuple_swapped (names := [x, y, z]) ?_ hs hw
  refine PyProof.Rows.Tuple_ (thn (ha.run pt2 pins s σ H _ I h) ?_)
  rintro us s1 ⟨vs, H1, I1, r1, v, w, t, rfl, q1⟩
  obtain ⟨u1, u2, u3, rfl, rv, rw', rt⟩ := vals3 r1
  refine wpAny_newObj_type ?_ (show (#[u1, u2, u3] : Array Value).size ≤ sizeLine by show 3 ≤ sizeLine; decide)
  have I2 := Inv.kept (t' := s1.toks) I1 fun b o e => Heap.get?_push_of_some { cls := Value.type "tuple", data := Data.seq #[u1, u2, u3] } e
  refine PyProof.Rows.unpackItems_tuple (items := #[u1, u2, u3]) (I.ok.hd hc) (PyProof.Rows.IsTup.new s1.heap #[u1, u2, u3]) fun h' hx' => ?_
  have I3 := Inv.kept (t' := s1.toks) I2 fun b o e => hx' b o (Nat.ne_of_lt (Heap.lt_size e)) e
  refine PyProof.Rows.assignInOrder_cons (wpAny_bindName (store_ok I3 hN hk (Or.inl hz) rt (fun s2 I4 => ?_) (Or.inr hz)))
  refine PyProof.Rows.assignInOrder_cons (wpAny_bindName (store_ok I4 hN hj (Or.inl hy) rw' (fun s3 I5 => ?_) (Or.inr hy)))
  refine PyProof.Rows.assignInOrder_cons (wpAny_bindName (store_ok I5 hN hi (Or.inl hx) rv (fun s4 I6 => ?_) (Or.inr hx)))
  exact PyProof.Rows.assignInOrder_nil ⟨_, _, I6, q1⟩⟩
theorem st_par3 {i j k : Nat} {t : TA} {D : Ends} {σ : Sg} {H : Hp} (k' : t σ H fun vs H1 => ∃ x y z, vs = [x, y, z] ∧ D.nx (((σ.set k (some z)).set j (some y)).set i (some x)) H1) : tPar3 i j k t D σ H := k'
theorem st_parx3 {i j k : Nat} {x y z : V} {σ σ' : Sg} {H : Hp} {N : Sg → Hp → Prop} (e : (((σ.set k (some z)).set j (some y)).set i (some x)) = σ') (h : N σ' H) : ∃ x' y' z', [x, y, z] = [x', y', z'] ∧ N (((σ.set k (some z')).set j (some y')).set i (some x')) H := ⟨x, y, z, rfl, by rw [e]; exact h⟩
end DK
set_option maxRecDepth 100000
set_option maxHeartbeats 2000000
/-! DK, thirty-first part: loops over the cells of a dict of ours; reading it. -/
namespace DK
open PySem PySem.Spec PyProof.Rows L2
/-- the ends of a loop over a dict that is held fast -/
def lockE (D : Ends) (L : Addr) (od : Obj) (u : HO) : Ends where
  nx := fun σ' H' => H' L = some (.frz od u) ∧ D.nx σ' (upd H' L u)
  rt := fun v H' => H' L = some (.frz od u) ∧ D.rt v (upd H' L u)
  bk := fun σ' H' => H' L = some (.frz od u) ∧ D.bk σ' (upd H' L u)
  ct := fun σ' H' => H' L = some (.frz od u) ∧ D.ct σ' (upd H' L u)
section
variable {K : PySem.W.Frag} {S : List Addr} {F H F1 H1 : Hp} {σ : Sg} {D : Ends} {Q : VK} {L : Addr} {u : HO} {od : Obj} {α : Type} {vv : α → V} {zs : List ((Int × Int) × α)} {k : Int × Int} {w : V} {y : α}
theorem unlock (s : Same F H) (o : Own F H L u) (t : Stp S F (upd H L (.frz od u)) F1 H1) (n : L ∉ S) : Stp S F H F1 (upd H1 L u) := by
  obtain ⟨h1, h2⟩ := t.own L _ n o.f upd_same trivial
  refine ⟨s, t.ex, fun b x e => ?_, fun p x np f e nt => ?_, fun p e => ?_, fun p xs e => ?_⟩
  · rw [upd_ne (ne_of_none e h2)]; exact t.inn b x e
  · by_cases z : p = L
    · subst z
      rw [o.h] at e; cases e
      exact ⟨upd_same, h2⟩
    · obtain ⟨a, b⟩ := t.own p x np f (by rw [upd_ne z]; exact e) nt
      exact ⟨by rw [upd_ne z]; exact a, b⟩
  · by_cases z : p = L
    · subst z; rw [upd_same] at e; cases e
    · rw [upd_ne z] at e
      have := t.dom p e
      rw [upd_ne z] at this
      exact this
  · have z : p ≠ L := by
      rintro rfl
      have q := o.nt
      rw [o.h] at e
      cases e
      exact q
    rw [upd_ne z]
    exact t.tup p xs (by rw [upd_ne z]; exact e)
theorem unlk {F0 H0 : Hp} (s : Same F H) (o : Own F H L (.frz od u)) (t : Stp S F0 H0 F (upd H L u)) : ∃ F2, Stp [L] F H F2 (upd H L u) ∧ Stp S F0 H0 F2 (upd H L u) := ⟨F, Stp.put s o, t⟩
theorem st_lockO {t : TS} (s : Same F H) (o : Own F H L u) (hu : Mut (some u)) (k : ∀ od Fl Hl, Stp [L] F H Fl Hl → Own Fl Hl L (.frz od u) → (∀ S F' H', Stp S Fl Hl F' H' → L ∉ S → Stp S F H F' (upd H' L u)) → t (lockE D L od u) σ Hl) : tLock t D σ H :=
  ⟨L, u, o.h, hu, fun od => k od F _ (Stp.put s o) ⟨o.f, upd_same, trivial⟩ fun S F' H' t n => unlock s o t n⟩
variable {S' R : Type} {X : Xc → Option Int → Prop} {P : Ctl S' R → Prop} {f : S' → Int × Int → Rs (Ctl S' R)} {s0 : S'} {g : TG} {tl : TS} {td : TE}
/-- over its cells -/
theorem fr_D (o : Own F H L (.frz od (.dT (dTK vv zs)))) (hv : ∀ Q : VK, Q (.ref L) H → td σ H Q) (hp : Post (forR f (zs.map (·.1)) s0) P X) (I : S' → Sg → Hp → Prop) (h0 : I s0 σ H) (hG : ∀ s σ H', I s σ H' → ∃ F', Own F' H' L (.frz od (.dT (dTK vv zs))))
    (hs : ∀ (x : Int × Int) (rest : List (Int × Int)) (s : S') (q : Addr) σ' H1, H1 q = some (.tup [.int x.1, .int x.2]) → I s σ' H1 → Post (f s x) (Turn f P rest X) X → g (.ref q) σ' H1 fun σ2 H3 => tl { D with nx := NxF I f P rest X, ct := NxF I f P rest X, bk := D.nx } σ2 H3)
    (hd : ∀ s σ H, I s σ H → P (.nx s) → D.nx σ H) : iKeys td σ H fun J H => LoopOwes g tl D σ J H := by
  refine hv _ ⟨L, od, rfl, .inr ⟨_, o.h, fr_core walk_keysT (by rw [List.length_map, List.length_map]) I hp h0 (fun s σ H' q => (hG s σ H' q).choose_spec.h) ?_ hd⟩⟩
  rintro i x rest s u σ' H1 H2 hx q ⟨rfl, kk, v, p, e1, rfl, e2⟩ pp
  rw [List.getElem?_map] at hx e1
  obtain ⟨z, hz, rfl⟩ := Option.map_eq_some_iff.mp hx
  rw [hz] at e1
  cases e1
  exact hs z.1 rest s p σ' _ e2 q pp
theorem sm_g2H {t : TGs} {R : Sg → Hp → Prop} {p : Addr} {x y : V} (h : H p = some (.tup [x, y])) (k : t [x, y] σ H R) : gTupU K 2 t (.ref p) σ H R := .inl ⟨p, [x, y], rfl, SqT.of h, rfl, k⟩

variable {G : V → Prop}
theorem sm_dgO (s : Same F H) (o : Own F H L (.dT (dTK vv zs))) (hk : RD F (eP Dat.int Dat.int k) w) (e : lookD zs k = some y) (kk : G (vv y)) : ∃ a v, V.ref L = .ref a ∧ DGet H a w (some v) ∧ G v :=
  ⟨L, vv y, rfl, by have := dget_of (vv := vv) s o.h hk; rw [e] at this; exact this, kk⟩
theorem sm_dgL (s : Same F H) (o : Own F H L (.frz od (.dT (dTK vv zs)))) (hk : RD F (eP Dat.int Dat.int k) w) (e : lookD zs k = some y) (kk : G (vv y)) : ∃ a v, V.ref L = .ref a ∧ DGet H a w (some v) ∧ G v := by
  obtain ⟨b, rfl, hb⟩ := rd_key s hk
  refine ⟨L, vv y, rfl, .inr ⟨_, kP k, b, .inr ⟨od, o.h⟩, rfl, hb, ?_⟩, kk⟩
  rw [valV_d, e]; rfl
theorem sm_dgF {x : V} (s : Same F H) (h : RD F (eD vv zs) x) (hk : RD F (eP Dat.int Dat.int k) w) (e : lookD zs k = some y) (kk : G (vv y)) : ∃ a v, x = .ref a ∧ DGet H a w (some v) ∧ G v := by
  obtain ⟨L, rfl, hL⟩ := rd_dct s h
  exact ⟨L, vv y, rfl, by have := dget_of (vv := vv) s hL hk; rw [e] at this; exact this, kk⟩
theorem cutFL {t : TS} {S2 R2 β : Type} {m : Rs (Ctl S2 R2)} {k : S2 → Rs β} {r : R2 → Rs β} {P2 : β → Prop} (hm : Post (m.thn k r) P2 X) (I : S2 → Sg → Hp → Prop)
    (h1 : ∀ nx : Sg → Hp → Prop, (∀ s σ' H', I s σ' H' → Post (k s) P2 X → nx σ' H') → Post m (Ctl.on (fun s => Post (k s) P2 X) (fun s => Post (k s) P2 X) fun x => Post (r x) P2 X) X → tLock t { D with nx := nx } σ H)
    (h2 : ∀ s σ' H', I s σ' H' → Post (k s) P2 X → D.nx σ' H') : tLock t D σ H := cutS (t := tLock t) hm I h1 h2
theorem st_dget {td ty : TE} (k : td σ H fun x H1 => ty σ H1 fun y H2 => ∃ a v, x = .ref a ∧ DGet H2 a y (some v) ∧ Q v H2) : tDGet td ty σ H Q := k
end
end DK
set_option maxRecDepth 100000
set_option maxHeartbeats 2000000
/-! DK, thirty-second part: a box of ours: a truth, the script, a list of one number, a number. -/
namespace DK
open PySem PySem.Spec PyProof.Rows L2
abbrev BoxZ := Bool × List Int × List Int × Int
/-- the box at a, its inner list: rs -/
def OwnB (K : PySem.W.Frag) (F H : Hp) (a : Addr) (rs : List Addr) (z : BoxZ) : Prop :=
  ∃ (La : Addr) (vs : V) (ws : List V), rs = [La] ∧ Own F H a (.lst [.bl z.1, vs, .ref La, .int z.2.2.2]) ∧ Scr K F vs z.2.1 ∧ Own F H La (.lst ws) ∧ RDs F (z.2.2.1.map Dat.int) ws ∧ a ≠ La
section
variable {K : PySem.W.Frag} {F H F1 H1 : Hp} {a b La : Addr} {rs S S' R : List Addr} {z : BoxZ} {vs : V} {ws : List V} {Q : VK} {i : Int}
theorem OwnB.opn (o : OwnB K F H a rs z) : ∃ La vs ws, rs = [La] ∧ Own F H a (.lst [.bl z.1, vs, .ref La, .int z.2.2.2]) ∧ Scr K F vs z.2.1 ∧ Own F H La (.lst ws) ∧ RDs F (z.2.2.1.map Dat.int) ws ∧ a ≠ La := o
theorem OwnB.mk {c : Bool} {ns k : List Int} {n : Int} (h1 : Own F H a (.lst [.bl c, vs, .ref La, .int n])) (h2 : Scr K F vs ns) (h3 : Own F H La (.lst ws)) (h4 : RDs F (k.map Dat.int) ws) (h5 : a ≠ La) : OwnB K F H a [La] (c, ns, k, n) := ⟨La, vs, ws, rfl, h1, h2, h3, h4, h5⟩
theorem OwnB.mem (o : OwnB K F H a rs z) {q : Addr} (h : q ∈ a :: rs) : ∃ x, Own F H q x := by
  obtain ⟨La, vs, ws, rfl, h1, h2, h3, h4, h5⟩ := o
  rcases List.mem_cons.mp h with rfl | h
  · exact ⟨_, h1⟩
  · rw [List.mem_singleton.mp h]; exact ⟨_, h3⟩
theorem Stp.keepB (s : Stp S F H F1 H1) (d : Dis S (a :: rs)) (o : OwnB K F H a rs z) : OwnB K F1 H1 a rs z := by
  obtain ⟨La, vs, ws, rfl, h1, h2, h3, h4, h5⟩ := o
  exact ⟨La, vs, ws, rfl, s.keep (d a (by simp)) h1, h2.up s, s.keep (d La (by simp)) h3, s.ups h4, h5⟩
theorem Dis.freB (o : OwnB K F H a rs z) (f : FreN H S) : Dis S (a :: rs) := fun q hq y => by
  obtain ⟨x, h⟩ := o.mem hq
  have h2 := h.h
  rw [f q y] at h2
  cases h2
theorem Dis.oldB (o : OwnB K F H a rs z) (f : FreN H R) : Dis (a :: rs) R := fun q hq y => by
  obtain ⟨x, h⟩ := o.mem y
  have := f q hq
  rw [h.h] at this
  cases this
theorem nm_ownB (o : OwnB K F H a rs z) (f : Fre H b) : b ∉ a :: rs := fun y => by
  obtain ⟨x, h⟩ := o.mem y
  have h2 := h.h
  rw [show H b = none from f] at h2
  cases h2
/-- box[3] = x -/
theorem sm_setB {P : Hp → Prop} (e : Same F H) (o : OwnB K F H a rs z) (k : ∀ F' H', Stp (a :: rs) F H F' H' → OwnB K F' H' a rs (z.1, z.2.1, z.2.2.1, i) → P H') : rSetL (.ref a) (.int 3) (.int i) H P := by
  obtain ⟨La, vs, ws, rfl, h1, h2, h3, h4, h5⟩ := o
  refine st_setO e h1 (n := 3) (by rfl) fun F' H' s o' => k F' H' (s.wide fun q hq => by rw [List.mem_singleton.mp hq]; simp) ⟨La, vs, ws, rfl, o', h2.up s, s.keep (by simpa using h5.symm) h3, s.ups h4, h5⟩
/-- box[..] -/
theorem sm_ixB {v : V} {xs : List V} (o : Own F H a (.lst xs)) (hi : atI xs i = some v) (k : Q v H) : rIxU K (.ref a) (.int i) H Q := st_ixO o hi k
theorem sub_tlB {x y : Addr} : ∀ q ∈ [y], q ∈ [x, y] ∨ H q = none := fun q h => .inl (List.mem_cons_of_mem _ h)
end
/-! ### comprehensions that change a thing of ours -/
section
variable {α β T : Type} {K : PySem.W.Frag} {F H : Hp} {σ : Sg} {Q : VK} {X : Xc → Option Int → Prop} {f : T → α → Rs (Option β × T)} {zs : List α} {s0 : T} {g : TG} {tt : TT} {te : TE} {v : V} {e : α → Dat} {e2 : β → Dat} {B : T → Hp → Hp → Prop} {R : List Addr} {ws : List Nat}
theorem Post.mapx {x : α} {xs : List α} {s : T} {P : List β × T → Prop} (h : Post (mapS f (x :: xs) s) P X) : Post (f s x) (fun o => Post (mapS f xs o.2) (fun r => P (match o.1 with | some y => (y :: r.1, r.2) | none => r)) X) X := by
  unfold mapS at h
  exact h.b.mono fun a p => p.b
abbrev LcTurnX (g : TG) (tt : TT) (te : TE) (ws : List Nat) (σ : Sg) (e2 : β → Dat) (B : T → Hp → Hp → Prop) (R : List Addr) (F1 H1 : Hp) (m : Rs (Option β × T)) (X : Xc → Option Int → Prop) (u : V) : Prop :=
  ∀ (PN : Option β × T → Prop) (NY : VK) (NN : Hp → Prop), (∀ y b s F4 H4, Stp R F1 H1 F4 H4 → B s F4 H4 → RD F4 (e2 b) y → PN (some b, s) → NY y H4) → (∀ s F4 H4, Stp R F1 H1 F4 H4 → B s F4 H4 → PN (none, s) → NN H4) → Post m PN X →
    g u (wipe σ ws) H1 fun σ2 H3 => wipe σ2 ws = wipe σ ws ∧ tt σ2 H3 fun b H4 => if b = true then te σ2 H4 NY else NN H4
/-- B is of the region R alone -/
structure Framed (B : T → Hp → Hp → Prop) (R : List Addr) : Prop where
  ne : ∀ s F H D, B s F H → H D = none → D ∉ R
  keep : ∀ s F H F' H' D, B s F H → Stp [D] F H F' H' → D ∉ R → B s F' H'
theorem framedB {a : Addr} {rs : List Addr} : Framed (fun z F H => OwnB K F H a rs z) (a :: rs) :=
  ⟨fun s F H D o h => nm_ownB o h, fun s F H F' H' D o t n => t.keepB (fun q hq y => n (by rw [List.mem_singleton.mp y] at hq; exact hq)) o⟩
theorem lcx_core {J : It} {n : Nat} {G : Hp → Prop} {Y : Nat → Hp → V → Hp → Prop} {P : List β × T → Prop} (fr : Framed B R) (w : Walk J n G Y) (hn : n = zs.length) (hz : zs.length ≤ 1000000) (s : Same F H) (b0 : B s0 F H) (hp : Post (mapS f zs s0) P X) (hG : ∀ F' H', Stp R F H F' H' → G H')
    (hs : ∀ (i : Nat) (x : α) (u : V) s F1 H1 H2, zs[i]? = some x → Stp R F H F1 H1 → B s F1 H1 → Y i H1 u H2 → H2 = H1 ∧ LcTurnX g tt te ws σ e2 B R F1 H1 (f s x) X u)
    (hd : ∀ L vs r s' F' H', Stp R F H F' H' → B s' F' H' → Fre H L → Own F' H' L (.lst vs) → RDs F' (r.map e2) vs → P (r, s') → Q (.ref L) H') : LcOwes g tt te ws σ Q J H := by
  intro D nD
  have aD : D ∉ R := fr.ne _ _ _ _ b0 nD
  refine lc_it w (fun i H' => ∃ F' acc rr s1, Stp R F H F' H' ∧ Own F' H' D (.lst acc) ∧ RDs F' (rr.map e2) acc ∧ B s1 F' H' ∧ acc.length ≤ i ∧ Post (mapS f (zs.drop i) s1) (fun r => P (rr ++ r.1, r.2)) X) ?_ ?_ ?_ ?_
  · have t0 : Stp R F H F (upd H D (.lst [])) := Stp.newO (S := R) (o := .lst []) s nD
    have t1 : Stp [D] F H F (upd H D (.lst [])) := Stp.newO (S := [D]) (o := .lst []) s nD
    exact ⟨F, [], [], s0, t0, ⟨s.free nD, upd_same, trivial⟩, RDs.nil, fr.keep _ _ _ _ _ _ b0 t1 aD, Nat.le_refl _, hp⟩
  · rintro i H' _ ⟨F', _, _, _, t, _⟩
    exact hG F' H' t
  · rintro i u H1 H2 hi ⟨F1, acc, rr, s1, t, o, hr, hB, hl, p⟩ y
    have hlt : i < zs.length := hn ▸ hi
    rw [List.drop_eq_getElem_cons hlt] at p
    obtain ⟨rfl, T⟩ := hs i zs[i] u s1 F1 H1 H2 (List.getElem?_eq_getElem hlt) t hB y
    refine T _ _ _ ?_ ?_ p.mapx
    · rintro y b s2 F4 H4 t4 oB hy q
      have o4 := t4.keep aD o
      refine ⟨acc, o4.h, sz_lt (by omega), ?_⟩
      have tp : Stp [D] F4 H4 F4 (upd H4 D (.lst (acc ++ [y]))) := Stp.put t4.inn o4
      refine ⟨F4, acc ++ [y], rr ++ [b], s2, (t.trans t4 (fun q hq => .inl hq)).trans tp (sub_new nD sub_nil), ⟨o4.f, upd_same, trivial⟩, ?_, fr.keep _ _ _ _ _ _ oB tp aD, ?_, ?_⟩
      · rw [List.map_append]
        exact (t4.ups hr).snoc hy
      · rw [List.length_append]; simp; omega
      · exact q.mono fun r z => by rw [List.append_assoc]; exact z
    · rintro s2 F4 H4 t4 oB q
      exact ⟨F4, acc, rr, s2, t.trans t4 (fun q hq => .inl hq), t4.keep aD o, t4.ups hr, oB, by omega, q⟩
  · rintro H' ⟨F', acc, rr, s1, t, o, hr, hB, _, p⟩
    rw [hn, List.drop_length] at p
    have p' : P (rr ++ [], s1) := p
    rw [List.append_nil] at p'
    exact hd D acc rr s1 F' H' t hB nD o hr p'
theorem lcx_R1 {hi : Int} {P : List β × T → Prop} {f : T → Int → Rs (Option β × T)} (fr : Framed B R) (hb : rngOk 0 hi = true) (s : Same F H) (hz : (hi - 0).toNat ≤ 1000000) (b0 : B s0 F H) (hp : Post (mapS f (rngI 0 hi) s0) P X)
    (hs : ∀ (x : Int) s F1 H1, Stp R F H F1 H1 → B s F1 H1 → LcTurnX g tt te ws σ e2 B R F1 H1 (f s x) X (.int x))
    (hd : ∀ L vs r s' F' H', Stp R F H F' H' → B s' F' H' → Fre H L → Own F' H' L (.lst vs) → RDs F' (r.map e2) vs → P (r, s') → Q (.ref L) H') : ∃ j : Int, [V.int hi] = [.int j] ∧ -(2 ^ 62) ≤ j ∧ j < 2 ^ 62 ∧ LcOwes g tt te ws σ Q (Itr 0 j.toNat) H := by
  have hb := rngOk.b hb
  refine ⟨hi, rfl, by omega, by omega, lcx_core (zs := rngI 0 hi) fr (walk_range (lo := 0) (n := hi.toNat)) (by simp [rngI]) (by simpa [rngI] using hz) s b0 hp (fun _ _ _ => trivial) ?_ hd⟩
  rintro i x u s1 F1 H1 H2 hx t hB ⟨rfl, rfl⟩
  have := rngI_at hx
  subst this
  exact ⟨rfl, hs _ s1 F1 _ t hB⟩
end
end DK
set_option maxRecDepth 100000
set_option maxHeartbeats 2000000
/-! DK, thirty-third part: pairs of a word and one of two things. -/
namespace DK
open PySem PySem.Spec PyProof.Rows L2
abbrev eE {α β : Type} (s1 : Str) (e1 : α → Dat) (s2 : Str) (e2 : β → Dat) : α ⊕ β → Dat
  | .inl x => .tup [.str s1, e1 x]
  | .inr y => .tup [.str s2, e2 y]
def eE0 {α β : Type} (s1 s2 : Str) : α ⊕ β → Str
  | .inl _ => s1
  | .inr _ => s2
def eEl {α β : Type} : α ⊕ β → Option α
  | .inl x => some x
  | .inr _ => none
def eEr {α β : Type} : α ⊕ β → Option β
  | .inl _ => none
  | .inr y => some y
theorem eEl_of {α β : Type} {t : α ⊕ β} {x : α} (h : eEl t = some x) : t = .inl x := by
  cases t with
  | inl y => cases h; rfl
  | inr y => cases h
theorem eEr_of {α β : Type} {t : α ⊕ β} {x : β} (h : eEr t = some x) : t = .inr x := by
  cases t with
  | inl y => cases h
  | inr y => cases h; rfl
theorem rd_eEl {α β : Type} {s1 s2 : Str} {e1 : α → Dat} {e2 : β → Dat} {F : Hp} {t : α ⊕ β} {v : V} {x : α} (h : eEl t = some x) (r : RD F (eE s1 e1 s2 e2 t) v) : RD F (eP Dat.str e1 (s1, x)) v := by
  cases eEl_of h; exact r
theorem rd_eEr {α β : Type} {s1 s2 : Str} {e1 : α → Dat} {e2 : β → Dat} {F : Hp} {t : α ⊕ β} {v : V} {y : β} (h : eEr t = some y) (r : RD F (eE s1 e1 s2 e2 t) v) : RD F (eP Dat.str e2 (s2, y)) v := by
  cases eEr_of h; exact r
def wordEq (a b c d : Str) : Bool := PyData.eqv (.tuple [.str a, .str b]) (.tuple [.str c, .str d])
section
variable {α β : Type} {K : PySem.W.Frag} {F H : Hp} {Q : VK} {s1 s2 : Str} {e1 : α → Dat} {e2 : β → Dat} {t : α ⊕ β} {u v : V} {a b c d : Str}
theorem sm_ixE0 (s : Same F H) (h : RD F (eE s1 e1 s2 e2 t) v) (k : Q (.str (eE0 s1 s2 t)) H) : rIxU K v (.int 0) H Q := by
  cases t with
  | inl x => exact st_ixT (d := .str s1) s h rfl fun u r => by rw [show u = V.str s1 from r]; exact k
  | inr x => exact st_ixT (d := .str s2) s h rfl fun u r => by rw [show u = V.str s2 from r]; exact k
theorem word_dp (s : Same F H) (h : RD F (.tup [.str a, .str b]) u) : Dp K H u (.tuple [.str a, .str b]) := by
  have := RD.dp (K := K) s h (by simp only [dep, deps]; omega)
  simpa only [toPy, toPys] using this
theorem word_sh (h1 : PyData.strOk a = true) (h2 : PyData.strOk b = true) : SeqAt.shaped (.tuple [.str a, .str b]) = true := by
  unfold SeqAt.shaped
  simp [PyData.canLay0, PyData.canLayAll0, h1, h2, PyData.depth, PyData.depthAll]
theorem sm_neW (s : Same F H) (h1 : RD F (.tup [.str a, .str b]) u) (h2 : RD F (.tup [.str c, .str d]) v) (p1 : PyData.strOk a = true) (p2 : PyData.strOk b = true) (p3 : PyData.strOk c = true) (p4 : PyData.strOk d = true) (k : Q (.bl (!wordEq a b c d)) H) : rNeU K u v H Q :=
  .inr ⟨_, _, word_dp s h1, word_dp s h2, word_sh p1 p2, word_sh p3 p4, k⟩
theorem wordEq_iff : wordEq a b c d = true ↔ a = c ∧ b = d := by
  unfold wordEq
  simp only [PyData.eqv, PyData.eqvAll, Bool.and_eq_true, Bool.and_true, beq_iff_eq, decide_eq_true_eq]
example : PyData.strOk "no" = true := by decide +kernel
end
end DK
set_option maxRecDepth 100000
set_option maxHeartbeats 2000000
/-! DK, thirty-fourth part: loops from a range's end; xs[i] += e; == of lists of the same instances. -/
namespace L2
open PySem PySem.Spec PyProof.Rows
theorem get_list {X : Cx} : PGet X (rIxL X.K) := by
  intro pins s σ H x y v u Q I rx ry h
  obtain ⟨p, xs, i, z, rfl, rfl, hq, he, q⟩ := h
  cases rx
  obtain ⟨t, rfl⟩ := ry
  obtain ⟨its, r, pl, hz⟩ := I.list hq
  obtain ⟨j, h1, h2, h3, h4, h5⟩ := atI_get he
  obtain ⟨w, ew, rw'⟩ := r.get h2
  have hl := r.length
  have hn := line63
  have fin : EP X pins σ Q w s := ⟨z, H, I, rw', q⟩
  by_cases h0 : 0 ≤ i
  · have hj : i.toNat = j := by
      rw [seqIndex_of h0 h5] at h1
      exact Option.some.inj h1
    exact wpAny_getItem_list pl.isList h0 (by omega) (by rw [hj]; simpa using ew) fin
  · have hj : (i + (its.toArray.size : Int)).toNat = j := by
      rw [seqIndex_neg (by omega) h4] at h1
      rw [List.size_toArray, ← hl]
      exact Option.some.inj h1
    exact wpAny_getItem_list_neg pl.isList (by omega) (by rw [List.size_toArray] <;> omega) (by omega) (by rw [hj]; simpa using ew) fin
end L2
namespace DK
open PySem PySem.Spec PyProof.Rows L2
section
variable {α β : Type} {K : PySem.W.Frag} {F H : Hp} {σ : Sg} {Q : VK} {D : Ends} {u v : V} {L : Addr} {vs : List V} {e : α → Dat} {zs : List α}
theorem st_augS {to ti te : TE} {tget : V → V → Hp → VK → Prop} {tip : TIp} {tset : TSet} (k : to σ H fun o H1 => ti σ H1 fun i H2 => tget o i H2 fun x H3 => te σ H3 fun y H4 => tip x y H4 fun z H5 => tset o i z H5 fun H6 => D.nx σ H6) : tAugS to ti te tget tip tset D σ H := k
theorem ints_of {ns : List Int} (hd : RDs F (ns.map Dat.int) vs) : vs = ns.map V.int := by
  induction ns generalizing vs with
  | nil => exact hd
  | cons a l ih =>
    obtain ⟨v, r, rfl, h1, h2⟩ := hd
    rw [show v = V.int a from h1, ih h2]; rfl
theorem sm_ixLO {i : Int} {ns : List Int} (o : Own F H L (.lst vs)) (hd : RDs F (ns.map Dat.int) vs) {n : Int} (hi : atI ns i = some n) (k : Q (.int n) H) : rIxL K (.ref L) (.int i) H Q := by
  cases ints_of hd
  refine ⟨L, _, i, .int n, rfl, rfl, SqL.of o.h, ?_, k⟩
  unfold atI at *
  rw [List.length_map]
  cases hn : ixN ns.length i with
  | none => rw [hn] at hi; cases hi
  | some j =>
    rw [hn] at hi
    show (ns.map V.int)[j]? = _
    rw [List.getElem?_map, show ns[j]? = some n from hi]; rfl
/-! a range from its end -/
def revI (n : Int) : List Int := (rngI 0 n).reverse
theorem revI_at {n : Int} {i : Nat} {x : Int} (h : (revI n)[i]? = some x) : x = 0 + ((((n - 0).toNat : Nat) : Int)) - 1 + (i : Nat) * (-1) := by
  unfold revI at h
  have hl : i < (rngI 0 n).length := by
    have := (List.getElem?_eq_some_iff.mp h).1
    rw [List.length_reverse] at this
    exact this
  rw [List.getElem?_reverse hl] at h
  have e := rngI_at h
  have l : (rngI 0 n).length = (n - 0).toNat := by simp [rngI]
  rw [l] at e hl
  rw [e]
  omega
theorem st_rev1 {ta : TE} {R : It → Hp → Prop} (k : ta σ H fun x H1 => ∃ n, x = .int n ∧ (-(2 ^ 62) ≤ (0 : Int) ∧ (0 : Int) < 2 ^ 62 ∧ -(2 ^ 62) ≤ n ∧ n < 2 ^ 62 ∧ R (Itc (0 + (((n - 0).toNat : Nat) : Int) - 1) (-1) (n - 0).toNat) H1)) : iRevR (tRg1 ta) σ H R := k
end
section
variable {α S R : Type} {K : PySem.W.Frag} {F H : Hp} {σ : Sg} {Q : VK} {D : Ends} {g : TG} {tl : TS} {P : Ctl S R → Prop} {X : Xc → Option Int → Prop} {s0 : S}
theorem fr_V1 {hi : Int} {f : S → Int → Rs (Ctl S R)} (hb : rngOk 0 hi = true) (hp : Post (forR f (revI hi) s0) P X) (I : S → Sg → Hp → Prop) (h0 : I s0 σ H)
    (hs : ∀ (x : Int) (rest : List Int) (s : S) σ' H1, I s σ' H1 → Post (f s x) (Turn f P rest X) X → g (.int x) σ' H1 fun σ2 H3 => tl { D with nx := NxF I f P rest X, ct := NxF I f P rest X, bk := D.nx } σ2 H3)
    (hd : ∀ s σ H, I s σ H → P (.nx s) → D.nx σ H) : -(2 ^ 62) ≤ (0 : Int) ∧ (0 : Int) < 2 ^ 62 ∧ -(2 ^ 62) ≤ hi ∧ hi < 2 ^ 62 ∧ LoopOwes g tl D σ (Itc (0 + (((hi - 0).toNat : Nat) : Int) - 1) (-1) (hi - 0).toNat) H := by
  have hb := rngOk.b hb
  refine ⟨by decide, by decide, by omega, by omega, ?_⟩
  refine fr_core (walk_rangeC (lo := 0 + (((hi - 0).toNat : Nat) : Int) - 1) (c := -1) (n := (hi - 0).toNat)) (by simp [revI, rngI]) I hp h0 (fun _ _ _ _ => trivial) ?_ hd
  rintro i x rest s u σ' H1 H2 hx q ⟨rfl, rfl⟩ p
  have := revI_at hx
  subst this
  exact hs _ rest s σ' _ q p
end
/-! lists of the same instances -/
def Alike (F : Hp) (u v : V) : Prop := ∃ a b vs, u = .ref a ∧ v = .ref b ∧ F a = some (.lst vs) ∧ F b = some (.lst vs) ∧ ∀ x ∈ vs, ∃ c, x = .ref c
def RefE {α : Type} (e : α → Dat) : Prop := ∀ x F v, RD F (e x) v → ∃ c, v = .ref c
section
variable {α : Type} {K : PySem.W.Frag} {F H : Hp} {σ : Sg} {Q : VK} {u v : V} {e : α → Dat} {zs : List α}
theorem Alike.up {Ls : List Addr} {F' H' : Hp} (t : Stp Ls F H F' H') (h : Alike F u v) : Alike F' u v := by
  obtain ⟨a, b, vs, h1, h2, h3, h4, h5⟩ := h
  exact ⟨a, b, vs, h1, h2, t.ex _ _ h3, t.ex _ _ h4, h5⟩
theorem refs_of {vs : List V} (r : RefE e) (h : RDs F (zs.map e) vs) : ∀ x ∈ vs, ∃ c, x = .ref c := by
  induction zs generalizing vs with
  | nil => intro x hx; rw [show vs = [] from h] at hx; cases hx
  | cons z l ih =>
    obtain ⟨v, w, rfl, h1, h2⟩ := h
    intro x hx
    rcases List.mem_cons.mp hx with rfl | hx
    · exact r z F _ h1
    · exact ih h2 x hx
/-- a copy of a list of instances -/
theorem sm_cpA (r : RefE e) (s : Same F H) (h : RD F (eL e zs) u) (k : ∀ v F' H', Stp [] F H F' H' → RD F' (eL e zs) v → Alike F' u v → Q v H') : rListU K [u] H Q := by
  obtain ⟨a, vs, rfl, h1, h2⟩ := id h
  refine ⟨a, vs, rfl, .inl (same_l s h1), fun p n => ?_⟩
  have t : Stp [] F H F (upd H p (.lst vs)) := Stp.newO s n
  have o : Own F (upd H p (.lst vs)) p (.lst vs) := ⟨s.free n, upd_same, trivial⟩
  have t2 := Stp.frz t.inn o
  exact k _ _ _ (t.trans t2 (sub_new n sub_nil)) ⟨p, vs, rfl, upd_same, h2.up t2.ex⟩ ⟨a, p, vs, rfl, rfl, t2.ex _ _ h1, upd_same, refs_of r h2⟩
/-- == that may be of lists of instances -/
def rEqW (K : PySem.W.Frag) : R2 := fun x y H Q => rEqU K x y H Q ∨ rEqV K x y H Q
theorem op_eqW {X : Cx} (hu : X.A.units + 64 < cLine) : OpR X (compareOp .Eq) (rEqW X.K) := OpR.or (op_eqU hu) (op_eqV hu)
theorem paired_refs {E : V → V → Prop} (hE : ∀ c, E (.ref c) (.ref c)) : ∀ vs : List V, (∀ x ∈ vs, ∃ c, x = .ref c) → Paired E vs vs
  | [], _ => .nil
  | v :: vs, h => by
    obtain ⟨c, rfl⟩ := h v List.mem_cons_self
    exact .cons (hE c) (paired_refs hE vs fun x hx => h x (List.mem_cons_of_mem _ hx))
theorem sm_eqA (s : Same F H) (h : Alike F u v) (k : Q (.bl true) H) : rEqW K u v H Q := by
  obtain ⟨a, b, vs, rfl, rfl, h3, h4, h5⟩ := h
  exact .inr ⟨1, by decide, .inl ⟨a, b, vs, vs, rfl, rfl, same_l s h3, same_l s h4, paired_refs (fun c => .inr (.inl ⟨c, rfl, rfl⟩)) vs h5⟩, k⟩
end
end DK
set_option maxRecDepth 100000
set_option maxHeartbeats 2000000
/-! DK, thirty-fifth part: texts; an exception made with a number. -/
namespace DK
open PySem PySem.Spec PyProof.Rows L2
/-! ### texts -/
abbrev strI (i : Int) : Str := toString i
abbrev rSplitT : V → List V → Hp → VK → Prop := fun x xs H Q => ∃ a b, x = .str a ∧ xs = [.str b] ∧ (b.length == 0) = false ∧ a.length + 2 ≤ sizeLine ∧ rNewStrs (Txt.split a b) H Q
abbrev rJoinT (K : PySem.W.Frag) : V → List V → Hp → VK → Prop := fun x xs H Q => ∃ a p, ∃ ys : List Str, x = .str a ∧ xs = [.ref p] ∧ (SqL K H p (ys.map V.str) ∨ SqT K H p (ys.map V.str)) ∧
    (ys.map (·.length)).sum + ys.length * a.length ≤ 16777216 ∧ Q (.str (Txt.join a ys)) H
abbrev rStripT : V → List V → Hp → VK → Prop := fun x xs H Q => ∃ a b, x = .str a ∧ xs = [.str b] ∧ a.length ≤ sizeLine ∧ Q (.str (Txt.stripChars a b)) H
abbrev rStartsT : V → List V → Hp → VK → Prop := fun x xs H Q => ∃ a b, x = .str a ∧ xs = [.str b] ∧ Q (.bl (Txt.startswith a b)) H
def rIntU : List V → Hp → VK → Prop := fun xs H Q => rInt1 xs H Q ∨ ∃ a n, xs = [.str a] ∧ PySem.intText? a = some n ∧ a.length ≤ 640 ∧ Q (.int n) H
theorem call_intU {X : Cx} : CallR X (.type "int") rIntU := CallR.or call_int1 call_int_str
def joinOk (a : Str) (ys : List Str) : Bool := decide ((ys.map (·.length)).sum + ys.length * a.length ≤ 16777216)
section
variable {K : PySem.W.Frag} {F H : Hp} {σ : Sg} {Q : VK} {D : Ends} {u v : V} {L : Addr} {vs : List V} {a b : Str} {ys : List Str} {i n : Int}
theorem st_m1 {r : V → List V → Hp → VK → Prop} {to te : TE} (k : to σ H fun x H1 => (∃ a, x = .str a) ∧ te σ H1 fun y H2 => r x [y] H2 Q) : tM1 r to te σ H Q := k
theorem sm_m1 {P : Prop} (k : P) : (∃ a', V.str a = .str a') ∧ P := ⟨⟨a, rfl⟩, k⟩
theorem sm_split (s : Same F H) (hb : (b.length == 0) = false) (g : a.length ≤ 1000000) (k : KOwn F H ((Txt.split a b).map Dat.str) Q) : rSplitT (.str a) [.str b] H Q := by
  refine ⟨a, b, rfl, rfl, hb, by rw [sizeLine_eq]; omega, fun p n => nw_ownK s ?_ k p n⟩
  generalize Txt.split a b = l
  clear k
  induction l with
  | nil => exact rfl
  | cons y l ih => exact ⟨_, _, rfl, rfl, ih⟩
theorem strs_of {ys : List Str} {vs : List V} (h : RDs F (ys.map Dat.str) vs) : vs = ys.map V.str := by
  induction ys generalizing vs with
  | nil => exact h
  | cons y ys ih =>
    obtain ⟨v, r, rfl, h1, h2⟩ := h
    rw [show v = V.str y from h1, ih h2]; rfl
theorem sm_joinL (s : Same F H) (h : RD F (eL Dat.str ys) u) (g : joinOk a ys = true) (k : Q (.str (Txt.join a ys)) H) : rJoinT K (.str a) [u] H Q := by
  obtain ⟨p, vs, rfl, h1, h2⟩ := h
  cases strs_of h2
  exact ⟨a, p, ys, rfl, rfl, .inl (same_l s h1), of_decide_eq_true g, k⟩
theorem sm_stripT (g : a.length ≤ 1000000) (k : Q (.str (Txt.stripChars a b)) H) : rStripT (.str a) [.str b] H Q := ⟨a, b, rfl, rfl, by rw [sizeLine_eq]; omega, k⟩
theorem sm_starts (k : Q (.bl (Txt.startswith a b)) H) : rStartsT (.str a) [.str b] H Q := ⟨a, b, rfl, rfl, k⟩
theorem sm_intU (k : rInt1 [u] H Q) : rIntU [u] H Q := .inl k
theorem sm_intS (h : PySem.intText? a = some n) (g : a.length ≤ 640) (k : Q (.int n) H) : rIntU [.str a] H Q := .inr ⟨a, n, rfl, h, g, k⟩
theorem sm_strI (g : i.natAbs.log2 < 1920) (k : Q (.str (strI i)) H) : rStrInt [.int i] H Q := ⟨i, rfl, g, k⟩
theorem sm_lenT (g : a.length ≤ 1000000) (k : Q (.int (a.length : Nat)) H) : rLenU K [.str a] H Q := ⟨.str a, a.length, rfl, ⟨by rw [sizeLine_eq]; omega, rfl⟩, k⟩
end
/-! ### a new list of ours, or None -/
def OptO {α : Type} (F' H' H0 : Hp) (e : α → Dat) : Option (List α) → V → Prop
  | none, u => u = .non
  | some zs, u => ∃ L vs, u = .ref L ∧ Fre H0 L ∧ Own F' H' L (.lst vs) ∧ RDs F' (zs.map e) vs
section
variable {α : Type} {F F0 H H0 : Hp} {S : List Addr} {e : α → Dat} {r : Option (List α)} {zs : List α} {u : V} {Q : VK}
theorem optO_fz (t : Stp S F0 H0 F H) (h : OptO F H H0 e r u) : ∃ F2, Stp S F0 H0 F2 H ∧ RD F2 (eO (eL e) r) u := by
  cases r with
  | none => exact ⟨F, t, h⟩
  | some zs =>
    obtain ⟨L, vs, rfl, n, o, q⟩ := h
    obtain ⟨F2, t2, q2⟩ := own_fz t.inn o q
    exact ⟨F2, t.trans t2 (sub_new n sub_nil), q2⟩
theorem sm_isNO {G : Hp} (h : OptO F H H0 e r u) (k : Q (.bl r.isNone) G) : rIsN u .non G Q := by
  cases r with
  | none => rw [show u = V.non from h]; exact st_isN1 k
  | some zs =>
    obtain ⟨L, vs, rfl, _⟩ := h
    exact st_isN0 (by intro z; cases z) k
theorem optO_some (h : OptO F H H0 e r u) (q : r = some zs) : ∃ L vs, u = .ref L ∧ Fre H0 L ∧ Own F H L (.lst vs) ∧ RDs F (zs.map e) vs := by
  subst q; exact h
end
/-! ### an exception made with a number -/
section
variable {K : PySem.W.Frag}
theorem oex_obj {C : Addr} (q : oexIn K C = true) : ∃ nm q N bs bm sn sub ab col dd k0 k1 k2 k3 k5, K.lookup C = some (excClassObj nm q C N bs bm true sn sub ab col dd k0 k1 k2 k3 k5 "ValueError.__new__") ∧ PySem.HandSPX.refsVE bm = true := by
  unfold oexIn at q
  split at q
  · rename_i dd cd sl ho
    split at q
    · rename_i C' bm k0 k1 k2 k3 n k5 hm hs
      simp only [Bool.and_eq_true, beq_iff_eq, Bool.not_eq_true'] at q
      obtain ⟨rfl, rfl, hdel, hdd, ht⟩ := q
      obtain ⟨nm, bs, mro, ns, qn, hd, sn, sub, ab, col, del⟩ := cd
      dsimp only at hm hdel hdd
      subst hm hdel hdd
      have hsl : sl = #[k0, k1, k2, k3, some (.builtin "ValueError.__new__"), k5] := by
        obtain ⟨l⟩ := sl
        simp only at hs
        rw [hs]
      subst hsl
      exact ⟨nm, qn, ns, bs, bm, sn, sub, ab, col, dd, k0, k1, k2, k3, k5, ho, ht⟩
    · cases q
  · cases q
/-- an exception class of ours with an __init__ -/
structure OexI (K : PySem.W.Frag) (C f : Addr) : Prop where
  c : OexC K C
  i : PySem.W.findIn K (.ref C) "__init__" = some (some (.ref f))
  t : PySem.W.typeIn K (.ref f) = some (.type "function")
  l : PySem.W.findIn K (.ref C) "line" = some none
variable {fa : List He.Fa} {fb : List Fb} {fn : List He.DefD} {mg : Str → Option Value}
theorem FactsB.oex (T : FactsB fa fb fn K mg) (i : Nat) {x : Str} (h : fb[i]? = some (.oex x) := by rfl) : OexI K (He.ga K x) (He.ma K (He.ga K x) "__init__") := by
  obtain ⟨h1, h2⟩ := He.ba (T.more i _ h)
  obtain ⟨h2, h3⟩ := He.ba h2
  obtain ⟨h3, h4⟩ := He.ba h3
  obtain ⟨h4, h5⟩ := He.ba h4
  obtain ⟨h5, h6⟩ := He.ba h5
  obtain ⟨h6, h7⟩ := He.ba h6
  obtain ⟨h7, h8⟩ := He.ba h7
  exact ⟨⟨oex_obj h1, of_decide_eq_true h2, of_decide_eq_true h3, of_decide_eq_true h4, h5⟩, of_decide_eq_true h6, of_decide_eq_true h7, of_decide_eq_true h8⟩
def OexOk (P : Program) (w : World) (K : PySem.W.Frag) (mg : Str → Option Value) (base : Heap) (x : Str) (k : Nat) (ps : List Str) (sp : Sp) : Prop :=
  ∃ (f : Addr) (fd : FuncData), OexI K (He.ga K x) f ∧ FnOk P w K mg base (L2N.CX P w) k f fd ps sp ∧ mg x = some (.ref (He.ga K x)) ∧ Binds K fd ps []
theorem FactsB.moe (T : FactsB fa fb fn K mg) {P : Program} {w : World} {base : Heap} {k : Nat} {N ps : List Str} {sp : Sp} (i j l : Nat) {d : He.DefD} {x : Str} (hi : fn[i]? = some d) (hd : d.at_ = (x, some ("__init__" : Str))) (hdf : d.dfl = []) (hkw : d.kwd = []) (hj : fa[j]? = some (.glo x)) (hl : fb[l]? = some (.oex x))
    (S : FnScope N ps d.scope) (len : ∀ vs H Q E, sp vs H Q E → vs.length = ps.length)
    (hb : ∀ (dV kV doc pm : Value) (an : Option Addr) (cdv ct : Value) (us : List Value), us.length = ps.length → bindArgs (PySem.W.fnOf d.name d.qual d.params d.body d.scope .none kV doc pm an cdv ct) ⟨us, []⟩ = pure (ps.zip us))
    (hbody : ∀ (cdv : Value) (A : Around) (outer : List Env) (s : Shared) (H : Hp) (vs : List V) (Q : VK) (E : XK), Room k (A.deeper (envOfC d.qual d.scope s.heap.objs.size (He.fAd K d.at_) cdv)) → sp vs H Q E →
      ∃ t, PSs (cxOf (L2N.CX P w) P w K mg base N d.qual d.scope (He.fAd K d.at_) cdv A outer s H E) d.body t ∧ t { nx := fun _ H' => Q .non H', rt := Q } (start N vs) H) :
    OexOk P w K mg base x (k + 1) ps sp := by
  obtain ⟨fd, F⟩ := T.says.def_ i hi
  have F2 : FunD K d.name d.qual d.params d.body d.scope [] [] (He.fAd K d.at_) fd := by
    have z1 : d.dvs K = [] := by unfold He.DefD.dvs; rw [hdf]; rfl
    have z2 : d.kws K = [] := by unfold He.DefD.kws; rw [hkw]; rfl
    rw [z1, z2] at F
    exact F
  have M := T.oex l hl
  have e1 : He.fAd K d.at_ = He.ma K (He.ga K x) "__init__" := by rw [hd]; rfl
  refine ⟨He.fAd K d.at_, fd, by rw [e1]; exact M, FunD.ok F S len hbody, T.glo j hj, F2.bindsN fun kV doc pm an cdv ct us hl => hb .none kV doc pm an cdv ct us hl⟩
end
section
variable {X : Cx} {k : Nat} {ps : List Str} {sp : Sp} {x : Str} {p pos pos2 : Pos} {e : Expr} {es : List Expr} {ta : TA}
/-- made with a number, calm -/
theorem pmk_oexN {f : Addr} {fd : FuncData} (T : OexI X.K (He.ga X.K x) f) (F1 : FnOk X.prog X.w X.K X.mg X.base (L2N.CX X.prog X.w) k f fd ps sp) (hr : Room (k + 1) X.A) (hb : Binds X.K fd ps []) (hx : Passes (L2N.CX X.prog X.w) X (fun _ _ _ => False)) (hg : Gl X x) (hm : X.mg x = some (.ref (He.ga X.K x))) (ha : PA X (e :: es) ta)
    (hdb : (x == ("__debug__" : Str)) = false := by decide) (he : starEach (e :: es) X.env = (false, eval e X.env) :: starEach es X.env := by rfl) (hpl : (backTo pos (starEach es X.env)).any (·.1) = false := by rfl) :
    L2N.PMk X (.Call (.Name x p) (e :: es) [] pos) (tMkO (He.ga X.K x) sp [] ta) := by
  intro pins s σ H Q I h
  obtain ⟨nm, q, N, bs, bm, sn, sub, ab, col, dd, k0, k1, k2, k3, k5, hC, hbm⟩ := T.c.cls
  refine wpAny_Call_Name_kw (ld_glob I hg hm ?_ hdb)
  refine PySem.W.callWith_K (h₀ := X.base) I.ok.mod.kin T.c.kC (thn (ha.run pos pins s σ H _ I h) fun us s1 ⟨vs, H1, I1, r1, hz, q1⟩ => ⟨I1.kIn, ?_⟩) he hpl
  show wpAny _ _ (call (.ref (He.ga X.K x)) us) _ _ _
  obtain ⟨hp, g, dr, tk, os⟩ := s1
  have hsz : hp.objs.size ≤ hp.objs.size + 1 := Nat.le_succ _
  have hq := q1 (hp.objs.size + 1) (I1.hok.fresh hsz)
  rw [List.append_nil] at hq
  have kk : ∀ b o, hp.get? b = some o → ((hp.push (PySem.W.kdv_tup us)).push (PySem.HandSPX.excO (He.ga X.K x) hp.objs.size)).get? b = some o := fun b o e => Heap.get?_push_of_some _ (Heap.get?_push_of_some _ e)
  have hget : ((hp.push (PySem.W.kdv_tup us)).push (PySem.HandSPX.excO (He.ga X.K x) hp.objs.size)).get? (hp.objs.size + 1) = some (PySem.HandSPX.excO (He.ga X.K x) hp.objs.size) := by heap_get
  have I2 : Inv X pins σ (upd H1 (hp.objs.size + 1) (exo (hp.objs.size + 1) (He.ga X.K x) none)) ⟨(hp.push (PySem.W.kdv_tup us)).push (PySem.HandSPX.excO (He.ga X.K x) hp.objs.size), g, dr, tk, os⟩ :=
    I1.laid (t' := tk) (a := hp.objs.size + 1) (o := exo (hp.objs.size + 1) (He.ga X.K x) none) (h' := (hp.push (PySem.W.kdv_tup us)).push (PySem.HandSPX.excO (He.ga X.K x) hp.objs.size)) kk hsz (exo_ok hget)
  have r2 : Vals (V.ref (hp.objs.size + 1) :: vs) (Value.ref (hp.objs.size + 1) :: us) := .cons rfl r1
  have hl : (Value.ref (hp.objs.size + 1) :: us ++ []).length = ps.length := by
    have e := r2.length
    rw [F1.len _ _ _ _ hq] at e
    rw [List.append_nil]
    exact e.symm
  have hus : us.length ≤ sizeLine := by
    rw [← Paired.length r1, sizeLine_eq]
    omega
  have b2 := hb _ (Value.ref (hp.objs.size + 1) :: us) I2.kIn hl
  rw [List.append_nil] at b2
  refine wpAny_call (PySem.HandSPX.call_own PySem.F.excBase_ValueError (fun Y => PySem.HandSPX.refsVE_contains Y bm hbm) (I1.kIn _ _ hC) (PySem.W.looks_findIn I1.kIn T.i) (fun self => PySem.W.bind_fn I1.kIn self T.t) hus
    (codeAny_mono (F1.run _ X.stack _ _ ⟨Value.ref (hp.objs.size + 1) :: us, []⟩ (Value.ref (hp.objs.size + 1) :: us) _ _ (fun _ _ _ => False) (hr.make _ us []) (I2.env0.make _ us []) b2 r2 hq) fun r s' hq' => ?_))
  cases r with
  | error er => exact hx pins σ _ _ er s' I2 hq'
  | ok fl =>
    cases fl with
    | ret u =>
      obtain ⟨v, H2, os2, bare2, un2, hok2, rv, ev, d, fs, ea, ed, hd1, q2⟩ := hq'
      subst ev
      obtain ⟨h2, g2, d2, t2, os'⟩ := s'
      obtain ⟨t0, G, J, kG, ge, hoe, na⟩ := mk_end0 (d2 := d2) (t2 := t2) I1 hsz kk un2 hok2 os2 bare2 ea ed hd1
      refine ⟨rv, hp.objs.size + 1, _, _, ⟨G, g2, d2, t2, os'⟩, _, .ref (He.ga X.K x), some d, rfl, J, kG, ge, hoe, ⟨rfl, rfl, fun vs hv => ?_⟩, rfl, rfl, na, rfl, bare2, raises_own T.c.exC T.c.tyC, q2⟩
      cases hv
      rfl
    | next => exact False.elim hq'
    | brk => exact False.elim hq'
    | cont => exact False.elim hq'
/-- raise X(n) -/
def tRaiseI (C : Addr) (sp : Sp) (W : WX) (ta : TA) : TS := fun _ σ H => tMkO C sp [] ta σ H fun cls d H' => W cls d σ H'
theorem ps_raiseI {W : WX} (c : OexOk X.prog X.w X.K X.mg X.base x k ps sp) (hr : Room (k + 1) X.A) (hc : X.calm = true) (tk : L2N.Takes X W) (hg : Gl X x) (ha : PA X (e :: es) ta)
    (hdb : (x == ("__debug__" : Str)) = false := by decide) (he : starEach (e :: es) X.env = (false, eval e X.env) :: starEach es X.env := by rfl) (hpl : (backTo pos (starEach es X.env)).any (·.1) = false := by rfl) :
    PS X (.Raise (some (.Call (.Name x p) (e :: es) [] pos)) none pos2) (tRaiseI (He.ga X.K x) sp W ta) := by
  obtain ⟨f, fd, T, F, hm, hb⟩ := c
  exact L2N.ps_raise hc tk (pmk_oexN T F hr hb (L2N.passes_call tk fun _ _ _ _ h => h.elim) hg hm ha hdb he hpl)
end
/-- what the __init__ of an exception with a line keeps -/
def spLine (C : Addr) : Sp := fun vs H Q _ => ∃ (a : Addr) (n : Int), vs = [.ref a, .int n] ∧ H a = some (exo a C none) ∧ ∀ dx, H dx = none → dx ≠ a → Q .non (upd (upd H dx (exd dx [("line", .int n)])) a (exo a C (some dx)))
section
variable {K : PySem.W.Frag} {F H : Hp} {σ : Sg} {C : Addr} {n : Int} {W : WX} {D : Ends}
theorem st_raiseI {ta : TA} {sp : Sp} (k : ta σ H fun vs H1 => vs.length ≤ 1000 ∧ ∀ a, H1 a = none → sp (.ref a :: (vs ++ [])) (upd H1 a (exo a C none))
  (fun v H2 => v = .non ∧ ∃ (d : Addr) (fs : List (Str × V)), H2 a = some (exo a C (some d)) ∧ H2 d = some (exd d fs) ∧ H1 d = none ∧ W (.ref C) (some d) σ (upd (del H2 a) d (.xd fs))) (fun _ _ _ => False)) : tRaiseI C sp W ta D σ H := k
theorem sm_raiseI {sp : Sp} (hsp : ∀ vs H Q E, spLine C vs H Q E → sp vs H Q E) (s : Same F H) (k : ∀ F' H' dx, Stp [] F H F' H' → ExD F' (some n) dx → W (.ref C) dx σ H') : ([V.int n] : List V).length ≤ 1000 ∧ ∀ a, H a = none → sp (.ref a :: ([V.int n] ++ [])) (upd H a (exo a C none))
  (fun v H2 => v = .non ∧ ∃ (d : Addr) (fs : List (Str × V)), H2 a = some (exo a C (some d)) ∧ H2 d = some (exd d fs) ∧ H d = none ∧ W (.ref C) (some d) σ (upd (del H2 a) d (.xd fs))) (fun _ _ _ => False) := by
  refine ⟨by simp, fun a na => hsp _ _ _ _ ⟨a, n, rfl, upd_same, fun dx nd ne => ⟨rfl, dx, [("line", .int n)], upd_same, by rw [upd_ne ne]; exact upd_same, ?_, ?_⟩⟩⟩
  · rw [upd_ne ne] at nd; exact nd
  · rw [upd_ne ne] at nd
    have e : upd (del (upd (upd (upd H a (exo a C none)) dx (exd dx [("line", .int n)])) a (exo a C (some dx))) a) dx (.xd [("line", .int n)]) = upd H dx (.xd [("line", .int n)]) := by
      funext b
      by_cases h1 : b = dx
      · subst h1; rw [upd_same, upd_same]
      · rw [upd_ne h1, upd_ne h1]
        by_cases h2 : b = a
        · subst h2; rw [del_same, na]
        · rw [del_ne h2, upd_ne h2, upd_ne h1, upd_ne h2]
    rw [e]
    exact k _ _ _ (Stp.new s nd) ⟨dx, rfl, upd_same⟩
/-- the walk of such an __init__ -/
theorem st_initI (T : OexI K C f) {a : Addr} (ha : H a = some (exo a C none)) (k : ∀ dx, H dx = none → dx ≠ a → D.nx σ (upd (upd H dx (exd dx [("line", .int n)])) a (exo a C (some dx)))) (h0 : σ[0]? = some (some (.ref a)) := by rfl) (h1 : σ[1]? = some (some (.int n)) := by rfl) : tOst K "line" (tVar 0) (tVar 1) D σ H :=
  ⟨_, h1, ⟨_, h0, a, C, rfl, T.c, T.l, .inl ⟨ha, k⟩⟩⟩
end
/-! rows of ours that grow within a loop and change within another -/
theorem FreN.no {H : Hp} : FreN H [] := fun q h => by cases h
theorem FreN.snocR {H : Hp} {rs : List Addr} {r : Addr} (h : FreN H rs) (f : Fre H r) : FreN H (rs ++ [r]) := fun q hq => by
  rcases List.mem_append.mp hq with z | z
  · exact h q z
  · rw [List.mem_singleton.mp z]; exact f
end DK
set_option maxRecDepth 100000
set_option maxHeartbeats 2000000
/-! DK, thirty-sixth part: a dict of cells: its pairs, pop, list; list.index; lists of ours made by +. -/
namespace L2
open PySem PySem.Spec PyProof.Rows
/-- the pairs of a held dict of cells: each a new pair of the key's own tuple and the value -/
def Itit (d : Addr) (o : Obj) (kvs : List (List Key × V)) : It where
  go := fun i H => H d = some (.frz o (.dT kvs)) ∧ i < kvs.length
  yld := fun i H x H' => ∃ T q k v, kvs[i]? = some (k, v) ∧ x = .ref T ∧ H q = some (.tup (k.map kV)) ∧ H T = none ∧ H' = upd H T (.tup [.ref q, v])
  stop := fun i H => H d = some (.frz o (.dT kvs)) ∧ kvs.length ≤ i
section
variable {X : Cx} {pins : List (Addr × Obj)} {σ : St} {H : Hp} {s : Shared} {d : Addr} {o : Obj} {kvs : List (List Key × V)}
theorem Inv.heldT (I : Inv X pins σ H s) (h : H d = some (.frz o (.dT kvs))) :
    (d == sysModules) = false ∧ ∃ (es : Array DictEntry) (ep : Nat), DT.Raw s.heap d es ep ∧ o.data = .dict es ep ∧ o.ExactDict ∧ es.size = kvs.length ∧
      ∀ (i : Nat) (k : List Key) (v : V), kvs[i]? = some (k, v) → ∃ (en : DictEntry) (q : Addr), es[i]? = some en ∧ en.key = .ref q ∧ H q = some (.tup (k.map kV)) ∧ RelV v en.val := by
  obtain ⟨gd, _, nm, xs, pr, _, es, ep, ho, ex, dt, ee, _⟩ := I.hok d _ h
  rw [gd] at ho
  cases ho
  refine ⟨nm, es, ep, ⟨o, gd, ex, dt⟩, dt, ex, ?_, fun i k v e => ?_⟩
  · rw [Paired.length pr]; exact size_of_entries ee
  · obtain ⟨b, hb, r1, r2, r3⟩ := paired_get pr e
    have en := entry_at ee i
    rw [hb] at en
    exact ⟨_, b.2.1, en, rfl, r2, r3⟩
theorem turn_itemsT {P : Program} {w : World} {K : PySem.W.Frag} {elts : List Expr} {kk : Nat} {tpos : Pos} {es : Array DictEntry} {ep : Nat} (it : Addr) (hod : o.data = .dict es ep) :
    Turn P w K (.Tuple elts kk tpos) (Itit d o kvs) [it] it (fun i h => ∃ ok ov, IsItemIter h it d i kvs.length ep ok ov) where
  mem := List.mem_singleton.mpr rfl
  obj := fun i h st b hb => by
    obtain ⟨ok, ov, e⟩ := st
    rw [List.mem_singleton.mp hb]
    exact ⟨_, e, fun v z => nomatch z⟩
  keep := fun i h h' st k => by
    obtain ⟨ok, ov, e⟩ := st
    exact ⟨ok, ov, k it (List.mem_singleton.mpr rfl) _ e⟩
  item := by
    intro X hP hw hK hc i pins s σ H E I hf st hg
    subst hP hw hK
    obtain ⟨hd, hi⟩ := hg
    obtain ⟨nm, es', ep', raw, dt, ex, sz, ent⟩ := I.heldT hd
    obtain ⟨rfl, rfl⟩ := dict_ep hod dt
    obtain ⟨⟨k, v⟩, hkv⟩ : ∃ p, kvs[i]? = some p := ⟨kvs[i], List.getElem?_eq_getElem hi⟩
    obtain ⟨en, q, he1, he2, he3, he4⟩ := ent i k v hkv
    have hi2 : i < es'.size := by omega
    have hen : es'[i] = en := by
      have := Array.getElem?_eq_getElem hi2
      rw [he1] at this
      exact (Option.some.inj this).symm
    obtain ⟨ok, ov, hit⟩ := st
    rw [← sz] at hit
    have below : it < s.heap.objs.size := Heap.lt_size hit
    refine DT.nextI hit raw hi2 fun h' out tp gz kp => ⟨_, rfl, wpAny_letOwnedTupleGo_items (s := { s with heap := h' }) out fun h2 hit2 sb => ?_⟩
    rw [hen, he2] at tp
    have tp2 : h2.get? s.heap.objs.size = some { cls := .type "tuple", data := .seq #[.ref q, en.val] } := (sb.2 _ (Nat.ne_of_gt below)).trans tp
    have ok2 : ObjOk X.prog X.w (upd H s.heap.objs.size (.tup [.ref q, v])) h2 s.heap.objs.size (.tup [.ref q, v]) := by
      refine ⟨?_, [.ref q, en.val], .cons rfl (.cons he4 .nil), ⟨_, tp2, rfl, _, rfl⟩⟩
      show 2 ≤ sizeLine
      decide
    have J := I.turnedNew (t' := s.toks) (ch := [it]) (fun b ob hb e => (sb.2 b (by simpa using hb)).trans (kp b ob (by simpa using hb) e)) hf (Nat.le_refl _) ok2
    refine ⟨.ref s.heap.objs.size, _, J, rfl, ⟨_, q, k, v, hkv, rfl, he3, I.hok.fresh (Nat.le_refl _), rfl⟩, ⟨_, _, by rw [← sz]; exact hit2⟩, fun b hb => ?_⟩
    rw [List.mem_singleton.mp hb, upd_ne (Nat.ne_of_lt below)]
    exact (hf it (List.mem_singleton.mpr rfl)).1
  done := by
    intro X hP hw hK hc i pins s σ H E I hf st hg
    subst hP hw hK
    obtain ⟨hd, hi⟩ := hg
    obtain ⟨f0, f1, f2, f3, f4, f5⟩ := hf it (List.mem_singleton.mpr rfl)
    obtain ⟨nm, es', ep', raw, dt, ex, sz, ent⟩ := I.heldT hd
    obtain ⟨rfl, rfl⟩ := dict_ep hod dt
    obtain ⟨ok, ov, hit⟩ := st
    rw [← sz] at hit
    exact DT.endI (I.ok.hd hc) hit raw (by omega) fun h' eb => ⟨rfl, I.turned (t' := s.toks) (fun b ob hb e => eb b ob hb e) f0 f1 f3 f4 f5⟩
  self := fun A i s Q E st h => by
    obtain ⟨ok, ov, e⟩ := st
    exact PySem.W.kcp_self e h
def iItemsT (td : TE) : TI := fun σ H R => td σ H fun x H1 => ∃ d o kvs, x = .ref d ∧ H1 d = some (.frz o (.dT kvs)) ∧ R (Itit d o kvs) H1
theorem pi_itemsT {td : TE} {e : Expr} {apos cpos : Pos} {elts : List Expr} {kk : Nat} {tpos : Pos} (he : PE X e td) (hbase : attributeBase e "items" X.env (eval e X.env) = eval e X.env := by rfl) (hline : (apos.endLine == cpos.line) = true := by rfl) :
    PI X (.Tuple elts kk tpos) (.Call (.Attribute e "items" apos) [] [] cpos) (iItemsT td) := ⟨fun pins s σ H R I h => by
  refine wpAny_Call_method (T := "dict") (id := "dict.items") hbase rfl hline F.plainAttrs_dict F.slot_dict_items F.type_dict_items (thn (he.run pins s σ H _ I h) fun u s1 ⟨x, H1, I1, rx, d, o, kvs, ex, hd, q⟩ => ?_)
  subst ex
  cases rx
  obtain ⟨nm, es, ep, raw, dt, exd, sz, ent⟩ := I1.heldT hd
  have gd := raw
  obtain ⟨o', ho, hx, _⟩ := raw
  refine ⟨⟨o', ho, hx.1⟩, fun a e => ?_, ?_⟩
  · cases e
    exact ⟨o', ho, hx.2.1⟩
  · have I2 : Inv X pins σ H1 { s1 with heap := s1.heap.push { cls := .type "dict_items", data := .fields #[.ref d] } } := I1.kept (t' := s1.toks) fun b ob q => Heap.get?_push_of_some _ q
    have fin : wpAny (model X.prog X.w) X.A (pyIter (.ref s1.heap.objs.size)) (PIE X pins σ (.Tuple elts kk tpos) R) X.xe { s1 with heap := s1.heap.push { cls := .type "dict_items", data := .fields #[.ref d] } } := by
      refine DT.iterI (d := d) (es := es) (ep := ep) ⟨_, Heap.get?_push_size _ rfl, rfl, rfl⟩ (gd.push _) (pi_one (tk := s1.toks) I2 _ (turn_itemsT _ dt) ⟨.none, .none, ?_⟩ q)
      rw [← sz]
      exact Heap.get?_push_size _ rfl
    show wpAny _ _ (callWith cpos (.builtin "dict.items") [.ref d] [] []) _ X.xe s1
    exact method_meetsIn F.slot_dict_items F.entry_dict_items rfl (PySem.evalArgs_none ⟨rfl, gd.typeIs, F.args_dict_items_1 _, _, DT.meetsItems (es := es) (ep := ep) nm, ⟨gd, fin⟩⟩)⟩
theorem walk_itemsT : Walk (Itit d o kvs) kvs.length (fun H => H d = some (.frz o (.dT kvs)))
    (fun i H x H' => ∃ T q k v, kvs[i]? = some (k, v) ∧ x = .ref T ∧ H q = some (.tup (k.map kV)) ∧ H T = none ∧ H' = upd H T (.tup [.ref q, v])) :=
  ⟨fun _ _ hi q => ⟨q, hi⟩, fun _ q => ⟨q, Nat.le_refl _⟩, fun _ _ _ _ _ _ y => y⟩
/-- d.pop(k), k a cell that is there -/
def rPopT1 : V → List V → Hp → VK → Prop := fun x xs H Q => ∃ (a : Addr) (kvs : List (List Key × V)) (k : List Key) (b : Addr) (v : V), x = .ref a ∧ xs = [.ref b] ∧ H a = some (.dT kvs) ∧ H b = some (.tup (k.map kV)) ∧ valV kvs k = some v ∧ Q v (upd H a (.dT (dropK kvs k)))
theorem mt_popT1 (hu : X.A.units + 1 < cLine) : MtR X "dict.pop" rPopT1 := by
  intro pins s σ H x xs v us Q I rx rxs h
  obtain ⟨a, kvs, k, b, v0, rfl, rfl, ha, hb, hv, q⟩ := h
  cases rx
  obtain ⟨u, rfl, r1⟩ := rxs.one
  cases r1
  obtain ⟨z, nm, es, rel, dd⟩ := dt_of I.hok ha
  have hz : es.length ≤ sizeLine := by rw [← Paired.length rel]; exact z
  have r := rel.val k
  rw [hv] at r
  cases hp : atKey es k with
  | none => rw [hp] at r; exact (show False from r).elim
  | some p =>
    rw [hp] at r
    have rv : RelV v0 p.2 := r
    refine call_pop_heap (more := []) (knd := tupleKind (mixKind X.prog X.w)) (k := k) (.inl rfl) (F.args_dict_pop_2 _ _) (tupleKind_room_in1 hu) (key_of I.hok hb) nm dd hp (fun h' dd' sb => ?_) hz
    obtain ⟨o', es', ep', g1, g2, g3, g4, _, g5⟩ := dd'
    have J : Inv X pins σ (upd H a (.dT (dropK kvs k))) { s with heap := h', toks := s.toks + (tupleKind (mixKind X.prog X.w)).draws k } :=
      d_write I (by rw [ha]; exact True.intro) sb ⟨o', g1⟩ ⟨Nat.le_trans (dropK_le kvs k) z, nm, _, (DX.KT_drop k rel).keeps (fun c ys ec => (by rw [upd_ne (ne_of ec ha (fun z => nomatch z))]; exact ec)), o', es', ep', g1, g2, g3, g4, g5⟩
    exact ⟨v0, _, J, rv, q⟩
end
end L2
namespace DK
open PySem PySem.Spec PyProof.Rows L2
def dropD {α : Type} (zs : List ((Int × Int) × α)) (k : Int × Int) : List ((Int × Int) × α) := zs.filter fun p => decide (p.1 ≠ k)
def rListDT : List V → Hp → VK → Prop := fun xs H Q => ∃ d kvs, xs = [V.ref d] ∧ Rd H d (.dT kvs) ∧ ∀ p bs, H p = none → IsKeys H kvs bs → Q (.ref p) (upd H p (.lst (bs.map V.ref)))
section
variable {α : Type} {vv : α → V} {e : α → Dat} {K : PySem.W.Frag} {F H : Hp} {σ : Sg} {Q : VK} {D : Ends} {zs : List ((Int × Int) × α)} {k : Int × Int} {v : α} {u w x : V} {L : Addr} {od : Obj} {vs : List V} {ns : List Int}
theorem dropK_d : dropK (dTK vv zs) (kP k) = dTK vv (dropD zs k) := by
  unfold dropK dropD
  rw [List.filter_map]
  congr 2
  funext p
  show decide (kP p.1 ≠ kP k) = decide (p.1 ≠ k)
  by_cases h : p.1 = k
  · rw [decide_eq_false (fun z => z (by rw [h])), decide_eq_false (fun z => z h)]
  · rw [decide_eq_true (show kP p.1 ≠ kP k from fun z => h (kP_inj.mp z)), decide_eq_true (show p.1 ≠ k from h)]
/-- a cell that stands in the heap -/
theorem frz_key {p : Addr} (s : Same F H) (h : H p = some (.tup ((kP k).map kV))) : ∃ F', Stp [] F H F' H ∧ RD F' (eP Dat.int Dat.int k) (.ref p) := by
  obtain ⟨F', t, q⟩ := Stp.frzT s h
  exact ⟨F', t, p, _, rfl, q, RDs.cons RD.int_ (RDs.cons RD.int_ RDs.nil)⟩
theorem frz_keys : ∀ (ks : List (Int × Int)) (bs : List Addr) {F : Hp}, Same F H → Paired (fun (k : Int × Int) b => H b = some (.tup ((kP k).map kV))) ks bs → ∃ F', Stp [] F H F' H ∧ RDs F' (ks.map (eP Dat.int Dat.int)) (bs.map V.ref)
  | [], _, F, s, h => by
    cases h
    exact ⟨F, Stp.refl s, rfl⟩
  | k :: ks, _, F, s, h => by
    cases h with
    | cons h1 h2 =>
      obtain ⟨F1, t1, r1⟩ := frz_key s h1
      obtain ⟨F2, t2, r2⟩ := frz_keys ks _ t1.inn h2
      exact ⟨F2, t1.trans t2 sub_nil, RDs.cons (r1.up t2.ex) r2⟩
theorem keys_of {bs : List Addr} (h : IsKeys H (dTK vv zs) bs) : Paired (fun (k : Int × Int) b => H b = some (.tup ((kP k).map kV))) (zs.map (·.1)) bs := by
  unfold IsKeys at h
  induction zs generalizing bs with
  | nil => cases h; exact .nil
  | cons z zs ih =>
    cases h with
    | cons h1 h2 => exact .cons h1 (ih h2)
/-- list(d) -/
theorem sm_lstDT (s : Same F H) (o : Own F H L (.dT (dTK vv zs))) (kk : ∀ u F' H', Stp [] F H F' H' → RD F' (eL (eP Dat.int Dat.int) (zs.map (fun p_ => p_.1))) u → Q u H') : rListDT [.ref L] H Q := by
  refine ⟨L, _, rfl, .inl o.h, fun p bs n ik => ?_⟩
  obtain ⟨F1, t1, r1⟩ := frz_keys _ _ s (keys_of ik)
  have t2 : Stp [] F1 H (upd F1 p (.lst (bs.map V.ref))) (upd H p (.lst (bs.map V.ref))) := Stp.new t1.inn n
  exact kk _ _ _ (t1.trans t2 sub_nil) ⟨p, _, rfl, upd_same, r1.up t2.ex⟩
/-- d.pop(k) -/
theorem sm_dpop (s : Same F H) (o : Own F H L (.dT (dTK vv zs))) (hk : RD F (eP Dat.int Dat.int k) w) (hv : lookD zs k = some v) (kk : ∀ F' H', Stp [L] F H F' H' → Own F' H' L (.dT (dTK vv (dropD zs k))) → Q (vv v) H') : rPopT1 (.ref L) [w] H Q := by
  obtain ⟨b, rfl, hb⟩ := rd_key s hk
  exact ⟨L, _, kP k, b, vv v, rfl, rfl, o.h, hb, by rw [valV_d, hv]; rfl, kk _ _ (Stp.put s o) ⟨o.f, by rw [upd_same, dropK_d], trivial⟩⟩
theorem ty_dT (o : Own F H L (.dT (dTK vv zs))) : tyV K "dict" (.ref L) H := .inr (.inr (.inl ⟨rfl, .inr ⟨_, o.h⟩⟩))
/-- xs.index(n) -/
theorem idx_of {ns : List Int} {n j : Int} (h : idxR ns n = .ok j) : ∃ i : Nat, j = (i : Int) ∧ ns[i]? = some n ∧ ∀ m z, m < i → ns[m]? = some z → z ≠ n := by
  unfold idxR at h
  cases q : ns.idxOf? n with
  | none => rw [q] at h; cases h
  | some i =>
    rw [q] at h
    cases h
    obtain ⟨hl, h1, h2⟩ := List.findIdx?_eq_some_iff_getElem.mp q
    refine ⟨i, rfl, ?_, fun m z hm hz => ?_⟩
    · rw [List.getElem?_eq_getElem hl, eq_of_beq h1]
    · have := h2 m hm
      have hz2 := (List.getElem?_eq_some_iff.mp hz).2
      rw [hz2] at this
      intro e
      exact this (by rw [e]; exact beq_self_eq_true n)
theorem Post.idx {β : Type} {P : β → Prop} {X : Xc → Option Int → Prop} {n : Int} {kk : Int → Rs β} (h : Post ((idxR ns n).bnd kk) P X) : ∃ j, idxR ns n = .ok j ∧ Post (kk j) P X := by
  cases q : idxR ns n with
  | ok j => rw [q] at h; exact ⟨j, rfl, h⟩
  | exc c t => unfold idxR at q; split at q <;> cases q
  | bad => rw [q] at h; exact h.elim
theorem sq_index {l : Addr} {n j : Int} (hs : SqL K H l (ns.map V.int)) (h : idxR ns n = .ok j) (kk : Q (.int j) H) : rIndex K (.ref l) [.int n] H Q := by
  obtain ⟨i, rfl, h1, h2⟩ := idx_of h
  refine ⟨l, _, .int n, i, .int n, rfl, rfl, hs, rfl, ?_, by rw [List.getElem?_map, h1]; rfl, beq_self_eq_true n, fun m z' hm hz => ?_, kk⟩
  · rw [List.all_map]
    exact List.all_eq_true.mpr fun _ _ => rfl
  · rw [List.getElem?_map] at hz
    obtain ⟨z, hz1, rfl⟩ := Option.map_eq_some_iff.mp hz
    exact beq_eq_false_iff_ne.mpr (h2 m z hm hz1)
theorem sm_idxO {n j : Int} (o : Own F H L (.lst vs)) (hd : RDs F (ns.map Dat.int) vs) (h : idxR ns n = .ok j) (kk : Q (.int j) H) : rIndex K (.ref L) [.int n] H Q := by
  rw [hd.ints] at o
  exact sq_index (SqL.of o.h) h kk
theorem sm_idxL {n j : Int} (s : Same F H) (hd : RD F (eL Dat.int ns) x) (h : idxR ns n = .ok j) (kk : Q (.int j) H) : rIndex K x [.int n] H Q := by
  obtain ⟨a, vs, rfl, h1, h2⟩ := hd
  rw [RDs.ints h2] at h1
  exact sq_index (SqL.of (s a _ h1)) h kk
theorem ty_rdL {ds : List Dat} (s : Same F H) (hd : RD F (.lst ds) x) : tyV K "list" x H := by
  obtain ⟨a, vs, rfl, h1, h2⟩ := hd
  exact .inl ⟨rfl, _, SqL.of (s a _ h1)⟩
/-- two lists in one of ours -/
theorem sm_catO {β : Type} {e : β → Dat} {xs ys : List β} (s : Same F H) (h1 : RD F (.lst (xs.map e)) u) (h2 : RD F (.lst (ys.map e)) w) (z : xs.length + ys.length ≤ 1000000) (kk : KOwn F H ((xs ++ ys).map e) Q) : rAddU K u w H Q := by
  obtain ⟨a, vs, rfl, _, h3, h4⟩ := rd_lst s h1
  obtain ⟨b, ws, rfl, _, h5, h6⟩ := rd_lst s h2
  have l1 : vs.length = xs.length := by rw [h4.len, List.length_map]
  have l2 : ws.length = ys.length := by rw [h6.len, List.length_map]
  refine .inr (.inl ⟨a, b, vs, ws, rfl, rfl, h3, h5, sz_le (by omega), nw_ownK s (ds := (xs ++ ys).map e) ?_ kk⟩)
  rw [List.map_append]
  exact h4.app h6
end
section
variable {α S' R : Type} {vv : α → V} {e : α → Dat} {F H : Hp} {σ : Sg} {D : Ends} {zs : List ((Int × Int) × α)} {L : Addr} {od : Obj} {X : Xc → Option Int → Prop} {P : Ctl S' R → Prop} {f : S' → (Int × Int) × α → Rs (Ctl S' R)} {s0 : S'} {g : TG} {tl : TS} {td : TE}
/-- over its pairs -/
theorem fr_DI (o : Own F H L (.frz od (.dT (dTK vv zs)))) (he : ∀ y F, RD F (e y) (vv y)) (hv : ∀ Q : VK, Q (.ref L) H → td σ H Q) (hp : Post (forR f zs s0) P X) (I : S' → Hp → Sg → Hp → Prop) (h0 : I s0 F σ H) (hG : ∀ s F' σ H', I s F' σ H' → Own F' H' L (.frz od (.dT (dTK vv zs))) ∧ Same F' H')
    (hs : ∀ (x : (Int × Int) × α) (rest : List ((Int × Int) × α)) (s : S') (u : V) F1 σ' H1 F2 H2, I s F1 σ' H1 → Stp [] F1 H1 F2 H2 → RD F2 (eP (eP Dat.int Dat.int) e x) u → Post (f s x) (Turn f P rest X) X → g u σ' H2 fun σ2 H3 => tl { D with nx := NxF (fun s σ H => ∃ F, I s F σ H) f P rest X, ct := NxF (fun s σ H => ∃ F, I s F σ H) f P rest X, bk := D.nx } σ2 H3)
    (hd : ∀ s σ H, (∃ F, I s F σ H) → P (.nx s) → D.nx σ H) : iItemsT td σ H fun J H => LoopOwes g tl D σ J H := by
  refine hv _ ⟨L, od, _, rfl, o.h, fr_core walk_itemsT (by rw [List.length_map]) (fun s σ H => ∃ F, I s F σ H) hp ⟨F, h0⟩ (fun s σ H' ⟨F', q⟩ => (hG s F' σ H' q).1.h) ?_ hd⟩
  rintro i x rest s u σ' H1 H2 hx ⟨F1, q⟩ ⟨T, p, k, w, e1, rfl, e2, e3, rfl⟩ pp
  rw [List.getElem?_map, hx] at e1
  cases e1
  obtain ⟨F2, t2, r2⟩ := frz_key (hG _ _ _ _ q).2 e2
  have t3 : Stp [] F2 H1 (upd F2 T (.tup [.ref p, vv x.2])) (upd H1 T (.tup [.ref p, vv x.2])) := Stp.new t2.inn e3
  exact hs x rest s _ F1 σ' H1 _ _ q (t2.trans t3 sub_nil) ⟨T, _, rfl, upd_same, RDs.cons (r2.up t3.ex) (RDs.cons (he _ _) RDs.nil)⟩ pp
end
end DK
namespace DK
open PySem PySem.Spec PyProof.Rows L2
/-! lists of ours that a loop makes anew -/
abbrev Mv (H : Hp) (L0 L : Addr) : Prop := L = L0 ∨ Fre H L
section
variable {H H1 : Hp} {L L0 : Addr} {S S' : List Addr}
theorem sub_mv (m : Mv H L0 L) (h : L0 ∈ S) (t : ∀ q ∈ S', q ∈ S ∨ H q = none) : ∀ q ∈ L :: S', q ∈ S ∨ H q = none := fun q hq => by
  rcases List.mem_cons.mp hq with rfl | hq
  · rcases m with rfl | m
    · exact .inl h
    · exact .inr m
  · exact t q hq
theorem Mv.fre (m : Mv H1 L0 L) (a : Fre H L0) (b : ∀ p, Fre H1 p → Fre H p) : Fre H L := by
  rcases m with rfl | m
  · exact a
  · exact b _ m
end
end DK
namespace DK
open PySem PySem.Spec PyProof.Rows L2
/-! list(range(a, b)) -/
def rLRg (x y : V) (H : Hp) (Q : VK) : Prop := ∃ i j, x = .int i ∧ y = .int j ∧ (RgOk i j ∧ ∀ q, H q = none → Q (.ref q) (upd H q (.lst (rgV i j))))
section
variable {F H : Hp} {σ : Sg} {Q : VK} {ta tb : TE} {a b : Int}
theorem st_lstRg2 (k : ta σ H fun x H1 => tb σ H1 fun y H2 => rLRg x y H2 Q) : tLstRg (tRg2 ta tb) σ H Q := k
theorem sm_lstRg (s : Same F H) (h : rngOk a b = true) (g : (b - a).toNat ≤ 1000000) (k : ∀ u F' H', Stp [] F H F' H' → RD F' (eL Dat.int (rngI a b)) u → Q u H') : rLRg (.int a) (.int b) H Q := by
  have hb := rngOk.b h
  refine ⟨a, b, rfl, rfl, ⟨hb.1, hb.2.1, hb.2.2.1, hb.2.2.2, Nat.le_trans g (by decide)⟩, nw_lst s (ds := (rngI a b).map Dat.int) ?_ k⟩
  have e : rgV a b = (rngI a b).map V.int := by
    unfold rgV rngI
    rw [List.map_map]
    rfl
  rw [e]
  exact RDs.of_ints _
end
end DK
set_option maxRecDepth 100000
set_option maxHeartbeats 2000000
/-! DK, thirty-seventh part: caught errors with a line; one of three, each behind a word. -/
namespace DK
open PySem PySem.Spec PyProof.Rows L2
/-- a caught error and its line -/
abbrev Xl : Type := Xc × Option Int
abbrev eXl (K : PySem.W.Frag) : Xl → Dat := fun p => .exc (He.ga K p.1.nm) p.2
theorem NlE.eXl {K : PySem.W.Frag} : NlE (eXl K) := fun _ => rfl
def lineR {β : Type} (y : Xl) (k : Int → Rs β) : Rs β := match y with
  | (.text, some n) => k n
  | _ => .bad
theorem Post.line {β : Type} {P : β → Prop} {X : Xc → Option Int → Prop} {y : Xl} {k : Int → Rs β} (h : Post (lineR y k) P X) : ∃ n, y = (.text, some n) ∧ Post (k n) P X := by
  unfold lineR at h
  split at h
  · exact ⟨_, rfl, h⟩
  · exact h.elim
/-- what an error's own dict holds -/
def OwnD (H : Hp) (d : Option Addr) : Prop := d = none ∨ ∃ (dx : Addr) (fs : List (Str × V)), d = some dx ∧ H dx = some (.xd fs)
def rIsL (K : PySem.W.Frag) : List V → Hp → VK → Prop := fun xs H Q => ∃ (a D : Addr) (d : Option Addr) (c : V) (u : Value) (b : Bool), xs = [.ref a, c] ∧ ClsV c u ∧ H a = some (ExK (.ref D) d a) ∧ OwnD H d ∧ ExcC K D ∧ PySem.W.kitOne K (.ref D) u = some b ∧ Q (.bl b) H
theorem call_isL {X : Cx} : CallR X (.builtin "isinstance") (rIsL X.K) := by
  intro pins s σ H xs us Q I r h
  obtain ⟨a, D, d, c, u, b, rfl, k, ha, hD, C, e, q⟩ := h
  obtain ⟨u1, u2, rfl, r1, r2⟩ := vals2 r
  have e2 := k.eq r2
  subst e2
  cases (show u1 = Value.ref a from r1)
  obtain ⟨⟨oe, vs, ho, hz, hd⟩, _⟩ := (show ObjOk X.prog X.w H s.heap a (ExK (.ref D) d a) from I.hok a _ ha)
  have hcl : (PySem.W.clsIn X.K D).isSome = true := by
    obtain ⟨cd, hc, _⟩ := PySem.W.any_some C.hd
    rw [hc]; rfl
  have J : ∃ od, PySem.W.InstAt s.heap a oe D od := by
    rcases hD with rfl | ⟨dx, fs, rfl, hx⟩
    · refine ⟨none, ?_⟩
      obtain ⟨oc, od, oda, osl⟩ := oe
      obtain ⟨h1, h2⟩ := hz
      dsimp only at h1 h2 hd
      subst h1 h2 hd
      exact ⟨ho, rfl, rfl, trivial⟩
    · obtain ⟨mA, hns, _⟩ := (show ObjOk X.prog X.w H s.heap dx (.xd fs) from I.hok dx _ hx)
      obtain ⟨od, hod, _⟩ := lookIn_ns hns
      refine ⟨some od, ho, hz.1, by unfold PySem.W.notCls; rw [hd] <;> rfl, by rw [hz.2]; exact hod⟩
  obtain ⟨od, J⟩ := J
  exact PySem.W.kia_one (PySem.W.kitx_exc hcl C.hg C.hk C.hs C.ha C.hn C.ht C.hm) I.kIn J e (fun z => nomatch z) fun tk => ⟨.bl b, H, I.tok tk, rfl, q⟩
/-- a caught error's field -/
def rXl (K : PySem.W.Frag) (n : Str) (x : V) (H : Hp) (Q : VK) : Prop := ∃ (a C dx : Addr) (fs : List (Str × V)) (v : V), x = .ref a ∧ H a = some (ExK (.ref C) (some dx) a) ∧ H dx = some (.xd fs) ∧ fs.lookup n = some v ∧ ExcC K C ∧ PySem.W.findIn K (.ref C) n = some none ∧ Q v H
def tXl (K : PySem.W.Frag) (te : TE) (n : Str) : TE := fun σ H Q => te σ H fun x H1 => rXl K n x H1 Q
theorem pe_xl {X : Cx} {e : Expr} {te : TE} {pos : Pos} {n : Str} (he : PE X e te) (hb : attributeBase e n X.env (eval e X.env) = eval e X.env := by rfl) : PE X (.Attribute e n pos) (tXl X.K te n) := by
  refine ⟨fun pins s σ H Q I h => ?_⟩
  refine attr_of hb (thn (he.run pins s σ H _ I h) fun u s1 hh => ?_)
  obtain ⟨x, H1, I1, rx, a, C, dx, fs, v, ex, ea, ed, l, T, hno, q⟩ := hh
  subst ex
  obtain rfl : u = Value.ref a := rx
  obtain ⟨⟨oe, vs, ho, hz, hd⟩, _⟩ := (show ObjOk X.prog X.w H1 s1.heap a (ExK (.ref C) (some dx) a) from I1.hok a _ ea)
  have hx : ObjOk X.prog X.w H1 s1.heap dx (.xd fs) := I1.hok dx _ ed
  obtain ⟨mA, hns, hr⟩ := hx
  obtain ⟨od, hod, hl⟩ := lookIn_ns hns
  obtain ⟨u, hu, ru⟩ := RelO.some_of (v := v) (o := mA n) (by rw [← l]; exact hr n)
  have J : PySem.W.InstAt s1.heap a oe C (some od) := ⟨ho, hz.1, by unfold PySem.W.notCls; rw [hd] <;> rfl, by rw [hz.2]; exact hod⟩
  exact HandSPX.exc_get I1.kIn J T.hg T.hk T.hs (PySem.W.findObj_own T.hd hno rfl (by rw [hl, hu])) (handed_of ru) ⟨v, H1, I1.tok _, ru, q⟩
section
variable {K : PySem.W.Frag} {σ : Sg} {H F : Hp} {Q : VK} {D : Ends}
theorem st_xl {te : TE} {n : Str} (h : te σ H fun x H1 => rXl K n x H1 Q) : tXl K te n σ H Q := h
theorem ExD.own {l : Option Int} {d : Option Addr} (s : Same F H) (h : ExD F l d) : OwnD H d := by
  cases l with
  | none => exact .inl h
  | some n =>
    obtain ⟨dx, rfl, q⟩ := h
    exact .inr ⟨dx, _, rfl, s _ _ q⟩
theorem sm_isL {p : Xl} {v : V} {c : V} {u : Value} {b : Bool} (s : Same F H) (h : RD F (eXl K p) v) (hc : ClsV c u) (C : ExcC K (He.ga K p.1.nm)) (e : PySem.W.kitOne K (.ref (He.ga K p.1.nm)) u = some b) (k : Q (.bl b) H) : rIsL K [v, c] H Q := by
  obtain ⟨a, d, rfl, h1, h2⟩ := h
  exact ⟨a, _, d, c, u, b, rfl, hc, s a _ h1, h2.own s, C, e, k⟩
theorem sm_line {y : Xl} {v : V} {n : Int} (hy : y = (.text, some n)) (s : Same F H) (h : RD F (eXl K y) v) (C : ExcC K (He.ga K "NoText")) (hn : PySem.W.findIn K (.ref (He.ga K "NoText")) "line" = some none) (k : Q (.int n) H) : rXl K "line" v H Q := by
  subst hy
  obtain ⟨a, d, rfl, h1, dx, rfl, q⟩ := h
  exact ⟨a, _, dx, _, _, rfl, s a _ h1, s dx _ q, rfl, C, hn, k⟩
end
theorem sm_eqW {F H : Hp} {K : PySem.W.Frag} {Q : VK} {a b c d : Str} {u v : V} (s : Same F H) (h1 : RD F (.tup [.str a, .str b]) u) (h2 : RD F (.tup [.str c, .str d]) v) (p1 : PyData.strOk a = true) (p2 : PyData.strOk b = true) (p3 : PyData.strOk c = true) (p4 : PyData.strOk d = true) (k : Q (.bl (wordEq a b c d)) H) : rEqU K u v H Q :=
  .inr ⟨_, _, word_dp s h1, word_dp s h2, word_sh p1 p2, word_sh p3 p4, k⟩
theorem sm_isNS {F H : Hp} {Q : VK} {o : Option Str} {u : V} (h : RD F (eO Dat.str o) u) (k : Q (.bl o.isNone) H) : rIsN u .non H Q := by
  cases o with
  | none => rw [show u = V.non from h]; exact st_isN1 k
  | some x => exact st_isN0 (by rw [show u = V.str x from h]; intro z; cases z) k
theorem sm_notNS {F H : Hp} {Q : VK} {o : Option Str} {u : V} (h : RD F (eO Dat.str o) u) (k : Q (.bl (!o.isNone)) H) : rNotN u .non H Q := by
  cases o with
  | none => rw [show u = V.non from h]; exact st_notN1 k
  | some x => exact st_notN0 (by rw [show u = V.str x from h]; intro z; cases z) k
/-! ### one of three -/
abbrev eE3 {α β γ : Type} (s1 : Str) (e1 : α → Dat) (s2 : Str) (e2 : β → Dat) (s3 : Str) (e3 : γ → Dat) : α ⊕ β ⊕ γ → Dat
  | .inl x => .tup [.str s1, e1 x]
  | .inr (.inl y) => .tup [.str s2, e2 y]
  | .inr (.inr z) => .tup [.str s3, e3 z]
def eE3a {α β γ : Type} : α ⊕ β ⊕ γ → Option α
  | .inl x => some x
  | _ => none
def eE3b {α β γ : Type} : α ⊕ β ⊕ γ → Option β
  | .inr (.inl y) => some y
  | _ => none
def eE3c {α β γ : Type} : α ⊕ β ⊕ γ → Option γ
  | .inr (.inr z) => some z
  | _ => none
section
variable {α β γ : Type} {s1 s2 s3 : Str} {e1 : α → Dat} {e2 : β → Dat} {e3 : γ → Dat} {F : Hp} {t : α ⊕ β ⊕ γ} {v : V}
theorem rd_eE3a {x : α} (h : eE3a t = some x) (r : RD F (eE3 s1 e1 s2 e2 s3 e3 t) v) : RD F (eP Dat.str e1 (s1, x)) v := by
  match t, h with
  | .inl y, h => cases h; exact r
theorem rd_eE3b {x : β} (h : eE3b t = some x) (r : RD F (eE3 s1 e1 s2 e2 s3 e3 t) v) : RD F (eP Dat.str e2 (s2, x)) v := by
  match t, h with
  | .inr (.inl y), h => cases h; exact r
theorem rd_eE3c {x : γ} (h : eE3c t = some x) (r : RD F (eE3 s1 e1 s2 e2 s3 e3 t) v) : RD F (eP Dat.str e3 (s3, x)) v := by
  match t, h with
  | .inr (.inr y), h => cases h; exact r
end
end DK
set_option maxRecDepth 100000
set_option maxHeartbeats 2000000
/-! DK, thirty-eighth part: text times a number; one of three kinds of data. -/
namespace DK
open PySem PySem.Spec PyProof.Rows L2
def rStrMul : R2 := fun x y H Q => ∃ (a : Str) (n : Int), x = .str a ∧ y = .int n ∧ PySem.MulOk a n ∧ Q (.str (PySem.Txt.mul a n)) H
theorem op_strMul {X : Cx} : OpR X (binaryOp .Mult) rStrMul := by
  intro pins s σ H x y v u Q I rx ry h
  obtain ⟨a, n, rfl, rfl, hok, q⟩ := h
  obtain ⟨t, rfl⟩ := rx
  obtain ⟨t2, rfl⟩ := ry
  exact PySem.SB.mul hok fun t' k => ⟨.str (PySem.Txt.mul a n), H, I.tok _, ⟨t', rfl⟩, q⟩
theorem zero30 : PySem.MulOk "0" 30 := by
  unfold PySem.MulOk
  decide +kernel
/-! ### one of three kinds, without a word -/
abbrev eU {α β γ : Type} (e1 : α → Dat) (e2 : β → Dat) (e3 : γ → Dat) : α ⊕ β ⊕ γ → Dat
  | .inl x => e1 x
  | .inr (.inl y) => e2 y
  | .inr (.inr z) => e3 z
def eE30 {α β γ : Type} (s1 s2 s3 : Str) : α ⊕ β ⊕ γ → Str
  | .inl _ => s1
  | .inr (.inl _) => s2
  | .inr (.inr _) => s3
def fldU {α β γ δ : Type} (p1 : α → δ) (p2 : β → δ) : α ⊕ β ⊕ γ → Option δ
  | .inl x => some (p1 x)
  | .inr (.inl y) => some (p2 y)
  | .inr (.inr _) => none
section
variable {α β γ : Type} {K : PySem.W.Frag} {F H : Hp} {Q : VK} {s1 s2 s3 : Str} {e1 : α → Dat} {e2 : β → Dat} {e3 : γ → Dat} {y : α ⊕ β ⊕ γ} {u v : V} {w : Str}
theorem rd_eUa {x : α} (h : eE3a y = some x) (r : RD F (eU e1 e2 e3 y) v) : RD F (e1 x) v := by
  match y, h with
  | .inl _, h => cases h; exact r
theorem rd_eUb {x : β} (h : eE3b y = some x) (r : RD F (eU e1 e2 e3 y) v) : RD F (e2 x) v := by
  match y, h with
  | .inr (.inl _), h => cases h; exact r
theorem rd_eUc {x : γ} (h : eE3c y = some x) (r : RD F (eU e1 e2 e3 y) v) : RD F (e3 x) v := by
  match y, h with
  | .inr (.inr _), h => cases h; exact r
theorem rd_ePUa {x : α} (h : eE3a y = some x) (r : RD F (eP Dat.str (eU e1 e2 e3) (w, y)) v) : RD F (eP Dat.str e1 (w, x)) v := by
  match y, h with
  | .inl _, h => cases h; exact r
theorem rd_ePUb {x : β} (h : eE3b y = some x) (r : RD F (eP Dat.str (eU e1 e2 e3) (w, y)) v) : RD F (eP Dat.str e2 (w, x)) v := by
  match y, h with
  | .inr (.inl _), h => cases h; exact r
theorem rd_ePUc {x : γ} (h : eE3c y = some x) (r : RD F (eP Dat.str (eU e1 e2 e3) (w, y)) v) : RD F (eP Dat.str e3 (w, x)) v := by
  match y, h with
  | .inr (.inr _), h => cases h; exact r
theorem sm_ixE30 (s : Same F H) (h : RD F (eE3 s1 e1 s2 e2 s3 e3 y) v) (k : Q (.str (eE30 s1 s2 s3 y)) H) : rIxU K v (.int 0) H Q := by
  match y, h, k with
  | .inl x, h, k => exact st_ixT (d := .str s1) s h rfl fun u r => by rw [show u = V.str s1 from r]; exact k
  | .inr (.inl x), h, k => exact st_ixT (d := .str s2) s h rfl fun u r => by rw [show u = V.str s2 from r]; exact k
  | .inr (.inr x), h, k => exact st_ixT (d := .str s3) s h rfl fun u r => by rw [show u = V.str s3 from r]; exact k
theorem st_fldU {C1 C2 : Addr} {ns1 ns2 : List Str} {d1 : α → List Dat} {d2 : β → List Dat} {f : Str} {n1 n2 : Nat} {δ : Type} {e : δ → Dat} {p1 : α → δ} {p2 : β → δ} {r : δ}
    (hy : fldU p1 p2 y = some r) (s : Same F H) (h : RD F (eU e1 e2 e3 y) v) (q1 : ∀ x, e1 x = .obj C1 ns1 (d1 x)) (q2 : ∀ x, e2 x = .obj C2 ns2 (d2 x)) (c1 : Cls K C1) (c2 : Cls K C2) (a1 : NoAttr K C1 f) (a2 : NoAttr K C2 f)
    (i1 : ns1.idxOf f = n1) (i2 : ns2.idxOf f = n2) (l1 : n1 < ns1.length) (l2 : n2 < ns2.length) (g1 : ∀ x, (d1 x)[n1]? = some (e (p1 x))) (g2 : ∀ x, (d2 x)[n2]? = some (e (p2 x))) {P : V → Prop} (k : ∀ u, RD F (e r) u → P u) :
    ∃ a C dx fs u, v = .ref a ∧ H a = some (.ins C dx fs) ∧ Cls K C ∧ NoAttr K C f ∧ fs.lookup f = some u ∧ P u := by
  match y, hy, h with
  | .inl x, hy, h =>
    cases hy
    have h' : RD F (.obj C1 ns1 (d1 x)) v := by rw [← q1]; exact h
    exact st_fldD s h' c1 a1 i1 l1 (g1 x) k
  | .inr (.inl x), hy, h =>
    cases hy
    have h' : RD F (.obj C2 ns2 (d2 x)) v := by rw [← q2]; exact h
    exact st_fldD s h' c2 a2 i2 l2 (g2 x) k
end
def wordEqI (a : Str) (n : Int) (c : Str) (m : Int) : Bool := PyData.eqv (.tuple [.str a, .int n]) (.tuple [.str c, .int m])
section
variable {K : PySem.W.Frag} {F H : Hp} {Q : VK} {u v : V} {a c : Str} {n m : Int}
theorem wordI_dp (s : Same F H) (h : RD F (.tup [.str a, .int n]) u) : Dp K H u (.tuple [.str a, .int n]) := by
  have := RD.dp (K := K) s h (by simp only [dep, deps]; omega)
  simpa only [toPy, toPys] using this
theorem wordI_sh (h1 : PyData.strOk a = true) : SeqAt.shaped (.tuple [.str a, .int n]) = true := by
  unfold SeqAt.shaped
  simp [PyData.canLay0, PyData.canLayAll0, h1, PyData.depth, PyData.depthAll]
theorem sm_neWI (s : Same F H) (h1 : RD F (.tup [.str a, .int n]) u) (h2 : RD F (.tup [.str c, .int m]) v) (p1 : PyData.strOk a = true) (p3 : PyData.strOk c = true) (k : Q (.bl (!wordEqI a n c m)) H) : rNeU K u v H Q :=
  .inr ⟨_, _, wordI_dp s h1, wordI_dp s h2, wordI_sh p1, wordI_sh p3, k⟩
theorem wordEqI_iff : wordEqI a n c m = true ↔ a = c ∧ n = m := by
  unfold wordEqI
  simp only [PyData.eqv, PyData.eqvAll, Bool.and_eq_true, Bool.and_true, beq_iff_eq, decide_eq_true_eq]
end
end DK
namespace Dot
open PySem PySem.Spec PyProof.Rows L2 DK
abbrev topS (i : Nat) : Stmt := PySem.Challenge.pw_dotscreen_k61_texts_refused.main.body.getD i (.Pass ⟨0, 0, 0, 0⟩)
abbrev s_NoText_init : Stmt := inClass (topS 11) 0
abbrev n_NoText_init : List Str := (["self", "line"] : List Str)
theorem sc_NoText_init : FnScope n_NoText_init (["self", "line"] : List Str) (defScope s_NoText_init) := ⟨rfl, rfl, rfl, by decide +kernel, rfl, by decide +kernel, by decide +kernel⟩
abbrev d_NoText_init : He.DefD := ⟨("NoText", some "__init__"), "__init__", "NoText.__init__", defArgs s_NoText_init, defBody s_NoText_init, defScope s_NoText_init, [], []⟩
abbrev s_rows_kept : Stmt := topS 13
abbrev n_rows_kept : List Str := (["rows", "low", "top", "made", "row", "number"] : List Str)
theorem sc_rows_kept : FnScope n_rows_kept (["rows", "low", "top"] : List Str) (defScope s_rows_kept) := ⟨rfl, rfl, rfl, by decide +kernel, rfl, by decide +kernel, by decide +kernel⟩
abbrev d_rows_kept : He.DefD := ⟨("rows_kept", none), "rows_kept", "rows_kept", defArgs s_rows_kept, defBody s_rows_kept, defScope s_rows_kept, [], []⟩
abbrev s_Picture_init : Stmt := inClass (topS 14) 0
abbrev n_Picture_init : List Str := (["self", "most", "rows", "kept"] : List Str)
theorem sc_Picture_init : FnScope n_Picture_init (["self", "most", "rows"] : List Str) (defScope s_Picture_init) := ⟨rfl, rfl, rfl, by decide +kernel, rfl, by decide +kernel, by decide +kernel⟩
abbrev d_Picture_init : He.DefD := ⟨("Picture", some "__init__"), "__init__", "Picture.__init__", defArgs s_Picture_init, defBody s_Picture_init, defScope s_Picture_init, [], []⟩
abbrev s_Tile_init : Stmt := inClass (topS 16) 0
abbrev n_Tile_init : List Str := (["self", "count", "rows", "kept"] : List Str)
theorem sc_Tile_init : FnScope n_Tile_init (["self", "count", "rows"] : List Str) (defScope s_Tile_init) := ⟨rfl, rfl, rfl, by decide +kernel, rfl, by decide +kernel, by decide +kernel⟩
abbrev d_Tile_init : He.DefD := ⟨("Tile", some "__init__"), "__init__", "Tile.__init__", defArgs s_Tile_init, defBody s_Tile_init, defScope s_Tile_init, [], []⟩
abbrev s_is_number : Stmt := topS 20
abbrev n_is_number : List Str := (["piece"] : List Str)
theorem sc_is_number : FnScope n_is_number (["piece"] : List Str) (defScope s_is_number) := ⟨rfl, rfl, rfl, by decide +kernel, rfl, by decide +kernel, by decide +kernel⟩
abbrev d_is_number : He.DefD := ⟨("is_number", none), "is_number", "is_number", defArgs s_is_number, defBody s_is_number, defScope s_is_number, [], []⟩
abbrev s_numbers_from : Stmt := topS 21
abbrev n_numbers_from : List Str := (["row", "pieces", "piece"] : List Str)
theorem sc_numbers_from : FnScope n_numbers_from (["row"] : List Str) (defScope s_numbers_from) := ⟨rfl, rfl, rfl, by decide +kernel, rfl, by decide +kernel, by decide +kernel⟩
abbrev d_numbers_from : He.DefD := ⟨("numbers_from", none), "numbers_from", "numbers_from", defArgs s_numbers_from, defBody s_numbers_from, defScope s_numbers_from, [], []⟩
abbrev s_rows_from : Stmt := topS 22
abbrev n_rows_from : List Str := (["text", "made", "line", "row", "numbers"] : List Str)
theorem sc_rows_from : FnScope n_rows_from (["text"] : List Str) (defScope s_rows_from) := ⟨rfl, rfl, rfl, by decide +kernel, rfl, by decide +kernel, by decide +kernel⟩
abbrev d_rows_from : He.DefD := ⟨("rows_from", none), "rows_from", "rows_from", defArgs s_rows_from, defBody s_rows_from, defScope s_rows_from, [], []⟩
abbrev s_split_rows : Stmt := topS 23
abbrev n_split_rows : List Str := (["text", "first", "rows"] : List Str)
theorem sc_split_rows : FnScope n_split_rows (["text"] : List Str) (defScope s_split_rows) := ⟨rfl, rfl, rfl, by decide +kernel, rfl, by decide +kernel, by decide +kernel⟩
abbrev d_split_rows : He.DefD := ⟨("split_rows", none), "split_rows", "split_rows", defArgs s_split_rows, defBody s_split_rows, defScope s_split_rows, [], []⟩
abbrev s_read_picture : Stmt := topS 24
abbrev n_read_picture : List Str := (["text", "most", "rows"] : List Str)
theorem sc_read_picture : FnScope n_read_picture (["text"] : List Str) (defScope s_read_picture) := ⟨rfl, rfl, rfl, by decide +kernel, rfl, by decide +kernel, by decide +kernel⟩
abbrev d_read_picture : He.DefD := ⟨("read_picture", none), "read_picture", "read_picture", defArgs s_read_picture, defBody s_read_picture, defScope s_read_picture, [], []⟩
abbrev s_read_tile : Stmt := topS 25
abbrev n_read_tile : List Str := (["text", "count", "rows"] : List Str)
theorem sc_read_tile : FnScope n_read_tile (["text"] : List Str) (defScope s_read_tile) := ⟨rfl, rfl, rfl, by decide +kernel, rfl, by decide +kernel, by decide +kernel⟩
abbrev d_read_tile : He.DefD := ⟨("read_tile", none), "read_tile", "read_tile", defArgs s_read_tile, defBody s_read_tile, defScope s_read_tile, [], []⟩
abbrev s_read_numbers : Stmt := topS 26
abbrev n_read_numbers : List Str := (["text", "first"] : List Str)
theorem sc_read_numbers : FnScope n_read_numbers (["text"] : List Str) (defScope s_read_numbers) := ⟨rfl, rfl, rfl, by decide +kernel, rfl, by decide +kernel, by decide +kernel⟩
abbrev d_read_numbers : He.DefD := ⟨("read_numbers", none), "read_numbers", "read_numbers", defArgs s_read_numbers, defBody s_read_numbers, defScope s_read_numbers, [], []⟩
abbrev s_law_next : Stmt := topS 28
abbrev n_law_next : List Str := (["_law_script", "_law_at", "_law_cell", "_law_m"] : List Str)
theorem sc_law_next : FnScope n_law_next (["_law_script", "_law_at"] : List Str) (defScope s_law_next) := ⟨rfl, rfl, rfl, by decide +kernel, rfl, by decide +kernel, by decide +kernel⟩
abbrev d_law_next : He.DefD := ⟨("_law_next", none), "_law_next", "_law_next", defArgs s_law_next, defBody s_law_next, defScope s_law_next, [], []⟩
abbrev s_law_same : Stmt := topS 29
abbrev n_law_same : List Str := (["_law_found", "_law_due", "_law_name", "_law_one_here", "_law_other"] : List Str)
theorem sc_law_same : FnScope n_law_same (["_law_found", "_law_due"] : List Str) (defScope s_law_same) := ⟨rfl, rfl, rfl, by decide +kernel, rfl, by decide +kernel, by decide +kernel⟩
abbrev d_law_same : He.DefD := ⟨("_law_same", none), "_law_same", "_law_same", defArgs s_law_same, defBody s_law_same, defScope s_law_same, [], []⟩
abbrev s_law_most : Stmt := topS 30
abbrev n_law_most : List Str := (["_law_script", "_law_at", "_law_m", "_law_cell"] : List Str)
theorem sc_law_most : FnScope n_law_most (["_law_script", "_law_at"] : List Str) (defScope s_law_most) := ⟨rfl, rfl, rfl, by decide +kernel, rfl, by decide +kernel, by decide +kernel⟩
abbrev d_law_most : He.DefD := ⟨("_law_most", none), "_law_most", "_law_most", defArgs s_law_most, defBody s_law_most, defScope s_law_most, [], []⟩
abbrev s_law_tile_rows : Stmt := topS 31
abbrev n_law_tile_rows : List Str := (["_law_script", "_law_at", "_law_count", "_law_tall", "_law_broad", "_law_rows", "_law_k", "_law_line", "_law_j", "_law_m"] : List Str)
theorem sc_law_tile_rows : FnScope n_law_tile_rows (["_law_script", "_law_at", "_law_count", "_law_tall", "_law_broad"] : List Str) (defScope s_law_tile_rows) := ⟨rfl, rfl, rfl, by decide +kernel, rfl, by decide +kernel, by decide +kernel⟩
abbrev d_law_tile_rows : He.DefD := ⟨("_law_tile_rows", none), "_law_tile_rows", "_law_tile_rows", defArgs s_law_tile_rows, defBody s_law_tile_rows, defScope s_law_tile_rows, [], []⟩
abbrev s_law_word : Stmt := topS 32
abbrev n_law_word : List Str := (["_law_e", "_law_told_here", "_law_words", "_law_some", "_law_k"] : List Str)
theorem sc_law_word : FnScope n_law_word (["_law_e"] : List Str) (defScope s_law_word) := ⟨rfl, rfl, rfl, by decide +kernel, rfl, by decide +kernel, by decide +kernel⟩
abbrev d_law_word : He.DefD := ⟨("_law_word", none), "_law_word", "_law_word", defArgs s_law_word, defBody s_law_word, defScope s_law_word, [], []⟩
abbrev s_law_text : Stmt := topS 33
abbrev n_law_text : List Str := (["_law_first", "_law_rows", "_law_line", "_law_number"] : List Str)
theorem sc_law_text : FnScope n_law_text (["_law_first", "_law_rows"] : List Str) (defScope s_law_text) := ⟨rfl, rfl, rfl, by decide +kernel, rfl, by decide +kernel, by decide +kernel⟩
abbrev d_law_text : He.DefD := ⟨("_law_text", none), "_law_text", "_law_text", defArgs s_law_text, defBody s_law_text, defScope s_law_text, [], []⟩
abbrev s_law_told : Stmt := topS 34
abbrev n_law_told : List Str := (["_law_which", "_law_text_here", "_law_told_here", "_law_e", "_law_word_here"] : List Str)
theorem sc_law_told : FnScope n_law_told (["_law_which", "_law_text_here"] : List Str) (defScope s_law_told) := ⟨rfl, rfl, rfl, by decide +kernel, rfl, by decide +kernel, by decide +kernel⟩
abbrev d_law_told : He.DefD := ⟨("_law_told", none), "_law_told", "_law_told", defArgs s_law_told, defBody s_law_told, defScope s_law_told, [], []⟩
abbrev s_law_bad : Stmt := topS 35
abbrev n_law_bad : List Str := (["_law_script", "_law_at", "_law_row", "_law_m", "_law_pieces", "_law_spot", "_law_piece", "_law_some"] : List Str)
theorem sc_law_bad : FnScope n_law_bad (["_law_script", "_law_at", "_law_row"] : List Str) (defScope s_law_bad) := ⟨rfl, rfl, rfl, by decide +kernel, rfl, by decide +kernel, by decide +kernel⟩
abbrev d_law_bad : He.DefD := ⟨("_law_bad", none), "_law_bad", "_law_bad", defArgs s_law_bad, defBody s_law_bad, defScope s_law_bad, [], []⟩
abbrev s_law_rows_bad : Stmt := topS 36
abbrev n_law_rows_bad : List Str := (["_law_script", "_law_at", "_law_which", "_law_rows", "_law_k", "_law_made", "_law_later"] : List Str)
theorem sc_law_rows_bad : FnScope n_law_rows_bad (["_law_script", "_law_at", "_law_which", "_law_rows"] : List Str) (defScope s_law_rows_bad) := ⟨rfl, rfl, rfl, by decide +kernel, rfl, by decide +kernel, by decide +kernel⟩
abbrev d_law_rows_bad : He.DefD := ⟨("_law_rows_bad", none), "_law_rows_bad", "_law_rows_bad", defArgs s_law_rows_bad, defBody s_law_rows_bad, defScope s_law_rows_bad, [], []⟩
abbrev s_law_rows_more : Stmt := topS 37
abbrev n_law_rows_more : List Str := (["_law_script", "_law_at", "_law_which", "_law_rows", "_law_m", "_law_text_here"] : List Str)
theorem sc_law_rows_more : FnScope n_law_rows_more (["_law_script", "_law_at", "_law_which", "_law_rows"] : List Str) (defScope s_law_rows_more) := ⟨rfl, rfl, rfl, by decide +kernel, rfl, by decide +kernel, by decide +kernel⟩
abbrev d_law_rows_more : He.DefD := ⟨("_law_rows_more", none), "_law_rows_more", "_law_rows_more", defArgs s_law_rows_more, defBody s_law_rows_more, defScope s_law_rows_more, [], []⟩
abbrev s_law_none : Stmt := topS 38
abbrev n_law_none : List Str := (["_law_script", "_law_at", "_law_which", "_law_count", "_law_table", "_law_m", "_law_made", "_law_k", "_law_j", "_law_first", "_law_text_here", "_law_line"] : List Str)
theorem sc_law_none : FnScope n_law_none (["_law_script", "_law_at", "_law_which", "_law_count", "_law_table"] : List Str) (defScope s_law_none) := ⟨rfl, rfl, rfl, by decide +kernel, rfl, by decide +kernel, by decide +kernel⟩
abbrev d_law_none : He.DefD := ⟨("_law_none", none), "_law_none", "_law_none", defArgs s_law_none, defBody s_law_none, defScope s_law_none, [], []⟩
abbrev s_law_one : Stmt := topS 39
abbrev n_law_one : List Str := (["_law_script", "_law_at", "_law_m", "_law_which", "_law_count", "_law_table", "_law_text_here", "_law_rows", "_law_turn", "_law_told_here", "_law_line"] : List Str)
theorem sc_law_one : FnScope n_law_one (["_law_script", "_law_at"] : List Str) (defScope s_law_one) := ⟨rfl, rfl, rfl, by decide +kernel, rfl, by decide +kernel, by decide +kernel⟩
abbrev d_law_one : He.DefD := ⟨("_law_one", none), "_law_one", "_law_one", defArgs s_law_one, defBody s_law_one, defScope s_law_one, [], []⟩
abbrev s_law : Stmt := topS 40
abbrev n_law : List Str := (["_law_script", "_law_at", "_law_turn"] : List Str)
theorem sc_law : FnScope n_law (["_law_script"] : List Str) (defScope s_law) := ⟨rfl, rfl, rfl, by decide +kernel, rfl, by decide +kernel, by decide +kernel⟩
abbrev d_law : He.DefD := ⟨("law", none), "law", "law", defArgs s_law, defBody s_law, defScope s_law, [], []⟩
def fns : List He.DefD := [d_NoText_init, d_rows_kept, d_Picture_init, d_Tile_init, d_is_number, d_numbers_from, d_rows_from, d_split_rows, d_read_picture, d_read_tile, d_read_numbers, d_law_next, d_law_same, d_law_most, d_law_tile_rows, d_law_word, d_law_text, d_law_told, d_law_bad, d_law_rows_bad, d_law_rows_more, d_law_none, d_law_one, d_law]
def fas : List He.Fa := [.free "len", .free "tuple", .exc "NoPicture", .glo "NoPicture", .exc "NoTile", .glo "NoTile", .int "MOST_FIGURES" 30, .str "FIGURES" "0123456789", .free "all", .free "int", .free "enumerate", .free "dict", .free "isinstance", .free "list", .free "zip", .free "str", .free "bool", .free "range", .glo "OutOfPicture", .glo "NoMeet", .glo "NoInks", .glo "NoShares", .glo "NoShade", .glo "NoStretches", .glo "NoWay", .glo "NoText", .free "ValueError", .glo "DotError", .glo "Picture", .glo "Tile", .free "min", .glo "rows_kept", .glo "is_number", .glo "numbers_from", .glo "rows_from", .glo "split_rows", .glo "read_picture", .glo "read_tile", .glo "read_numbers", .glo "_law_next", .glo "_law_same", .glo "_law_most", .glo "_law_tile_rows", .glo "_law_word", .glo "_law_text", .glo "_law_told", .glo "_law_bad", .glo "_law_rows_bad", .glo "_law_rows_more", .glo "_law_none", .glo "_law_one", .glo "law", .exc "DotError", .exc "OutOfPicture", .exc "NoMeet", .exc "NoInks", .exc "NoShares", .exc "NoShade", .exc "NoStretches", .exc "NoWay", .cls "Picture", .mkr "Picture", .noat "Picture" "most", .noat "Picture" "rows", .cls "Tile", .mkr "Tile", .noat "Tile" "count", .noat "Tile" "rows", .exm "NoPicture" "DotError" true, .exm "OutOfPicture" "DotError" true, .exm "NoMeet" "DotError" true, .exm "NoTile" "DotError" true, .exm "NoInks" "DotError" true, .exm "NoShares" "DotError" true, .exm "NoShade" "DotError" true, .exm "NoStretches" "DotError" true, .exm "NoWay" "DotError" true, .exm "NoText" "DotError" true]
def fbs : List Fb := [.isi "DotError" "NoInks" false, .isi "DotError" "NoMeet" false, .isi "DotError" "NoPicture" false, .isi "DotError" "NoShade" false, .isi "DotError" "NoShares" false, .isi "DotError" "NoStretches" false, .isi "DotError" "NoText" false, .isi "DotError" "NoTile" false, .isi "DotError" "NoWay" false, .isi "DotError" "OutOfPicture" false, .isb "DotError" "ValueError" true, .isb "DotError" "bool" false, .isb "DotError" "dict" false, .isb "DotError" "int" false, .isb "DotError" "list" false, .isb "DotError" "str" false, .isb "DotError" "tuple" false, .isi "NoPicture" "NoInks" false, .isi "NoPicture" "NoMeet" false, .isi "NoPicture" "NoPicture" true, .isi "NoPicture" "NoShade" false, .isi "NoPicture" "NoShares" false, .isi "NoPicture" "NoStretches" false, .isi "NoPicture" "NoText" false, .isi "NoPicture" "NoTile" false, .isi "NoPicture" "NoWay" false, .isi "NoPicture" "OutOfPicture" false, .isb "NoPicture" "ValueError" true, .isb "NoPicture" "bool" false, .isb "NoPicture" "dict" false, .isb "NoPicture" "int" false, .isb "NoPicture" "list" false, .isb "NoPicture" "str" false, .isb "NoPicture" "tuple" false, .isi "OutOfPicture" "NoInks" false, .isi "OutOfPicture" "NoMeet" false, .isi "OutOfPicture" "NoPicture" false, .isi "OutOfPicture" "NoShade" false, .isi "OutOfPicture" "NoShares" false, .isi "OutOfPicture" "NoStretches" false, .isi "OutOfPicture" "NoText" false, .isi "OutOfPicture" "NoTile" false, .isi "OutOfPicture" "NoWay" false, .isi "OutOfPicture" "OutOfPicture" true, .isb "OutOfPicture" "ValueError" true, .isb "OutOfPicture" "bool" false, .isb "OutOfPicture" "dict" false, .isb "OutOfPicture" "int" false, .isb "OutOfPicture" "list" false, .isb "OutOfPicture" "str" false, .isb "OutOfPicture" "tuple" false, .isi "NoMeet" "NoInks" false, .isi "NoMeet" "NoMeet" true, .isi "NoMeet" "NoPicture" false, .isi "NoMeet" "NoShade" false, .isi "NoMeet" "NoShares" false, .isi "NoMeet" "NoStretches" false, .isi "NoMeet" "NoText" false, .isi "NoMeet" "NoTile" false, .isi "NoMeet" "NoWay" false, .isi "NoMeet" "OutOfPicture" false, .isb "NoMeet" "ValueError" true, .isb "NoMeet" "bool" false, .isb "NoMeet" "dict" false, .isb "NoMeet" "int" false, .isb "NoMeet" "list" false, .isb "NoMeet" "str" false, .isb "NoMeet" "tuple" false, .isi "NoTile" "NoInks" false, .isi "NoTile" "NoMeet" false, .isi "NoTile" "NoPicture" false, .isi "NoTile" "NoShade" false, .isi "NoTile" "NoShares" false, .isi "NoTile" "NoStretches" false, .isi "NoTile" "NoText" false, .isi "NoTile" "NoTile" true, .isi "NoTile" "NoWay" false, .isi "NoTile" "OutOfPicture" false, .isb "NoTile" "ValueError" true, .isb "NoTile" "bool" false, .isb "NoTile" "dict" false, .isb "NoTile" "int" false, .isb "NoTile" "list" false, .isb "NoTile" "str" false, .isb "NoTile" "tuple" false, .isi "NoInks" "NoInks" true, .isi "NoInks" "NoMeet" false, .isi "NoInks" "NoPicture" false, .isi "NoInks" "NoShade" false, .isi "NoInks" "NoShares" false, .isi "NoInks" "NoStretches" false, .isi "NoInks" "NoText" false, .isi "NoInks" "NoTile" false, .isi "NoInks" "NoWay" false, .isi "NoInks" "OutOfPicture" false, .isb "NoInks" "ValueError" true, .isb "NoInks" "bool" false, .isb "NoInks" "dict" false, .isb "NoInks" "int" false, .isb "NoInks" "list" false, .isb "NoInks" "str" false, .isb "NoInks" "tuple" false, .isi "NoShares" "NoInks" false, .isi "NoShares" "NoMeet" false, .isi "NoShares" "NoPicture" false, .isi "NoShares" "NoShade" false, .isi "NoShares" "NoShares" true, .isi "NoShares" "NoStretches" false, .isi "NoShares" "NoText" false, .isi "NoShares" "NoTile" false, .isi "NoShares" "NoWay" false, .isi "NoShares" "OutOfPicture" false, .isb "NoShares" "ValueError" true, .isb "NoShares" "bool" false, .isb "NoShares" "dict" false, .isb "NoShares" "int" false, .isb "NoShares" "list" false, .isb "NoShares" "str" false, .isb "NoShares" "tuple" false, .isi "NoShade" "NoInks" false, .isi "NoShade" "NoMeet" false, .isi "NoShade" "NoPicture" false, .isi "NoShade" "NoShade" true, .isi "NoShade" "NoShares" false, .isi "NoShade" "NoStretches" false, .isi "NoShade" "NoText" false, .isi "NoShade" "NoTile" false, .isi "NoShade" "NoWay" false, .isi "NoShade" "OutOfPicture" false, .isb "NoShade" "ValueError" true, .isb "NoShade" "bool" false, .isb "NoShade" "dict" false, .isb "NoShade" "int" false, .isb "NoShade" "list" false, .isb "NoShade" "str" false, .isb "NoShade" "tuple" false, .isi "NoStretches" "NoInks" false, .isi "NoStretches" "NoMeet" false, .isi "NoStretches" "NoPicture" false, .isi "NoStretches" "NoShade" false, .isi "NoStretches" "NoShares" false, .isi "NoStretches" "NoStretches" true, .isi "NoStretches" "NoText" false, .isi "NoStretches" "NoTile" false, .isi "NoStretches" "NoWay" false, .isi "NoStretches" "OutOfPicture" false, .isb "NoStretches" "ValueError" true, .isb "NoStretches" "bool" false, .isb "NoStretches" "dict" false, .isb "NoStretches" "int" false, .isb "NoStretches" "list" false, .isb "NoStretches" "str" false, .isb "NoStretches" "tuple" false, .isi "NoWay" "NoInks" false, .isi "NoWay" "NoMeet" false, .isi "NoWay" "NoPicture" false, .isi "NoWay" "NoShade" false, .isi "NoWay" "NoShares" false, .isi "NoWay" "NoStretches" false, .isi "NoWay" "NoText" false, .isi "NoWay" "NoTile" false, .isi "NoWay" "NoWay" true, .isi "NoWay" "OutOfPicture" false, .isb "NoWay" "ValueError" true, .isb "NoWay" "bool" false, .isb "NoWay" "dict" false, .isb "NoWay" "int" false, .isb "NoWay" "list" false, .isb "NoWay" "str" false, .isb "NoWay" "tuple" false, .oex "NoText", .isi "NoText" "NoInks" false, .isi "NoText" "NoMeet" false, .isi "NoText" "NoPicture" false, .isi "NoText" "NoShade" false, .isi "NoText" "NoShares" false, .isi "NoText" "NoStretches" false, .isi "NoText" "NoText" true, .isi "NoText" "NoTile" false, .isi "NoText" "NoWay" false, .isi "NoText" "OutOfPicture" false, .isb "NoText" "ValueError" true, .isb "NoText" "bool" false, .isb "NoText" "dict" false, .isb "NoText" "int" false, .isb "NoText" "list" false, .isb "NoText" "str" false, .isb "NoText" "tuple" false, .ins "Picture", .isi "Picture" "Picture" true, .isi "Picture" "Tile" false, .isb "Picture" "bool" false, .isb "Picture" "dict" false, .isb "Picture" "int" false, .isb "Picture" "list" false, .isb "Picture" "str" false, .isb "Picture" "tuple" false, .ins "Tile", .isi "Tile" "Picture" false, .isi "Tile" "Tile" true, .isb "Tile" "bool" false, .isb "Tile" "dict" false, .isb "Tile" "int" false, .isb "Tile" "list" false, .isb "Tile" "str" false, .isb "Tile" "tuple" false, .exi "NoPicture", .exi "OutOfPicture", .exi "NoMeet", .exi "NoTile", .exi "NoInks", .exi "NoShares", .exi "NoShade", .exi "NoStretches", .exi "NoWay", .exi "NoText"]
abbrev TX (K : PySem.W.Frag) (mg : Str → Option Value) : Prop := FactsB fas fbs fns K mg
section
variable {K : PySem.W.Frag} {mg : Str → Option Value}
theorem tx_glo_NoPicture (T : TX K mg) : mg "NoPicture" = some (.ref (He.ga K "NoPicture")) := T.glo 3
theorem tx_glo_NoTile (T : TX K mg) : mg "NoTile" = some (.ref (He.ga K "NoTile")) := T.glo 5
theorem tx_glo_OutOfPicture (T : TX K mg) : mg "OutOfPicture" = some (.ref (He.ga K "OutOfPicture")) := T.glo 18
theorem tx_glo_NoMeet (T : TX K mg) : mg "NoMeet" = some (.ref (He.ga K "NoMeet")) := T.glo 19
theorem tx_glo_NoInks (T : TX K mg) : mg "NoInks" = some (.ref (He.ga K "NoInks")) := T.glo 20
theorem tx_glo_NoShares (T : TX K mg) : mg "NoShares" = some (.ref (He.ga K "NoShares")) := T.glo 21
theorem tx_glo_NoShade (T : TX K mg) : mg "NoShade" = some (.ref (He.ga K "NoShade")) := T.glo 22
theorem tx_glo_NoStretches (T : TX K mg) : mg "NoStretches" = some (.ref (He.ga K "NoStretches")) := T.glo 23
theorem tx_glo_NoWay (T : TX K mg) : mg "NoWay" = some (.ref (He.ga K "NoWay")) := T.glo 24
theorem tx_glo_NoText (T : TX K mg) : mg "NoText" = some (.ref (He.ga K "NoText")) := T.glo 25
theorem tx_glo_DotError (T : TX K mg) : mg "DotError" = some (.ref (He.ga K "DotError")) := T.glo 27
theorem tx_glo_Picture (T : TX K mg) : mg "Picture" = some (.ref (He.ga K "Picture")) := T.glo 28
theorem tx_glo_Tile (T : TX K mg) : mg "Tile" = some (.ref (He.ga K "Tile")) := T.glo 29
theorem tx_cls_Picture (T : TX K mg) : Cls K (He.ga K "Picture") := T.cls 60
theorem tx_noat_Picture_most (T : TX K mg) : NoAttr K (He.ga K "Picture") "most" := T.noat 62
theorem tx_noat_Picture_rows (T : TX K mg) : NoAttr K (He.ga K "Picture") "rows" := T.noat 63
theorem tx_cls_Tile (T : TX K mg) : Cls K (He.ga K "Tile") := T.cls 64
theorem tx_noat_Tile_count (T : TX K mg) : NoAttr K (He.ga K "Tile") "count" := T.noat 66
theorem tx_noat_Tile_rows (T : TX K mg) : NoAttr K (He.ga K "Tile") "rows" := T.noat 67
theorem tx_isi_DotError_NoInks (T : TX K mg) : PySem.W.kitOne K (.ref (He.ga K "DotError")) (.ref (He.ga K "NoInks")) = some false := T.isi 0
theorem tx_isi_DotError_NoMeet (T : TX K mg) : PySem.W.kitOne K (.ref (He.ga K "DotError")) (.ref (He.ga K "NoMeet")) = some false := T.isi 1
theorem tx_isi_DotError_NoPicture (T : TX K mg) : PySem.W.kitOne K (.ref (He.ga K "DotError")) (.ref (He.ga K "NoPicture")) = some false := T.isi 2
theorem tx_isi_DotError_NoShade (T : TX K mg) : PySem.W.kitOne K (.ref (He.ga K "DotError")) (.ref (He.ga K "NoShade")) = some false := T.isi 3
theorem tx_isi_DotError_NoShares (T : TX K mg) : PySem.W.kitOne K (.ref (He.ga K "DotError")) (.ref (He.ga K "NoShares")) = some false := T.isi 4
theorem tx_isi_DotError_NoStretches (T : TX K mg) : PySem.W.kitOne K (.ref (He.ga K "DotError")) (.ref (He.ga K "NoStretches")) = some false := T.isi 5
theorem tx_isi_DotError_NoText (T : TX K mg) : PySem.W.kitOne K (.ref (He.ga K "DotError")) (.ref (He.ga K "NoText")) = some false := T.isi 6
theorem tx_isi_DotError_NoTile (T : TX K mg) : PySem.W.kitOne K (.ref (He.ga K "DotError")) (.ref (He.ga K "NoTile")) = some false := T.isi 7
theorem tx_isi_DotError_NoWay (T : TX K mg) : PySem.W.kitOne K (.ref (He.ga K "DotError")) (.ref (He.ga K "NoWay")) = some false := T.isi 8
theorem tx_isi_DotError_OutOfPicture (T : TX K mg) : PySem.W.kitOne K (.ref (He.ga K "DotError")) (.ref (He.ga K "OutOfPicture")) = some false := T.isi 9
theorem tx_isb_DotError_ValueError (T : TX K mg) : PySem.W.kitOne K (.ref (He.ga K "DotError")) (.type "ValueError") = some true := T.isb 10
theorem tx_isb_DotError_bool (T : TX K mg) : PySem.W.kitOne K (.ref (He.ga K "DotError")) (.type "bool") = some false := T.isb 11
theorem tx_isb_DotError_dict (T : TX K mg) : PySem.W.kitOne K (.ref (He.ga K "DotError")) (.type "dict") = some false := T.isb 12
theorem tx_isb_DotError_int (T : TX K mg) : PySem.W.kitOne K (.ref (He.ga K "DotError")) (.type "int") = some false := T.isb 13
theorem tx_isb_DotError_list (T : TX K mg) : PySem.W.kitOne K (.ref (He.ga K "DotError")) (.type "list") = some false := T.isb 14
theorem tx_isb_DotError_str (T : TX K mg) : PySem.W.kitOne K (.ref (He.ga K "DotError")) (.type "str") = some false := T.isb 15
theorem tx_isb_DotError_tuple (T : TX K mg) : PySem.W.kitOne K (.ref (He.ga K "DotError")) (.type "tuple") = some false := T.isb 16
theorem tx_isi_NoPicture_NoInks (T : TX K mg) : PySem.W.kitOne K (.ref (He.ga K "NoPicture")) (.ref (He.ga K "NoInks")) = some false := T.isi 17
theorem tx_isi_NoPicture_NoMeet (T : TX K mg) : PySem.W.kitOne K (.ref (He.ga K "NoPicture")) (.ref (He.ga K "NoMeet")) = some false := T.isi 18
theorem tx_isi_NoPicture_NoPicture (T : TX K mg) : PySem.W.kitOne K (.ref (He.ga K "NoPicture")) (.ref (He.ga K "NoPicture")) = some true := T.isi 19
theorem tx_isi_NoPicture_NoShade (T : TX K mg) : PySem.W.kitOne K (.ref (He.ga K "NoPicture")) (.ref (He.ga K "NoShade")) = some false := T.isi 20
theorem tx_isi_NoPicture_NoShares (T : TX K mg) : PySem.W.kitOne K (.ref (He.ga K "NoPicture")) (.ref (He.ga K "NoShares")) = some false := T.isi 21
theorem tx_isi_NoPicture_NoStretches (T : TX K mg) : PySem.W.kitOne K (.ref (He.ga K "NoPicture")) (.ref (He.ga K "NoStretches")) = some false := T.isi 22
theorem tx_isi_NoPicture_NoText (T : TX K mg) : PySem.W.kitOne K (.ref (He.ga K "NoPicture")) (.ref (He.ga K "NoText")) = some false := T.isi 23
theorem tx_isi_NoPicture_NoTile (T : TX K mg) : PySem.W.kitOne K (.ref (He.ga K "NoPicture")) (.ref (He.ga K "NoTile")) = some false := T.isi 24
theorem tx_isi_NoPicture_NoWay (T : TX K mg) : PySem.W.kitOne K (.ref (He.ga K "NoPicture")) (.ref (He.ga K "NoWay")) = some false := T.isi 25
theorem tx_isi_NoPicture_OutOfPicture (T : TX K mg) : PySem.W.kitOne K (.ref (He.ga K "NoPicture")) (.ref (He.ga K "OutOfPicture")) = some false := T.isi 26
theorem tx_isb_NoPicture_ValueError (T : TX K mg) : PySem.W.kitOne K (.ref (He.ga K "NoPicture")) (.type "ValueError") = some true := T.isb 27
theorem tx_isb_NoPicture_bool (T : TX K mg) : PySem.W.kitOne K (.ref (He.ga K "NoPicture")) (.type "bool") = some false := T.isb 28
theorem tx_isb_NoPicture_dict (T : TX K mg) : PySem.W.kitOne K (.ref (He.ga K "NoPicture")) (.type "dict") = some false := T.isb 29
theorem tx_isb_NoPicture_int (T : TX K mg) : PySem.W.kitOne K (.ref (He.ga K "NoPicture")) (.type "int") = some false := T.isb 30
theorem tx_isb_NoPicture_list (T : TX K mg) : PySem.W.kitOne K (.ref (He.ga K "NoPicture")) (.type "list") = some false := T.isb 31
theorem tx_isb_NoPicture_str (T : TX K mg) : PySem.W.kitOne K (.ref (He.ga K "NoPicture")) (.type "str") = some false := T.isb 32
theorem tx_isb_NoPicture_tuple (T : TX K mg) : PySem.W.kitOne K (.ref (He.ga K "NoPicture")) (.type "tuple") = some false := T.isb 33
theorem tx_isi_OutOfPicture_NoInks (T : TX K mg) : PySem.W.kitOne K (.ref (He.ga K "OutOfPicture")) (.ref (He.ga K "NoInks")) = some false := T.isi 34
theorem tx_isi_OutOfPicture_NoMeet (T : TX K mg) : PySem.W.kitOne K (.ref (He.ga K "OutOfPicture")) (.ref (He.ga K "NoMeet")) = some false := T.isi 35
theorem tx_isi_OutOfPicture_NoPicture (T : TX K mg) : PySem.W.kitOne K (.ref (He.ga K "OutOfPicture")) (.ref (He.ga K "NoPicture")) = some false := T.isi 36
theorem tx_isi_OutOfPicture_NoShade (T : TX K mg) : PySem.W.kitOne K (.ref (He.ga K "OutOfPicture")) (.ref (He.ga K "NoShade")) = some false := T.isi 37
theorem tx_isi_OutOfPicture_NoShares (T : TX K mg) : PySem.W.kitOne K (.ref (He.ga K "OutOfPicture")) (.ref (He.ga K "NoShares")) = some false := T.isi 38
theorem tx_isi_OutOfPicture_NoStretches (T : TX K mg) : PySem.W.kitOne K (.ref (He.ga K "OutOfPicture")) (.ref (He.ga K "NoStretches")) = some false := T.isi 39
theorem tx_isi_OutOfPicture_NoText (T : TX K mg) : PySem.W.kitOne K (.ref (He.ga K "OutOfPicture")) (.ref (He.ga K "NoText")) = some false := T.isi 40
theorem tx_isi_OutOfPicture_NoTile (T : TX K mg) : PySem.W.kitOne K (.ref (He.ga K "OutOfPicture")) (.ref (He.ga K "NoTile")) = some false := T.isi 41
theorem tx_isi_OutOfPicture_NoWay (T : TX K mg) : PySem.W.kitOne K (.ref (He.ga K "OutOfPicture")) (.ref (He.ga K "NoWay")) = some false := T.isi 42
theorem tx_isi_OutOfPicture_OutOfPicture (T : TX K mg) : PySem.W.kitOne K (.ref (He.ga K "OutOfPicture")) (.ref (He.ga K "OutOfPicture")) = some true := T.isi 43
theorem tx_isb_OutOfPicture_ValueError (T : TX K mg) : PySem.W.kitOne K (.ref (He.ga K "OutOfPicture")) (.type "ValueError") = some true := T.isb 44
theorem tx_isb_OutOfPicture_bool (T : TX K mg) : PySem.W.kitOne K (.ref (He.ga K "OutOfPicture")) (.type "bool") = some false := T.isb 45
theorem tx_isb_OutOfPicture_dict (T : TX K mg) : PySem.W.kitOne K (.ref (He.ga K "OutOfPicture")) (.type "dict") = some false := T.isb 46
theorem tx_isb_OutOfPicture_int (T : TX K mg) : PySem.W.kitOne K (.ref (He.ga K "OutOfPicture")) (.type "int") = some false := T.isb 47
theorem tx_isb_OutOfPicture_list (T : TX K mg) : PySem.W.kitOne K (.ref (He.ga K "OutOfPicture")) (.type "list") = some false := T.isb 48
theorem tx_isb_OutOfPicture_str (T : TX K mg) : PySem.W.kitOne K (.ref (He.ga K "OutOfPicture")) (.type "str") = some false := T.isb 49
theorem tx_isb_OutOfPicture_tuple (T : TX K mg) : PySem.W.kitOne K (.ref (He.ga K "OutOfPicture")) (.type "tuple") = some false := T.isb 50
theorem tx_isi_NoMeet_NoInks (T : TX K mg) : PySem.W.kitOne K (.ref (He.ga K "NoMeet")) (.ref (He.ga K "NoInks")) = some false := T.isi 51
theorem tx_isi_NoMeet_NoMeet (T : TX K mg) : PySem.W.kitOne K (.ref (He.ga K "NoMeet")) (.ref (He.ga K "NoMeet")) = some true := T.isi 52
theorem tx_isi_NoMeet_NoPicture (T : TX K mg) : PySem.W.kitOne K (.ref (He.ga K "NoMeet")) (.ref (He.ga K "NoPicture")) = some false := T.isi 53
theorem tx_isi_NoMeet_NoShade (T : TX K mg) : PySem.W.kitOne K (.ref (He.ga K "NoMeet")) (.ref (He.ga K "NoShade")) = some false := T.isi 54
theorem tx_isi_NoMeet_NoShares (T : TX K mg) : PySem.W.kitOne K (.ref (He.ga K "NoMeet")) (.ref (He.ga K "NoShares")) = some false := T.isi 55
theorem tx_isi_NoMeet_NoStretches (T : TX K mg) : PySem.W.kitOne K (.ref (He.ga K "NoMeet")) (.ref (He.ga K "NoStretches")) = some false := T.isi 56
theorem tx_isi_NoMeet_NoText (T : TX K mg) : PySem.W.kitOne K (.ref (He.ga K "NoMeet")) (.ref (He.ga K "NoText")) = some false := T.isi 57
theorem tx_isi_NoMeet_NoTile (T : TX K mg) : PySem.W.kitOne K (.ref (He.ga K "NoMeet")) (.ref (He.ga K "NoTile")) = some false := T.isi 58
theorem tx_isi_NoMeet_NoWay (T : TX K mg) : PySem.W.kitOne K (.ref (He.ga K "NoMeet")) (.ref (He.ga K "NoWay")) = some false := T.isi 59
theorem tx_isi_NoMeet_OutOfPicture (T : TX K mg) : PySem.W.kitOne K (.ref (He.ga K "NoMeet")) (.ref (He.ga K "OutOfPicture")) = some false := T.isi 60
theorem tx_isb_NoMeet_ValueError (T : TX K mg) : PySem.W.kitOne K (.ref (He.ga K "NoMeet")) (.type "ValueError") = some true := T.isb 61
theorem tx_isb_NoMeet_bool (T : TX K mg) : PySem.W.kitOne K (.ref (He.ga K "NoMeet")) (.type "bool") = some false := T.isb 62
theorem tx_isb_NoMeet_dict (T : TX K mg) : PySem.W.kitOne K (.ref (He.ga K "NoMeet")) (.type "dict") = some false := T.isb 63
theorem tx_isb_NoMeet_int (T : TX K mg) : PySem.W.kitOne K (.ref (He.ga K "NoMeet")) (.type "int") = some false := T.isb 64
theorem tx_isb_NoMeet_list (T : TX K mg) : PySem.W.kitOne K (.ref (He.ga K "NoMeet")) (.type "list") = some false := T.isb 65
theorem tx_isb_NoMeet_str (T : TX K mg) : PySem.W.kitOne K (.ref (He.ga K "NoMeet")) (.type "str") = some false := T.isb 66
theorem tx_isb_NoMeet_tuple (T : TX K mg) : PySem.W.kitOne K (.ref (He.ga K "NoMeet")) (.type "tuple") = some false := T.isb 67
theorem tx_isi_NoTile_NoInks (T : TX K mg) : PySem.W.kitOne K (.ref (He.ga K "NoTile")) (.ref (He.ga K "NoInks")) = some false := T.isi 68
theorem tx_isi_NoTile_NoMeet (T : TX K mg) : PySem.W.kitOne K (.ref (He.ga K "NoTile")) (.ref (He.ga K "NoMeet")) = some false := T.isi 69
theorem tx_isi_NoTile_NoPicture (T : TX K mg) : PySem.W.kitOne K (.ref (He.ga K "NoTile")) (.ref (He.ga K "NoPicture")) = some false := T.isi 70
theorem tx_isi_NoTile_NoShade (T : TX K mg) : PySem.W.kitOne K (.ref (He.ga K "NoTile")) (.ref (He.ga K "NoShade")) = some false := T.isi 71
theorem tx_isi_NoTile_NoShares (T : TX K mg) : PySem.W.kitOne K (.ref (He.ga K "NoTile")) (.ref (He.ga K "NoShares")) = some false := T.isi 72
theorem tx_isi_NoTile_NoStretches (T : TX K mg) : PySem.W.kitOne K (.ref (He.ga K "NoTile")) (.ref (He.ga K "NoStretches")) = some false := T.isi 73
theorem tx_isi_NoTile_NoText (T : TX K mg) : PySem.W.kitOne K (.ref (He.ga K "NoTile")) (.ref (He.ga K "NoText")) = some false := T.isi 74
theorem tx_isi_NoTile_NoTile (T : TX K mg) : PySem.W.kitOne K (.ref (He.ga K "NoTile")) (.ref (He.ga K "NoTile")) = some true := T.isi 75
theorem tx_isi_NoTile_NoWay (T : TX K mg) : PySem.W.kitOne K (.ref (He.ga K "NoTile")) (.ref (He.ga K "NoWay")) = some false := T.isi 76
theorem tx_isi_NoTile_OutOfPicture (T : TX K mg) : PySem.W.kitOne K (.ref (He.ga K "NoTile")) (.ref (He.ga K "OutOfPicture")) = some false := T.isi 77
theorem tx_isb_NoTile_ValueError (T : TX K mg) : PySem.W.kitOne K (.ref (He.ga K "NoTile")) (.type "ValueError") = some true := T.isb 78
theorem tx_isb_NoTile_bool (T : TX K mg) : PySem.W.kitOne K (.ref (He.ga K "NoTile")) (.type "bool") = some false := T.isb 79
theorem tx_isb_NoTile_dict (T : TX K mg) : PySem.W.kitOne K (.ref (He.ga K "NoTile")) (.type "dict") = some false := T.isb 80
theorem tx_isb_NoTile_int (T : TX K mg) : PySem.W.kitOne K (.ref (He.ga K "NoTile")) (.type "int") = some false := T.isb 81
theorem tx_isb_NoTile_list (T : TX K mg) : PySem.W.kitOne K (.ref (He.ga K "NoTile")) (.type "list") = some false := T.isb 82
theorem tx_isb_NoTile_str (T : TX K mg) : PySem.W.kitOne K (.ref (He.ga K "NoTile")) (.type "str") = some false := T.isb 83
theorem tx_isb_NoTile_tuple (T : TX K mg) : PySem.W.kitOne K (.ref (He.ga K "NoTile")) (.type "tuple") = some false := T.isb 84
theorem tx_isi_NoInks_NoInks (T : TX K mg) : PySem.W.kitOne K (.ref (He.ga K "NoInks")) (.ref (He.ga K "NoInks")) = some true := T.isi 85
theorem tx_isi_NoInks_NoMeet (T : TX K mg) : PySem.W.kitOne K (.ref (He.ga K "NoInks")) (.ref (He.ga K "NoMeet")) = some false := T.isi 86
theorem tx_isi_NoInks_NoPicture (T : TX K mg) : PySem.W.kitOne K (.ref (He.ga K "NoInks")) (.ref (He.ga K "NoPicture")) = some false := T.isi 87
theorem tx_isi_NoInks_NoShade (T : TX K mg) : PySem.W.kitOne K (.ref (He.ga K "NoInks")) (.ref (He.ga K "NoShade")) = some false := T.isi 88
theorem tx_isi_NoInks_NoShares (T : TX K mg) : PySem.W.kitOne K (.ref (He.ga K "NoInks")) (.ref (He.ga K "NoShares")) = some false := T.isi 89
theorem tx_isi_NoInks_NoStretches (T : TX K mg) : PySem.W.kitOne K (.ref (He.ga K "NoInks")) (.ref (He.ga K "NoStretches")) = some false := T.isi 90
theorem tx_isi_NoInks_NoText (T : TX K mg) : PySem.W.kitOne K (.ref (He.ga K "NoInks")) (.ref (He.ga K "NoText")) = some false := T.isi 91
theorem tx_isi_NoInks_NoTile (T : TX K mg) : PySem.W.kitOne K (.ref (He.ga K "NoInks")) (.ref (He.ga K "NoTile")) = some false := T.isi 92
theorem tx_isi_NoInks_NoWay (T : TX K mg) : PySem.W.kitOne K (.ref (He.ga K "NoInks")) (.ref (He.ga K "NoWay")) = some false := T.isi 93
theorem tx_isi_NoInks_OutOfPicture (T : TX K mg) : PySem.W.kitOne K (.ref (He.ga K "NoInks")) (.ref (He.ga K "OutOfPicture")) = some false := T.isi 94
theorem tx_isb_NoInks_ValueError (T : TX K mg) : PySem.W.kitOne K (.ref (He.ga K "NoInks")) (.type "ValueError") = some true := T.isb 95
theorem tx_isb_NoInks_bool (T : TX K mg) : PySem.W.kitOne K (.ref (He.ga K "NoInks")) (.type "bool") = some false := T.isb 96
theorem tx_isb_NoInks_dict (T : TX K mg) : PySem.W.kitOne K (.ref (He.ga K "NoInks")) (.type "dict") = some false := T.isb 97
theorem tx_isb_NoInks_int (T : TX K mg) : PySem.W.kitOne K (.ref (He.ga K "NoInks")) (.type "int") = some false := T.isb 98
theorem tx_isb_NoInks_list (T : TX K mg) : PySem.W.kitOne K (.ref (He.ga K "NoInks")) (.type "list") = some false := T.isb 99
theorem tx_isb_NoInks_str (T : TX K mg) : PySem.W.kitOne K (.ref (He.ga K "NoInks")) (.type "str") = some false := T.isb 100
theorem tx_isb_NoInks_tuple (T : TX K mg) : PySem.W.kitOne K (.ref (He.ga K "NoInks")) (.type "tuple") = some false := T.isb 101
theorem tx_isi_NoShares_NoInks (T : TX K mg) : PySem.W.kitOne K (.ref (He.ga K "NoShares")) (.ref (He.ga K "NoInks")) = some false := T.isi 102
theorem tx_isi_NoShares_NoMeet (T : TX K mg) : PySem.W.kitOne K (.ref (He.ga K "NoShares")) (.ref (He.ga K "NoMeet")) = some false := T.isi 103
theorem tx_isi_NoShares_NoPicture (T : TX K mg) : PySem.W.kitOne K (.ref (He.ga K "NoShares")) (.ref (He.ga K "NoPicture")) = some false := T.isi 104
theorem tx_isi_NoShares_NoShade (T : TX K mg) : PySem.W.kitOne K (.ref (He.ga K "NoShares")) (.ref (He.ga K "NoShade")) = some false := T.isi 105
theorem tx_isi_NoShares_NoShares (T : TX K mg) : PySem.W.kitOne K (.ref (He.ga K "NoShares")) (.ref (He.ga K "NoShares")) = some true := T.isi 106
theorem tx_isi_NoShares_NoStretches (T : TX K mg) : PySem.W.kitOne K (.ref (He.ga K "NoShares")) (.ref (He.ga K "NoStretches")) = some false := T.isi 107
theorem tx_isi_NoShares_NoText (T : TX K mg) : PySem.W.kitOne K (.ref (He.ga K "NoShares")) (.ref (He.ga K "NoText")) = some false := T.isi 108
theorem tx_isi_NoShares_NoTile (T : TX K mg) : PySem.W.kitOne K (.ref (He.ga K "NoShares")) (.ref (He.ga K "NoTile")) = some false := T.isi 109
theorem tx_isi_NoShares_NoWay (T : TX K mg) : PySem.W.kitOne K (.ref (He.ga K "NoShares")) (.ref (He.ga K "NoWay")) = some false := T.isi 110
theorem tx_isi_NoShares_OutOfPicture (T : TX K mg) : PySem.W.kitOne K (.ref (He.ga K "NoShares")) (.ref (He.ga K "OutOfPicture")) = some false := T.isi 111
theorem tx_isb_NoShares_ValueError (T : TX K mg) : PySem.W.kitOne K (.ref (He.ga K "NoShares")) (.type "ValueError") = some true := T.isb 112
theorem tx_isb_NoShares_bool (T : TX K mg) : PySem.W.kitOne K (.ref (He.ga K "NoShares")) (.type "bool") = some false := T.isb 113
theorem tx_isb_NoShares_dict (T : TX K mg) : PySem.W.kitOne K (.ref (He.ga K "NoShares")) (.type "dict") = some false := T.isb 114
theorem tx_isb_NoShares_int (T : TX K mg) : PySem.W.kitOne K (.ref (He.ga K "NoShares")) (.type "int") = some false := T.isb 115
theorem tx_isb_NoShares_list (T : TX K mg) : PySem.W.kitOne K (.ref (He.ga K "NoShares")) (.type "list") = some false := T.isb 116
theorem tx_isb_NoShares_str (T : TX K mg) : PySem.W.kitOne K (.ref (He.ga K "NoShares")) (.type "str") = some false := T.isb 117
theorem tx_isb_NoShares_tuple (T : TX K mg) : PySem.W.kitOne K (.ref (He.ga K "NoShares")) (.type "tuple") = some false := T.isb 118
theorem tx_isi_NoShade_NoInks (T : TX K mg) : PySem.W.kitOne K (.ref (He.ga K "NoShade")) (.ref (He.ga K "NoInks")) = some false := T.isi 119
theorem tx_isi_NoShade_NoMeet (T : TX K mg) : PySem.W.kitOne K (.ref (He.ga K "NoShade")) (.ref (He.ga K "NoMeet")) = some false := T.isi 120
theorem tx_isi_NoShade_NoPicture (T : TX K mg) : PySem.W.kitOne K (.ref (He.ga K "NoShade")) (.ref (He.ga K "NoPicture")) = some false := T.isi 121
theorem tx_isi_NoShade_NoShade (T : TX K mg) : PySem.W.kitOne K (.ref (He.ga K "NoShade")) (.ref (He.ga K "NoShade")) = some true := T.isi 122
theorem tx_isi_NoShade_NoShares (T : TX K mg) : PySem.W.kitOne K (.ref (He.ga K "NoShade")) (.ref (He.ga K "NoShares")) = some false := T.isi 123
theorem tx_isi_NoShade_NoStretches (T : TX K mg) : PySem.W.kitOne K (.ref (He.ga K "NoShade")) (.ref (He.ga K "NoStretches")) = some false := T.isi 124
theorem tx_isi_NoShade_NoText (T : TX K mg) : PySem.W.kitOne K (.ref (He.ga K "NoShade")) (.ref (He.ga K "NoText")) = some false := T.isi 125
theorem tx_isi_NoShade_NoTile (T : TX K mg) : PySem.W.kitOne K (.ref (He.ga K "NoShade")) (.ref (He.ga K "NoTile")) = some false := T.isi 126
theorem tx_isi_NoShade_NoWay (T : TX K mg) : PySem.W.kitOne K (.ref (He.ga K "NoShade")) (.ref (He.ga K "NoWay")) = some false := T.isi 127
theorem tx_isi_NoShade_OutOfPicture (T : TX K mg) : PySem.W.kitOne K (.ref (He.ga K "NoShade")) (.ref (He.ga K "OutOfPicture")) = some false := T.isi 128
theorem tx_isb_NoShade_ValueError (T : TX K mg) : PySem.W.kitOne K (.ref (He.ga K "NoShade")) (.type "ValueError") = some true := T.isb 129
theorem tx_isb_NoShade_bool (T : TX K mg) : PySem.W.kitOne K (.ref (He.ga K "NoShade")) (.type "bool") = some false := T.isb 130
theorem tx_isb_NoShade_dict (T : TX K mg) : PySem.W.kitOne K (.ref (He.ga K "NoShade")) (.type "dict") = some false := T.isb 131
theorem tx_isb_NoShade_int (T : TX K mg) : PySem.W.kitOne K (.ref (He.ga K "NoShade")) (.type "int") = some false := T.isb 132
theorem tx_isb_NoShade_list (T : TX K mg) : PySem.W.kitOne K (.ref (He.ga K "NoShade")) (.type "list") = some false := T.isb 133
theorem tx_isb_NoShade_str (T : TX K mg) : PySem.W.kitOne K (.ref (He.ga K "NoShade")) (.type "str") = some false := T.isb 134
theorem tx_isb_NoShade_tuple (T : TX K mg) : PySem.W.kitOne K (.ref (He.ga K "NoShade")) (.type "tuple") = some false := T.isb 135
theorem tx_isi_NoStretches_NoInks (T : TX K mg) : PySem.W.kitOne K (.ref (He.ga K "NoStretches")) (.ref (He.ga K "NoInks")) = some false := T.isi 136
theorem tx_isi_NoStretches_NoMeet (T : TX K mg) : PySem.W.kitOne K (.ref (He.ga K "NoStretches")) (.ref (He.ga K "NoMeet")) = some false := T.isi 137
theorem tx_isi_NoStretches_NoPicture (T : TX K mg) : PySem.W.kitOne K (.ref (He.ga K "NoStretches")) (.ref (He.ga K "NoPicture")) = some false := T.isi 138
theorem tx_isi_NoStretches_NoShade (T : TX K mg) : PySem.W.kitOne K (.ref (He.ga K "NoStretches")) (.ref (He.ga K "NoShade")) = some false := T.isi 139
theorem tx_isi_NoStretches_NoShares (T : TX K mg) : PySem.W.kitOne K (.ref (He.ga K "NoStretches")) (.ref (He.ga K "NoShares")) = some false := T.isi 140
theorem tx_isi_NoStretches_NoStretches (T : TX K mg) : PySem.W.kitOne K (.ref (He.ga K "NoStretches")) (.ref (He.ga K "NoStretches")) = some true := T.isi 141
theorem tx_isi_NoStretches_NoText (T : TX K mg) : PySem.W.kitOne K (.ref (He.ga K "NoStretches")) (.ref (He.ga K "NoText")) = some false := T.isi 142
theorem tx_isi_NoStretches_NoTile (T : TX K mg) : PySem.W.kitOne K (.ref (He.ga K "NoStretches")) (.ref (He.ga K "NoTile")) = some false := T.isi 143
theorem tx_isi_NoStretches_NoWay (T : TX K mg) : PySem.W.kitOne K (.ref (He.ga K "NoStretches")) (.ref (He.ga K "NoWay")) = some false := T.isi 144
theorem tx_isi_NoStretches_OutOfPicture (T : TX K mg) : PySem.W.kitOne K (.ref (He.ga K "NoStretches")) (.ref (He.ga K "OutOfPicture")) = some false := T.isi 145
theorem tx_isb_NoStretches_ValueError (T : TX K mg) : PySem.W.kitOne K (.ref (He.ga K "NoStretches")) (.type "ValueError") = some true := T.isb 146
theorem tx_isb_NoStretches_bool (T : TX K mg) : PySem.W.kitOne K (.ref (He.ga K "NoStretches")) (.type "bool") = some false := T.isb 147
theorem tx_isb_NoStretches_dict (T : TX K mg) : PySem.W.kitOne K (.ref (He.ga K "NoStretches")) (.type "dict") = some false := T.isb 148
theorem tx_isb_NoStretches_int (T : TX K mg) : PySem.W.kitOne K (.ref (He.ga K "NoStretches")) (.type "int") = some false := T.isb 149
theorem tx_isb_NoStretches_list (T : TX K mg) : PySem.W.kitOne K (.ref (He.ga K "NoStretches")) (.type "list") = some false := T.isb 150
theorem tx_isb_NoStretches_str (T : TX K mg) : PySem.W.kitOne K (.ref (He.ga K "NoStretches")) (.type "str") = some false := T.isb 151
theorem tx_isb_NoStretches_tuple (T : TX K mg) : PySem.W.kitOne K (.ref (He.ga K "NoStretches")) (.type "tuple") = some false := T.isb 152
theorem tx_isi_NoWay_NoInks (T : TX K mg) : PySem.W.kitOne K (.ref (He.ga K "NoWay")) (.ref (He.ga K "NoInks")) = some false := T.isi 153
theorem tx_isi_NoWay_NoMeet (T : TX K mg) : PySem.W.kitOne K (.ref (He.ga K "NoWay")) (.ref (He.ga K "NoMeet")) = some false := T.isi 154
theorem tx_isi_NoWay_NoPicture (T : TX K mg) : PySem.W.kitOne K (.ref (He.ga K "NoWay")) (.ref (He.ga K "NoPicture")) = some false := T.isi 155
theorem tx_isi_NoWay_NoShade (T : TX K mg) : PySem.W.kitOne K (.ref (He.ga K "NoWay")) (.ref (He.ga K "NoShade")) = some false := T.isi 156
theorem tx_isi_NoWay_NoShares (T : TX K mg) : PySem.W.kitOne K (.ref (He.ga K "NoWay")) (.ref (He.ga K "NoShares")) = some false := T.isi 157
theorem tx_isi_NoWay_NoStretches (T : TX K mg) : PySem.W.kitOne K (.ref (He.ga K "NoWay")) (.ref (He.ga K "NoStretches")) = some false := T.isi 158
theorem tx_isi_NoWay_NoText (T : TX K mg) : PySem.W.kitOne K (.ref (He.ga K "NoWay")) (.ref (He.ga K "NoText")) = some false := T.isi 159
theorem tx_isi_NoWay_NoTile (T : TX K mg) : PySem.W.kitOne K (.ref (He.ga K "NoWay")) (.ref (He.ga K "NoTile")) = some false := T.isi 160
theorem tx_isi_NoWay_NoWay (T : TX K mg) : PySem.W.kitOne K (.ref (He.ga K "NoWay")) (.ref (He.ga K "NoWay")) = some true := T.isi 161
theorem tx_isi_NoWay_OutOfPicture (T : TX K mg) : PySem.W.kitOne K (.ref (He.ga K "NoWay")) (.ref (He.ga K "OutOfPicture")) = some false := T.isi 162
theorem tx_isb_NoWay_ValueError (T : TX K mg) : PySem.W.kitOne K (.ref (He.ga K "NoWay")) (.type "ValueError") = some true := T.isb 163
theorem tx_isb_NoWay_bool (T : TX K mg) : PySem.W.kitOne K (.ref (He.ga K "NoWay")) (.type "bool") = some false := T.isb 164
theorem tx_isb_NoWay_dict (T : TX K mg) : PySem.W.kitOne K (.ref (He.ga K "NoWay")) (.type "dict") = some false := T.isb 165
theorem tx_isb_NoWay_int (T : TX K mg) : PySem.W.kitOne K (.ref (He.ga K "NoWay")) (.type "int") = some false := T.isb 166
theorem tx_isb_NoWay_list (T : TX K mg) : PySem.W.kitOne K (.ref (He.ga K "NoWay")) (.type "list") = some false := T.isb 167
theorem tx_isb_NoWay_str (T : TX K mg) : PySem.W.kitOne K (.ref (He.ga K "NoWay")) (.type "str") = some false := T.isb 168
theorem tx_isb_NoWay_tuple (T : TX K mg) : PySem.W.kitOne K (.ref (He.ga K "NoWay")) (.type "tuple") = some false := T.isb 169
theorem tx_oex_NoText (T : TX K mg) : OexI K (He.ga K "NoText") (He.ma K (He.ga K "NoText") "__init__") := T.oex 170
theorem tx_isi_NoText_NoInks (T : TX K mg) : PySem.W.kitOne K (.ref (He.ga K "NoText")) (.ref (He.ga K "NoInks")) = some false := T.isi 171
theorem tx_isi_NoText_NoMeet (T : TX K mg) : PySem.W.kitOne K (.ref (He.ga K "NoText")) (.ref (He.ga K "NoMeet")) = some false := T.isi 172
theorem tx_isi_NoText_NoPicture (T : TX K mg) : PySem.W.kitOne K (.ref (He.ga K "NoText")) (.ref (He.ga K "NoPicture")) = some false := T.isi 173
theorem tx_isi_NoText_NoShade (T : TX K mg) : PySem.W.kitOne K (.ref (He.ga K "NoText")) (.ref (He.ga K "NoShade")) = some false := T.isi 174
theorem tx_isi_NoText_NoShares (T : TX K mg) : PySem.W.kitOne K (.ref (He.ga K "NoText")) (.ref (He.ga K "NoShares")) = some false := T.isi 175
theorem tx_isi_NoText_NoStretches (T : TX K mg) : PySem.W.kitOne K (.ref (He.ga K "NoText")) (.ref (He.ga K "NoStretches")) = some false := T.isi 176
theorem tx_isi_NoText_NoText (T : TX K mg) : PySem.W.kitOne K (.ref (He.ga K "NoText")) (.ref (He.ga K "NoText")) = some true := T.isi 177
theorem tx_isi_NoText_NoTile (T : TX K mg) : PySem.W.kitOne K (.ref (He.ga K "NoText")) (.ref (He.ga K "NoTile")) = some false := T.isi 178
theorem tx_isi_NoText_NoWay (T : TX K mg) : PySem.W.kitOne K (.ref (He.ga K "NoText")) (.ref (He.ga K "NoWay")) = some false := T.isi 179
theorem tx_isi_NoText_OutOfPicture (T : TX K mg) : PySem.W.kitOne K (.ref (He.ga K "NoText")) (.ref (He.ga K "OutOfPicture")) = some false := T.isi 180
theorem tx_isb_NoText_ValueError (T : TX K mg) : PySem.W.kitOne K (.ref (He.ga K "NoText")) (.type "ValueError") = some true := T.isb 181
theorem tx_isb_NoText_bool (T : TX K mg) : PySem.W.kitOne K (.ref (He.ga K "NoText")) (.type "bool") = some false := T.isb 182
theorem tx_isb_NoText_dict (T : TX K mg) : PySem.W.kitOne K (.ref (He.ga K "NoText")) (.type "dict") = some false := T.isb 183
theorem tx_isb_NoText_int (T : TX K mg) : PySem.W.kitOne K (.ref (He.ga K "NoText")) (.type "int") = some false := T.isb 184
theorem tx_isb_NoText_list (T : TX K mg) : PySem.W.kitOne K (.ref (He.ga K "NoText")) (.type "list") = some false := T.isb 185
theorem tx_isb_NoText_str (T : TX K mg) : PySem.W.kitOne K (.ref (He.ga K "NoText")) (.type "str") = some false := T.isb 186
theorem tx_isb_NoText_tuple (T : TX K mg) : PySem.W.kitOne K (.ref (He.ga K "NoText")) (.type "tuple") = some false := T.isb 187
theorem tx_ins_Picture (T : TX K mg) : InsC K (He.ga K "Picture") := T.ins 188
theorem tx_isi_Picture_Picture (T : TX K mg) : PySem.W.kitOne K (.ref (He.ga K "Picture")) (.ref (He.ga K "Picture")) = some true := T.isi 189
theorem tx_isi_Picture_Tile (T : TX K mg) : PySem.W.kitOne K (.ref (He.ga K "Picture")) (.ref (He.ga K "Tile")) = some false := T.isi 190
theorem tx_isb_Picture_bool (T : TX K mg) : PySem.W.kitOne K (.ref (He.ga K "Picture")) (.type "bool") = some false := T.isb 191
theorem tx_isb_Picture_dict (T : TX K mg) : PySem.W.kitOne K (.ref (He.ga K "Picture")) (.type "dict") = some false := T.isb 192
theorem tx_isb_Picture_int (T : TX K mg) : PySem.W.kitOne K (.ref (He.ga K "Picture")) (.type "int") = some false := T.isb 193
theorem tx_isb_Picture_list (T : TX K mg) : PySem.W.kitOne K (.ref (He.ga K "Picture")) (.type "list") = some false := T.isb 194
theorem tx_isb_Picture_str (T : TX K mg) : PySem.W.kitOne K (.ref (He.ga K "Picture")) (.type "str") = some false := T.isb 195
theorem tx_isb_Picture_tuple (T : TX K mg) : PySem.W.kitOne K (.ref (He.ga K "Picture")) (.type "tuple") = some false := T.isb 196
theorem tx_ins_Tile (T : TX K mg) : InsC K (He.ga K "Tile") := T.ins 197
theorem tx_isi_Tile_Picture (T : TX K mg) : PySem.W.kitOne K (.ref (He.ga K "Tile")) (.ref (He.ga K "Picture")) = some false := T.isi 198
theorem tx_isi_Tile_Tile (T : TX K mg) : PySem.W.kitOne K (.ref (He.ga K "Tile")) (.ref (He.ga K "Tile")) = some true := T.isi 199
theorem tx_isb_Tile_bool (T : TX K mg) : PySem.W.kitOne K (.ref (He.ga K "Tile")) (.type "bool") = some false := T.isb 200
theorem tx_isb_Tile_dict (T : TX K mg) : PySem.W.kitOne K (.ref (He.ga K "Tile")) (.type "dict") = some false := T.isb 201
theorem tx_isb_Tile_int (T : TX K mg) : PySem.W.kitOne K (.ref (He.ga K "Tile")) (.type "int") = some false := T.isb 202
theorem tx_isb_Tile_list (T : TX K mg) : PySem.W.kitOne K (.ref (He.ga K "Tile")) (.type "list") = some false := T.isb 203
theorem tx_isb_Tile_str (T : TX K mg) : PySem.W.kitOne K (.ref (He.ga K "Tile")) (.type "str") = some false := T.isb 204
theorem tx_isb_Tile_tuple (T : TX K mg) : PySem.W.kitOne K (.ref (He.ga K "Tile")) (.type "tuple") = some false := T.isb 205
theorem tx_exi (T : TX K mg) : ∀ c : Xc, ExcC K (He.ga K c.nm)
  | .picture => T.exi 206 (x := "NoPicture")
  | .out => T.exi 207 (x := "OutOfPicture")
  | .meet => T.exi 208 (x := "NoMeet")
  | .tile => T.exi 209 (x := "NoTile")
  | .inks => T.exi 210 (x := "NoInks")
  | .shares => T.exi 211 (x := "NoShares")
  | .shade => T.exi 212 (x := "NoShade")
  | .stretches => T.exi 213 (x := "NoStretches")
  | .way => T.exi 214 (x := "NoWay")
  | .text => T.exi 215 (x := "NoText")
theorem tx_exm_DotError (T : TX K mg) : ∀ c : Xc, PySem.W.exmOne K (.ref (He.ga K c.nm)) (.ref (He.ga K "DotError")) = some true
  | .picture => T.exm 68 (x := "NoPicture")
  | .out => T.exm 69 (x := "OutOfPicture")
  | .meet => T.exm 70 (x := "NoMeet")
  | .tile => T.exm 71 (x := "NoTile")
  | .inks => T.exm 72 (x := "NoInks")
  | .shares => T.exm 73 (x := "NoShares")
  | .shade => T.exm 74 (x := "NoShade")
  | .stretches => T.exm 75 (x := "NoStretches")
  | .way => T.exm 76 (x := "NoWay")
  | .text => T.exm 77 (x := "NoText")
theorem tx_isx_NoInks (T : TX K mg) : ∀ c : Xc, PySem.W.kitOne K (.ref (He.ga K c.nm)) (.ref (He.ga K "NoInks")) = some (decide (c = .inks))
  | .picture => T.isi 17 (x := "NoPicture") (b := false)
  | .out => T.isi 34 (x := "OutOfPicture") (b := false)
  | .meet => T.isi 51 (x := "NoMeet") (b := false)
  | .tile => T.isi 68 (x := "NoTile") (b := false)
  | .inks => T.isi 85 (x := "NoInks") (b := true)
  | .shares => T.isi 102 (x := "NoShares") (b := false)
  | .shade => T.isi 119 (x := "NoShade") (b := false)
  | .stretches => T.isi 136 (x := "NoStretches") (b := false)
  | .way => T.isi 153 (x := "NoWay") (b := false)
  | .text => T.isi 171 (x := "NoText") (b := false)
theorem tx_isx_NoMeet (T : TX K mg) : ∀ c : Xc, PySem.W.kitOne K (.ref (He.ga K c.nm)) (.ref (He.ga K "NoMeet")) = some (decide (c = .meet))
  | .picture => T.isi 18 (x := "NoPicture") (b := false)
  | .out => T.isi 35 (x := "OutOfPicture") (b := false)
  | .meet => T.isi 52 (x := "NoMeet") (b := true)
  | .tile => T.isi 69 (x := "NoTile") (b := false)
  | .inks => T.isi 86 (x := "NoInks") (b := false)
  | .shares => T.isi 103 (x := "NoShares") (b := false)
  | .shade => T.isi 120 (x := "NoShade") (b := false)
  | .stretches => T.isi 137 (x := "NoStretches") (b := false)
  | .way => T.isi 154 (x := "NoWay") (b := false)
  | .text => T.isi 172 (x := "NoText") (b := false)
theorem tx_isx_NoPicture (T : TX K mg) : ∀ c : Xc, PySem.W.kitOne K (.ref (He.ga K c.nm)) (.ref (He.ga K "NoPicture")) = some (decide (c = .picture))
  | .picture => T.isi 19 (x := "NoPicture") (b := true)
  | .out => T.isi 36 (x := "OutOfPicture") (b := false)
  | .meet => T.isi 53 (x := "NoMeet") (b := false)
  | .tile => T.isi 70 (x := "NoTile") (b := false)
  | .inks => T.isi 87 (x := "NoInks") (b := false)
  | .shares => T.isi 104 (x := "NoShares") (b := false)
  | .shade => T.isi 121 (x := "NoShade") (b := false)
  | .stretches => T.isi 138 (x := "NoStretches") (b := false)
  | .way => T.isi 155 (x := "NoWay") (b := false)
  | .text => T.isi 173 (x := "NoText") (b := false)
theorem tx_isx_NoShade (T : TX K mg) : ∀ c : Xc, PySem.W.kitOne K (.ref (He.ga K c.nm)) (.ref (He.ga K "NoShade")) = some (decide (c = .shade))
  | .picture => T.isi 20 (x := "NoPicture") (b := false)
  | .out => T.isi 37 (x := "OutOfPicture") (b := false)
  | .meet => T.isi 54 (x := "NoMeet") (b := false)
  | .tile => T.isi 71 (x := "NoTile") (b := false)
  | .inks => T.isi 88 (x := "NoInks") (b := false)
  | .shares => T.isi 105 (x := "NoShares") (b := false)
  | .shade => T.isi 122 (x := "NoShade") (b := true)
  | .stretches => T.isi 139 (x := "NoStretches") (b := false)
  | .way => T.isi 156 (x := "NoWay") (b := false)
  | .text => T.isi 174 (x := "NoText") (b := false)
theorem tx_isx_NoShares (T : TX K mg) : ∀ c : Xc, PySem.W.kitOne K (.ref (He.ga K c.nm)) (.ref (He.ga K "NoShares")) = some (decide (c = .shares))
  | .picture => T.isi 21 (x := "NoPicture") (b := false)
  | .out => T.isi 38 (x := "OutOfPicture") (b := false)
  | .meet => T.isi 55 (x := "NoMeet") (b := false)
  | .tile => T.isi 72 (x := "NoTile") (b := false)
  | .inks => T.isi 89 (x := "NoInks") (b := false)
  | .shares => T.isi 106 (x := "NoShares") (b := true)
  | .shade => T.isi 123 (x := "NoShade") (b := false)
  | .stretches => T.isi 140 (x := "NoStretches") (b := false)
  | .way => T.isi 157 (x := "NoWay") (b := false)
  | .text => T.isi 175 (x := "NoText") (b := false)
theorem tx_isx_NoStretches (T : TX K mg) : ∀ c : Xc, PySem.W.kitOne K (.ref (He.ga K c.nm)) (.ref (He.ga K "NoStretches")) = some (decide (c = .stretches))
  | .picture => T.isi 22 (x := "NoPicture") (b := false)
  | .out => T.isi 39 (x := "OutOfPicture") (b := false)
  | .meet => T.isi 56 (x := "NoMeet") (b := false)
  | .tile => T.isi 73 (x := "NoTile") (b := false)
  | .inks => T.isi 90 (x := "NoInks") (b := false)
  | .shares => T.isi 107 (x := "NoShares") (b := false)
  | .shade => T.isi 124 (x := "NoShade") (b := false)
  | .stretches => T.isi 141 (x := "NoStretches") (b := true)
  | .way => T.isi 158 (x := "NoWay") (b := false)
  | .text => T.isi 176 (x := "NoText") (b := false)
theorem tx_isx_NoText (T : TX K mg) : ∀ c : Xc, PySem.W.kitOne K (.ref (He.ga K c.nm)) (.ref (He.ga K "NoText")) = some (decide (c = .text))
  | .picture => T.isi 23 (x := "NoPicture") (b := false)
  | .out => T.isi 40 (x := "OutOfPicture") (b := false)
  | .meet => T.isi 57 (x := "NoMeet") (b := false)
  | .tile => T.isi 74 (x := "NoTile") (b := false)
  | .inks => T.isi 91 (x := "NoInks") (b := false)
  | .shares => T.isi 108 (x := "NoShares") (b := false)
  | .shade => T.isi 125 (x := "NoShade") (b := false)
  | .stretches => T.isi 142 (x := "NoStretches") (b := false)
  | .way => T.isi 159 (x := "NoWay") (b := false)
  | .text => T.isi 177 (x := "NoText") (b := true)
theorem tx_isx_NoTile (T : TX K mg) : ∀ c : Xc, PySem.W.kitOne K (.ref (He.ga K c.nm)) (.ref (He.ga K "NoTile")) = some (decide (c = .tile))
  | .picture => T.isi 24 (x := "NoPicture") (b := false)
  | .out => T.isi 41 (x := "OutOfPicture") (b := false)
  | .meet => T.isi 58 (x := "NoMeet") (b := false)
  | .tile => T.isi 75 (x := "NoTile") (b := true)
  | .inks => T.isi 92 (x := "NoInks") (b := false)
  | .shares => T.isi 109 (x := "NoShares") (b := false)
  | .shade => T.isi 126 (x := "NoShade") (b := false)
  | .stretches => T.isi 143 (x := "NoStretches") (b := false)
  | .way => T.isi 160 (x := "NoWay") (b := false)
  | .text => T.isi 178 (x := "NoText") (b := false)
theorem tx_isx_NoWay (T : TX K mg) : ∀ c : Xc, PySem.W.kitOne K (.ref (He.ga K c.nm)) (.ref (He.ga K "NoWay")) = some (decide (c = .way))
  | .picture => T.isi 25 (x := "NoPicture") (b := false)
  | .out => T.isi 42 (x := "OutOfPicture") (b := false)
  | .meet => T.isi 59 (x := "NoMeet") (b := false)
  | .tile => T.isi 76 (x := "NoTile") (b := false)
  | .inks => T.isi 93 (x := "NoInks") (b := false)
  | .shares => T.isi 110 (x := "NoShares") (b := false)
  | .shade => T.isi 127 (x := "NoShade") (b := false)
  | .stretches => T.isi 144 (x := "NoStretches") (b := false)
  | .way => T.isi 161 (x := "NoWay") (b := true)
  | .text => T.isi 179 (x := "NoText") (b := false)
theorem tx_isx_OutOfPicture (T : TX K mg) : ∀ c : Xc, PySem.W.kitOne K (.ref (He.ga K c.nm)) (.ref (He.ga K "OutOfPicture")) = some (decide (c = .out))
  | .picture => T.isi 26 (x := "NoPicture") (b := false)
  | .out => T.isi 43 (x := "OutOfPicture") (b := true)
  | .meet => T.isi 60 (x := "NoMeet") (b := false)
  | .tile => T.isi 77 (x := "NoTile") (b := false)
  | .inks => T.isi 94 (x := "NoInks") (b := false)
  | .shares => T.isi 111 (x := "NoShares") (b := false)
  | .shade => T.isi 128 (x := "NoShade") (b := false)
  | .stretches => T.isi 145 (x := "NoStretches") (b := false)
  | .way => T.isi 162 (x := "NoWay") (b := false)
  | .text => T.isi 180 (x := "NoText") (b := false)
theorem tx_isx_ValueError (T : TX K mg) : ∀ c : Xc, PySem.W.kitOne K (.ref (He.ga K c.nm)) (.type "ValueError") = some true
  | .picture => T.isb 27 (x := "NoPicture")
  | .out => T.isb 44 (x := "OutOfPicture")
  | .meet => T.isb 61 (x := "NoMeet")
  | .tile => T.isb 78 (x := "NoTile")
  | .inks => T.isb 95 (x := "NoInks")
  | .shares => T.isb 112 (x := "NoShares")
  | .shade => T.isb 129 (x := "NoShade")
  | .stretches => T.isb 146 (x := "NoStretches")
  | .way => T.isb 163 (x := "NoWay")
  | .text => T.isb 181 (x := "NoText")
end
abbrev fs_Picture : List Str := (["most", "rows"] : List Str)
abbrev e_Picture (K : PySem.W.Frag) (t : (Int × (List (List Int)))) : Dat := .obj (He.ga K "Picture") fs_Picture [Dat.int t.1, (eT (eT Dat.int)) t.2]
abbrev fs_Tile : List Str := (["count", "rows"] : List Str)
abbrev e_Tile (K : PySem.W.Frag) (t : (Int × (List (List Int)))) : Dat := .obj (He.ga K "Tile") fs_Tile [Dat.int t.1, (eT (eT Dat.int)) t.2]
abbrev RR : PySem.W.OpenRow := PySem.W.OpenLaw.row PySem.Challenge.rw_dotscreen_k61_texts_refused
abbrev hk : PySem.W.Hook := hookF 5 fas fbs fns
def ob (s : PySem.W.SharedT) : He.AlD := obsFG 5 fas fbs fns (HandSHeadRun.getT s)
theorem ob_eq (s : PySem.W.SharedT) : ob s = hk.obs s.abs := obsFG_eq (HandSHeadRun.getT_eq s)
def loose : List PySem.Str := (["DotError", "NoPicture", "OutOfPicture", "NoMeet", "NoTile", "NoInks", "NoShares", "NoShade", "NoStretches", "NoWay", "NoText", "rows_kept", "Picture", "Tile", "FIGURES", "MOST_FIGURES", "is_number", "numbers_from", "rows_from", "split_rows"] : List Str) ++ (["read_picture", "read_tile", "read_numbers", "_law_next", "_law_same", "_law_most", "_law_tile_rows", "_law_word", "_law_text", "_law_told", "_law_bad", "_law_rows_bad", "_law_rows_more", "_law_none", "_law_one"] : List Str)
end Dot
namespace Dot
section
open HandSHeadRun PySem PySem.W PySem.Calls PySem.Spec PyProof.Rows L2 DK
def fr (s : SharedT) : Frag := He.frG (HandSHeadRun.getT s) (He.asD (HandSHeadRun.getT s) 5)
set_option maxHeartbeats 0 in
theorem run_s (w : World) (os : OsState) : (endF (stepQ (denQ tabQ) RR.prog w) 20000 RR.prog w os).map (fun s => (looksF RR.prog (boot_heap w.params) s.abs, seenQ (view RR.prog [40]) loose (importedModules RR.prog.main.body) (fun s => xlAt (view RR.prog [40]) [] s && recOk RR.toRowW.records s) s.abs)) = some (true, openGood (view RR.prog [40]) loose) := by
  kernel_rfl
set_option maxHeartbeats 0 in
theorem run_b (w : World) (os : OsState) : (endF (stepQ (denQ tabQ) RR.prog w) 20000 RR.prog w os).map (fun s => (fbs.all fun f => f.ok (fr s))) = some true := by
  kernel_rfl
set_option maxHeartbeats 0 in
theorem run_a (w : World) (os : OsState) : (endF (stepQ (denQ tabQ) RR.prog w) 20000 RR.prog w os).map (fun s => (fas.all fun f => f.ok (fr s))) = some true := by
  kernel_rfl
set_option maxHeartbeats 0 in
theorem run_n (w : World) (os : OsState) : (endF (stepQ (denQ tabQ) RR.prog w) 20000 RR.prog w os).map (fun s => (fns.all fun d => d.ok (fr s))) = some true := by
  kernel_rfl
set_option maxHeartbeats 0 in
theorem run_m (w : World) (os : OsState) : (endF (stepQ (denQ tabQ) RR.prog w) 20000 RR.prog w os).map (fun s => (fns.map fun d => He.fnW (fr s) d.at_)) = some (fns.map He.DefD.val) := by
  kernel_rfl
theorem run_to {B : Type} {fa : List He.Fa} {fb : List Fb} {fn : List He.DefD} {X : Option SharedT} {p : SharedT → Bool × B} {g : Bool × B} (h1 : X.map p = some g) (h2 : X.map (fun s => fb.all fun f => f.ok (fr s)) = some true) (h3 : X.map (fun s => fa.all fun f => f.ok (fr s)) = some true)
    (h4 : X.map (fun s => fn.all fun d => d.ok (fr s)) = some true) (h5 : X.map (fun s => fn.map fun d => He.fnW (fr s) d.at_) = some (fn.map He.DefD.val)) : X.map (fun s => ((p s).1, (p s).2, obsF fa fb fn (fr s))) = some (g.1, g.2, He.valD fn) := by
  cases X with
  | none => cases h1
  | some s =>
    have e1 := Option.some.inj h1
    have e2 := Option.some.inj h2
    have e3 := Option.some.inj h3
    have e4 := Option.some.inj h4
    have e5 := Option.some.inj h5
    have e : obsF fa fb fn (fr s) = He.valD fn := by
      unfold obsF He.obsD He.valD
      simp only [e2, e3, e4, e5, Bool.and_self]
    show some ((p s).1, (p s).2, obsF fa fb fn (fr s)) = _
    rw [e, e1]
theorem ob_is (s : SharedT) : ob s = obsF fas fbs fns (fr s) := rfl
theorem run_of {X : Option SharedT} (w : World) (h1 : X.map (fun s => (looksF RR.prog (boot_heap w.params) s.abs, seenQ (view RR.prog [40]) loose (importedModules RR.prog.main.body) (fun s => xlAt (view RR.prog [40]) [] s && recOk RR.toRowW.records s) s.abs)) = some (true, openGood (view RR.prog [40]) loose)) (h2 : X.map (fun s => fbs.all fun f => f.ok (fr s)) = some true) (h3 : X.map (fun s => fas.all fun f => f.ok (fr s)) = some true)
    (h4 : X.map (fun s => fns.all fun d => d.ok (fr s)) = some true) (h5 : X.map (fun s => fns.map fun d => He.fnW (fr s) d.at_) = some (fns.map He.DefD.val)) : X.map (fun s => (looksF RR.prog (boot_heap w.params) s.abs, seenQ (view RR.prog [40]) loose (importedModules RR.prog.main.body) (fun s => xlAt (view RR.prog [40]) [] s && recOk RR.toRowW.records s) s.abs, ob s)) = some (true, openGood (view RR.prog [40]) loose, hk.val w) := by
  have z := run_to (fa := fas) (fb := fbs) (fn := fns) h1 h2 h3 h4 h5
  cases X with
  | none => cases h1
  | some s =>
    have e := Option.some.inj z
    have e1 := congrArg (fun z : Bool × _ × He.AlD => z.1) e
    have e2 := congrArg (fun z : Bool × _ × He.AlD => z.2.1) e
    have e3 := congrArg (fun z : Bool × _ × He.AlD => z.2.2) e
    show some (looksF RR.prog (boot_heap w.params) s.abs, seenQ (view RR.prog [40]) loose (importedModules RR.prog.main.body) (fun s => xlAt (view RR.prog [40]) [] s && recOk RR.toRowW.records s) s.abs, ob s) = some (true, openGood (view RR.prog [40]) loose, He.valD fns)
    rw [ob_is]
    exact congrArg some (Prod.ext e1 (Prod.ext e2 e3))
theorem run (w : World) : HandSHeadRun.RunEq RR (view RR.prog [40]) hk ob 20000 loose w := by
  intro os
  exact run_of w (run_s w os) (run_b w os) (run_a w os) (run_n w os) (run_m w os)
end
end Dot
section
local macro_rules | `(tactic| lcg_src) => `(tactic| first | with_reducible assumption | with_reducible (refine' DK.Stp.inn ?si; (case si => with_reducible assumption)) | with_reducible (refine' DK.Stp.pre ?sp; (case sp => with_reducible assumption)))
local macro_rules | `(tactic| k_clsL) => `(tactic| first | with_reducible assumption | ((with_reducible refine' Ne.symm ?ny); (case ny => with_reducible assumption)) | (refine' DK.Own.ne ?ah ?an; (case an => with_reducible assumption); (case ah => kat_tups)) | (refine' Ne.symm (DK.Own.ne ?bh ?bn); (case bn => with_reducible assumption); (case bh => kat_tups)))
local macro_rules | `(tactic| k_offL) => `(tactic| first | with_reducible exact DK.nm_nil | kpf_close | ((with_reducible refine DK.nm_cons ?mh ?mt); (case mh => k_clsL); (case mt => k_offL)) | with_reducible assumption)
local macro_rules | `(tactic| kct_strs) => `(tactic| first | with_reducible assumption | with_reducible exact DK.FreN.no)
local macro_rules | `(tactic| kpf_close) => `(tactic| first | ((with_reducible refine' DK.nm_fre ?nf ?no); (case nf => with_reducible assumption); (case no => kat_tups)) | ((with_reducible refine' DK.nm_own ?mo ?mf); (case mf => with_reducible assumption); (case mo => kbo_bools)) | ((with_reducible refine' DK.nm_ownS ?mo ?mf); (case mf => with_reducible assumption); (case mo => kbo_bools)) | ((with_reducible refine' DK.nm_ownT ?mo ?mf); (case mf => with_reducible assumption); (case mo => kbo_bools)) | ((with_reducible refine' DK.nm_ownB ?mo ?mf); (case mf => with_reducible assumption); (case mo => kbo_bools)) | with_reducible assumption | ((with_reducible refine DK.nm_app ?_ ?_) <;> k_offL))
local macro_rules | `(tactic| kbt_split) => `(tactic| first | with_reducible exact DK.Dis.nil | with_reducible assumption | ((with_reducible refine' DK.Dis.fre ?dx ?df); (case df => with_reducible assumption); (case dx => kbo_bools)) | ((with_reducible refine' DK.Dis.old ?dx ?df); (case df => with_reducible assumption); (case dx => kbo_bools)) | ((with_reducible refine' DK.Dis.freS ?dx ?df); (case df => with_reducible assumption); (case dx => kbo_bools)) | ((with_reducible refine' DK.Dis.oldS ?dx ?df); (case df => with_reducible assumption); (case dx => kbo_bools)) | ((with_reducible refine' DK.Dis.freT ?dx ?df); (case df => with_reducible assumption); (case dx => kbo_bools)) | ((with_reducible refine' DK.Dis.oldT ?dx ?df); (case df => with_reducible assumption); (case dx => kbo_bools)) | ((with_reducible refine' DK.Dis.freB ?dx ?df); (case df => with_reducible assumption); (case dx => kbo_bools)) | ((with_reducible refine' DK.Dis.oldB ?dx ?df); (case df => with_reducible assumption); (case dx => kbo_bools)) | ((with_reducible refine DK.Dis.one ?dh ?dt); (case dh => kpf_close); (case dt => kbt_split)) | ((with_reducible refine DK.Dis.app ?_ ?_) <;> kbt_split))
local macro_rules | `(tactic| kbo_bools) => `(tactic| first | with_reducible assumption | ((with_reducible refine' DK.Stp.keepN ?ks ?kd ?ko); (case ks => with_reducible assumption); (case ko => kbo_bools); (case kd => kbt_split)) | ((with_reducible refine' DK.Stp.keepS ?ks ?kd ?ko); (case ks => with_reducible assumption); (case ko => kbo_bools); (case kd => kbt_split)) | ((with_reducible refine' DK.Stp.keepT ?ks ?kd ?ko); (case ks => with_reducible assumption); (case ko => kbo_bools); (case kd => kbt_split)) | ((with_reducible refine' DK.Stp.keepB ?ks ?kd ?ko); (case ks => with_reducible assumption); (case ko => kbo_bools); (case kd => kbt_split)))
local macro_rules | `(tactic| kat_tups) => `(tactic| first | with_reducible assumption | ((with_reducible refine' DK.Stp.keep ?ks ?kn ?kh); (case ks => with_reducible assumption); (case kh => kat_tups); (case kn => k_offL)))
local macro_rules | `(tactic| k_subL) => `(tactic| first | with_reducible assumption | ((with_reducible refine' DK.FreN.hd ?fh); (case fh => with_reducible assumption)) | ((with_reducible refine' DK.Stp.back ?kv ?kb); (case kv => with_reducible assumption); (case kb => k_subL)) | ((with_reducible refine' DK.Mv.fre ?mm ?ma ?mb); (case mm => with_reducible assumption); (case ma => k_subL); (case mb => (intro p_ hp_; k_subL))))
local macro_rules | `(tactic| kqd_all) => `(tactic| first | with_reducible assumption | with_reducible exact DK.RD.int_ | with_reducible exact DK.RD.bl_ | with_reducible exact DK.RD.str_ | with_reducible exact DK.RD.non_ | ((with_reducible refine' DK.Stp.up ?kv ?ku); (case kv => with_reducible assumption); (case ku => kqd_all)))
local macro_rules | `(tactic| nest_cls) => `(tactic| first | with_reducible assumption | with_reducible exact DK.RDs.nil | ((with_reducible refine' DK.RDs.cons ?rh ?rt); (case rh => kqd_all); (case rt => nest_cls)) | with_reducible exact DK.RDs.of_ints _ | ((with_reducible refine' DK.Stp.ups ?kv ?ks); (case kv => with_reducible assumption); (case ks => nest_cls)))
local macro_rules | `(tactic| k_places) => `(tactic| first | with_reducible assumption | ((with_reducible refine' DK.RDo.up ?kv ?kl); (case kv => with_reducible assumption); (case kl => k_places)))
local macro_rules | `(tactic| lcg_off) => `(tactic| first | with_reducible exact DK.sub_nil | with_reducible exact DK.sub_self | with_reducible exact DK.sub_tl3 | with_reducible exact DK.sub_tl5 | with_reducible exact DK.sub_appR | with_reducible exact DK.sub_appL | ((with_reducible refine' DK.sub_fre ?ff); (case ff => with_reducible assumption)) | ((with_reducible refine' DK.sub_in ?fi ?ft); (case fi => first | exact List.mem_cons_self | exact List.mem_cons_of_mem _ List.mem_cons_self | exact List.mem_cons_of_mem _ (List.mem_cons_of_mem _ List.mem_cons_self)); (case ft => lcg_off)) | ((with_reducible refine' DK.sub_mv ?fm ?fi ?ft); (case fm => with_reducible assumption); (case fi => first | exact List.mem_cons_self | exact List.mem_cons_of_mem _ List.mem_cons_self | exact List.mem_cons_of_mem _ (List.mem_cons_of_mem _ List.mem_cons_self)); (case ft => lcg_off)) | ((with_reducible refine DK.sub_new ?fn ?ft); (case fn => k_subL); (case ft => lcg_off)) | ((with_reducible refine' DK.sub_app ?f1 ?f2); (case f1 => lcg_off); (case f2 => lcg_off)))
local macro_rules | `(tactic| kas_types) => `(tactic| first | with_reducible assumption | ((with_reducible refine DK.Stp.refl ?_); lcg_src) | ((with_reducible refine' DK.Stp.trans ?sa ?sm ?sb); (case sm => with_reducible assumption); (case sa => kas_types); (case sb => lcg_off)))
local macro_rules | `(tactic| ktu_offI) => `(tactic| first | with_reducible assumption | ((with_reducible refine' DK.Scr.up ?kv ?kl); (case kv => with_reducible assumption); (case kl => ktu_offI)) | ((with_reducible refine' DK.Alike.up ?kv ?kl); (case kv => with_reducible assumption); (case kl => ktu_offI)))
local macro_rules | `(tactic| k_allIn) => `(tactic| first | with_reducible assumption | omega | decide | exact Int.emod_nonneg _ (by omega) | exact Int.emod_lt_of_pos _ (by omega))
local macro_rules | `(tactic| k_memK) => `(tactic| (simp only [L2.wipe, List.set_cons_succ, List.set_cons_zero]; exact rfl))
local macro_rules | `(tactic| kp_flats) => `(tactic| first
  | ((with_reducible refine DK.st_var (v := ?vv) ?hv ?kv); (case hv => exact rfl))
  | ((with_reducible refine DK.st_gname (σ' := ?sg) ?hg ?kg); (case hg => k_memK))
  | with_reducible refine DK.st_seq ?_
  | with_reducible refine DK.st_c ?_
  | with_reducible refine DK.st_op ?_
  | with_reducible refine DK.st_cb ?_
  | with_reducible refine DK.st_cons ?_
  | with_reducible refine DK.st_nil ?_
  | with_reducible refine DK.st_asg ?_
  | with_reducible refine DK.st_test ?_
  | with_reducible refine DK.st_B ?_
  | with_reducible refine DK.st_exb ?_
  | with_reducible refine DK.st_exi ?_
  | with_reducible refine DK.st_add ?_
  | with_reducible refine DK.st_I0 ?_
  | with_reducible refine DK.st_eqI ?_
  | with_reducible refine DK.st_neI ?_
  | with_reducible refine DK.br_t ?_
  | with_reducible refine DK.br_f ?_
  | with_reducible refine DK.br_nt ?_
  | with_reducible refine DK.br_nf ?_
  | with_reducible refine DK.st_call ?_
  | with_reducible refine DK.st_callX ?_
  | with_reducible refine DK.st_makeX ?_
  | with_reducible refine DK.st_lstRev ?_
  | with_reducible refine DK.st_make ?_
  | with_reducible refine DK.st_fld ?_
  | with_reducible refine DK.st_xl ?_
  | with_reducible refine DK.st_drop ?_
  | with_reducible refine DK.st_next ?_
  | with_reducible refine DK.st_bm ?_
  | with_reducible refine DK.st_bm0 ?_
  | with_reducible refine DK.st_un ?_
  | with_reducible refine DK.st_rU ?_
  | with_reducible refine DK.st_not ?_
  | with_reducible refine DK.st_notV ?_
  | with_reducible refine DK.st_tup ?_
  | with_reducible refine DK.st_lst ?_
  | with_reducible refine DK.st_gsub ?_
  | with_reducible refine DK.st_rng1 ?_
  | with_reducible refine DK.st_rng2 ?_
  | with_reducible refine DK.st_rng3 ?_
  | with_reducible refine DK.st_gcons ?_
  | with_reducible refine DK.st_gnil ?_
  | with_reducible refine DK.st_ret ?_
  | with_reducible refine DK.st_retN ?_
  | with_reducible refine DK.st_yes ?_
  | with_reducible refine DK.st_sfld ?_
  | with_reducible refine DK.st_dput ?_
  | with_reducible refine DK.st_methA ?_
  | with_reducible refine DK.st_methX ?_
  | with_reducible refine DK.st_din ?_
  | with_reducible refine DK.st_dnin ?_
  | with_reducible refine DK.st_dget2 ?_
  | with_reducible refine DK.st_dget ?_
  | with_reducible refine DK.st_par ?_
  | ((with_reducible refine DK.st_parx (σ' := ?sg) ?hg ?kg); (case hg => k_memK))
  | with_reducible refine DK.st_par3 ?_
  | ((with_reducible refine DK.st_parx3 (σ' := ?sg) ?hg ?kg); (case hg => k_memK))
  | with_reducible refine DK.st_sl ?_
  | with_reducible refine DK.st_nopart ?_
  | with_reducible refine DK.st_part ?_)
local macro_rules | `(tactic| dl_open) => `(tactic| repeat kp_flats)
namespace Dot
open PySem PySem.Spec PyProof.Rows L2 DK
def m_law_next (z_script : List Int) (z_at : (List Int)) : Rs (Int × (List Int)) :=
(ixR z_at 0).bnd fun x1 =>
setR z_at 0 (x1 + 1) fun x2 =>
Rs.thn ((if 0 < (z_script.length : Int) then ((ixR x2 0).bnd fun x3 =>
grd ((0 : Int) < (z_script.length : Int)) <| (ixR z_script (x3 % (z_script.length : Int))).bnd fun x4 =>
.ok (.nx x4)) else (.ok (.nx 0)) : (Rs (Ctl (Int) (Int × (List Int)))))) (fun x5 =>
(ixR x2 0).bnd fun x6 =>
(ixR x2 0).bnd fun x7 =>
grd (mulOk x6 x7 = true) <| grd (mulOk (((((x5 % 2147483647) + ((x6 * x7) * 7919)) + 11) * 48271) % 2147483647) (((((x5 % 2147483647) + ((x6 * x7) * 7919)) + 11) * 48271) % 2147483647) = true) <| .ok (((((((((x5 % 2147483647) + ((x6 * x7) * 7919)) + 11) * 48271) % 2147483647) * (((((x5 % 2147483647) + ((x6 * x7) * 7919)) + 11) * 48271) % 2147483647)) % 1999999973), x2))) (fun r => .ok r)
def sp_law_next (K : PySem.W.Frag) : Sp := fun vs H Q E => ∃ (v_script v_at : V), vs = [v_script, v_at] ∧ (∃ (F : Hp) (z_script : List Int) (z_at : (List Int)), Same F H ∧ Scr K F v_script z_script ∧ (∃ (a : Addr) (ws : List V), v_at = .ref a ∧ Own F H a (.lst ws) ∧ RDs F (List.map Dat.int z_at) ws) ∧ Post (m_law_next z_script z_at) (fun r => ∀ a, v_at = .ref a → ∀ F' H', Stp [a] F H F' H' → ∀ ws, Own F' H' a (.lst ws) → RDs F' (List.map Dat.int r.2) ws → Q (V.int r.1) H') (fun c l => ∀ a, v_at = .ref a → ∀ Fx Hx dx, Stp [a] F H Fx Hx → ExD Fx l dx → E (.ref (He.ga K c.nm)) dx Hx))
theorem len_law_next {K : PySem.W.Frag} : ∀ vs H Q E, sp_law_next K vs H Q E → vs.length = ((["_law_script", "_law_at"] : List Str)).length := fun vs H Q E h => by
  obtain ⟨_, _, rfl, _⟩ := h
  rfl
def t_law_next (K : PySem.W.Frag) (E : XK) : TS :=
  (tSeq (tAsg (tOp (rAddU K) (tOp (rIxU K) (tVar 1) (tC (.int 0))) (tC (.int 1))) (gSub (tVar 1) (tC (.int 0)) rSetL))
  (tSeq (tAsg (tC (.int 0)) (gName 2))
  (tSeq (tIfS (tTest (tOp rGtI (tCB (rLenU K) (tCons (tVar 0) tNil)) (tC (.int 0)))) (tAsg (tOp (rIxU K) (tVar 0) (tOp rModI (tOp (rIxU K) (tVar 1) (tC (.int 0))) (tCB (rLenU K) (tCons (tVar 0) tNil)))) (gName 2)) tNext)
  (tSeq (tAsg (tOp rModI (tOp rMulU (tOp (rAddU K) (tOp (rAddU K) (tOp rModI (tVar 2) (tC (.int 2147483647))) (tOp rMulU (tOp rMulU (tOp (rIxU K) (tVar 1) (tC (.int 0))) (tOp (rIxU K) (tVar 1) (tC (.int 0)))) (tC (.int 7919)))) (tC (.int 11))) (tC (.int 48271))) (tC (.int 2147483647))) (gName 3))
  (tRet (tOp rModI (tOp rMulU (tVar 3) (tVar 3)) (tC (.int 1999999973))))))))
section
variable {P : Program} {w : World} {K : PySem.W.Frag} {mg : Str → Option Value} {base : Heap}
theorem pure_law_next (T : TX K mg) (vs : List V) (H : Hp) (Q : VK) (E : XK) (h : sp_law_next K vs H Q E) : t_law_next K E { nx := fun _ H' => Q .non H', rt := Q } (start n_law_next vs) H := by
  obtain ⟨v_script, v_at, rfl, h⟩ := h
  change t_law_next K E _ [some v_script, some v_at, none, none] H
  unfold t_law_next
  obtain ⟨F, z_script, z_at, e0, hS1, ⟨a2, w_2, rfl, ho2, hr2⟩, h⟩ := h
  unfold m_law_next at h
  dl_open
  replace h := h.ix
  obtain ⟨x1, hx1, h⟩ := h
  refine sm_ixO (e := Dat.int) (F := F) (by kat_tups) (by nest_cls) hx1 ?_
  intro u1 r1
  cases (show u1 = (V.int x1) from r1)
  dl_open
  dl_open
  dl_open
  replace h := h.st
  obtain ⟨n1, hn1, h⟩ := h
  refine sm_set (e := Dat.int) (F := F) (by lcg_src) (by kat_tups) (by nest_cls) (by kqd_all) hn1 ?_
  intro w1 F1 H1 s1 o1 r2
  generalize List.set z_at n1 (x1 + 1) = x2 at h r2
  dl_open
  dl_open
  dl_open
  (with_reducible refine cutI h (fun (s : Int) σ' H' => ∃ F', Stp [] F1 H1 F' H' ∧ σ' = [some v_script, some (V.ref a2), some (V.int s), none]) ?_ ?_) <;> clear h
  · intro nx1 kk1 h
    with_reducible refine DK.st_if ?_
    dl_open
    dl_open
    refine st_lenS (F := F1) (by lcg_src) (by ktu_offI) ?_
    dl_open
    dl_open
    (refine brP h ?_ ?_) <;> clear h <;> intro c1 h
    · dl_open
      dl_open
      replace h := h.ix
      obtain ⟨x3, hx2, h⟩ := h
      refine sm_ixO (e := Dat.int) (F := F1) (by kat_tups) (by nest_cls) hx2 ?_
      intro u2 r3
      cases (show u2 = (V.int x3) from r3)
      dl_open
      refine st_lenS (F := F1) (by lcg_src) (by ktu_offI) ?_
      dl_open
      replace h := h.g
      obtain ⟨g1, h⟩ := h
      refine st_mod g1 ?_
      dl_open
      replace h := h.ix
      obtain ⟨x4, hx3, h⟩ := h
      refine sm_ixS (F := F1) (by lcg_src) (by ktu_offI) hx3 ?_
      dl_open
      dl_open
      exact kk1 x4 _ _ ⟨F1, Stp.refl (by lcg_src), rfl⟩ h.onx
    · dl_open
      dl_open
      exact kk1 0 _ _ ⟨F1, Stp.refl (by lcg_src), rfl⟩ h.onx
  · rintro x5 σ_ H2 ⟨F2, s2, rfl⟩ h
    try dsimp only at h
    dl_open
    refine st_mod (by decide) ?_
    dl_open
    replace h := h.ix
    obtain ⟨x6, hx4, h⟩ := h
    refine sm_ixO (e := Dat.int) (F := F2) (by kat_tups) (by nest_cls) hx4 ?_
    intro u4 r5
    cases (show u4 = (V.int x6) from r5)
    dl_open
    replace h := h.ix
    obtain ⟨x7, hx5, h⟩ := h
    refine sm_ixO (e := Dat.int) (F := F2) (by kat_tups) (by nest_cls) hx5 ?_
    intro u5 r6
    cases (show u5 = (V.int x7) from r6)
    dl_open
    replace h := h.g
    obtain ⟨g3, h⟩ := h
    refine st_mul (mulOk.c g3) ?_
    dl_open
    refine st_mul (mulR (by decide)) ?_
    dl_open
    dl_open
    dl_open
    refine st_mul (mulR (by decide)) ?_
    dl_open
    refine st_mod (by decide) ?_
    dl_open
    dl_open
    dl_open
    replace h := h.g
    obtain ⟨g7, h⟩ := h
    refine st_mul (mulOk.c g7) ?_
    dl_open
    refine st_mod (by decide) ?_
    dl_open
    exact h a2 rfl F2 H2 (by kas_types) _ (by kat_tups) (by nest_cls)
theorem ok_law_next (T : TX K mg)  : CalOk P w K mg base "_law_next" 1 (["_law_script", "_law_at"] : List Str) (sp_law_next K) :=
  T.cal 11 39 (d := d_law_next) rfl rfl rfl rfl rfl sc_law_next (len_law_next) (fun _ _ _ _ _ _ _ us hl => match us, hl with | [_, _], _ => rfl) (fun cdv A outer s H vs Q E hr h => ⟨t_law_next K E, (by exact (pss_cons (ps_asg (pe_op op_addU (pe_ix ix_U (pv 1) pe_int (fun _ _ => rfl)) pe_int) (pg_sub (pv 1) pe_int set_list))
  (pss_cons (ps_set (i := 2) sc_law_next.nd rfl (by first | exact Or.inl rfl | exact Or.inr rfl) pe_int)
  (pss_cons (ps_if (pt_cmpR op_gt (pe_callB call_lenU (by rfl) (T.free 0) (by decide +kernel) (pa_cons (pv 0) pa_nil)) pe_int (nomark _)) (pss_one (ps_set (i := 2) sc_law_next.nd rfl (by first | exact Or.inl rfl | exact Or.inr rfl) (pe_ix ix_U (pv 0) (pe_op op_mod (pe_ix ix_U (pv 1) pe_int (fun _ _ => rfl)) (pe_callB call_lenU (by rfl) (T.free 0) (by decide +kernel) (pa_cons (pv 0) pa_nil))) (fun _ _ => rfl)))) pss_nil)
  (pss_cons (ps_set (i := 3) sc_law_next.nd rfl (by first | exact Or.inl rfl | exact Or.inr rfl) (pe_op op_mod (pe_op op_mulU (pe_op op_addU (pe_op op_addU (pe_op op_mod (pv 2) pe_int) (pe_op op_mulU (pe_op op_mulU (pe_ix ix_U (pv 1) pe_int (fun _ _ => rfl)) (pe_ix ix_U (pv 1) pe_int (fun _ _ => rfl))) pe_int)) pe_int) pe_int) pe_int))
  (pss_one (ps_ret (pe_op op_mod (pe_op op_mulU (pv 3) (pv 3)) pe_int)))))))), pure_law_next T vs H Q E h⟩)
end
end Dot
namespace Dot
open PySem PySem.Spec PyProof.Rows L2 DK
def m_law_most (z_script : List Int) (z_at : (List Int)) : Rs (Int × (List Int)) :=
(m_law_next z_script z_at).bnd fun x1 =>
Rs.thn ((if 0 < (z_script.length : Int) then ((ixR x1.2 0).bnd fun x2 =>
grd ((0 : Int) < (z_script.length : Int)) <| (ixR z_script (x2 % (z_script.length : Int))).bnd fun x3 =>
.ok (.nx x3)) else (.ok (.nx 0)) : (Rs (Ctl (Int) (Int × (List Int)))))) (fun x4 =>
(ixR ([1, 2, 3, 9, 255, ((x4 % 100000000000000000000000000000) + 1), ((1000000000000000000000000000000 - 1000) - (x1.1 % 999))] : List Int) (x1.1 % 7)).bnd fun x5 =>
.ok ((x5, x1.2))) (fun r => .ok r)
def sp_law_most (K : PySem.W.Frag) : Sp := fun vs H Q E => ∃ (v_script v_at : V), vs = [v_script, v_at] ∧ (∃ (F : Hp) (z_script : List Int) (z_at : (List Int)), Same F H ∧ Scr K F v_script z_script ∧ (∃ (a : Addr) (ws : List V), v_at = .ref a ∧ Own F H a (.lst ws) ∧ RDs F (List.map Dat.int z_at) ws) ∧ Post (m_law_most z_script z_at) (fun r => ∀ a, v_at = .ref a → ∀ F' H', Stp [a] F H F' H' → ∀ ws, Own F' H' a (.lst ws) → RDs F' (List.map Dat.int r.2) ws → Q (V.int r.1) H') (fun c l => ∀ a, v_at = .ref a → ∀ Fx Hx dx, Stp [a] F H Fx Hx → ExD Fx l dx → E (.ref (He.ga K c.nm)) dx Hx))
theorem len_law_most {K : PySem.W.Frag} : ∀ vs H Q E, sp_law_most K vs H Q E → vs.length = ((["_law_script", "_law_at"] : List Str)).length := fun vs H Q E h => by
  obtain ⟨_, _, rfl, _⟩ := h
  rfl
def t_law_most (K : PySem.W.Frag) (E : XK) : TS :=
  (tSeq (tAsg (tCall (sp_law_next K) [] E (tCons (tVar 0) (tCons (tVar 1) tNil))) (gName 2))
  (tSeq (tAsg (tC (.int 0)) (gName 3))
  (tSeq (tIfS (tTest (tOp rGtI (tCB (rLenU K) (tCons (tVar 0) tNil)) (tC (.int 0)))) (tAsg (tOp (rIxU K) (tVar 0) (tOp rModI (tOp (rIxU K) (tVar 1) (tC (.int 0))) (tCB (rLenU K) (tCons (tVar 0) tNil)))) (gName 3)) tNext)
  (tRet (tOp (rIxU K) (tLst (tCons (tC (.int 1)) (tCons (tC (.int 2)) (tCons (tC (.int 3)) (tCons (tC (.int 9)) (tCons (tC (.int 255)) (tCons (tOp (rAddU K) (tOp rModI (tVar 3) (tC (.int 100000000000000000000000000000))) (tC (.int 1))) (tCons (tOp rSubI (tOp rSubI (tC (.int 1000000000000000000000000000000)) (tC (.int 1000))) (tOp rModI (tVar 2) (tC (.int 999)))) tNil)))))))) (tOp rModI (tVar 2) (tC (.int 7))))))))
section
variable {P : Program} {w : World} {K : PySem.W.Frag} {mg : Str → Option Value} {base : Heap}
theorem pure_law_most (T : TX K mg) (vs : List V) (H : Hp) (Q : VK) (E : XK) (h : sp_law_most K vs H Q E) : t_law_most K E { nx := fun _ H' => Q .non H', rt := Q } (start n_law_most vs) H := by
  obtain ⟨v_script, v_at, rfl, h⟩ := h
  change t_law_most K E _ [some v_script, some v_at, none, none] H
  unfold t_law_most
  obtain ⟨F, z_script, z_at, e0, hS1, ⟨a2, w_2, rfl, ho2, hr2⟩, h⟩ := h
  unfold m_law_most at h
  dl_open
  refine ⟨_, _, rfl, F, z_script, z_at, by lcg_src, (by ktu_offI), ⟨a2, w_2, rfl, (by kat_tups), (by nest_cls)⟩, h.b.mono2 ?_ (fun c_ l_ hx_ a_ ha_ Fx_ Hx_ dx_ sx_ ex_ => by cases ha_; exact hx_ a2 rfl Fx_ Hx_ dx_ (by kas_types) ex_)⟩
  clear h
  intro x1 h a_ ha_
  cases ha_
  intro F1 H1 s1 w1 o1 r1
  dl_open
  dl_open
  dl_open
  (with_reducible refine cutI h (fun (s : Int) σ' H' => ∃ F', Stp [] F1 H1 F' H' ∧ σ' = [some v_script, some (V.ref a2), some (V.int x1.1), some (V.int s)]) ?_ ?_) <;> clear h
  · intro nx1 kk1 h
    with_reducible refine DK.st_if ?_
    dl_open
    dl_open
    refine st_lenS (F := F1) (by lcg_src) (by ktu_offI) ?_
    dl_open
    dl_open
    (refine brP h ?_ ?_) <;> clear h <;> intro c1 h
    · dl_open
      dl_open
      replace h := h.ix
      obtain ⟨x2, hx1, h⟩ := h
      refine sm_ixO (e := Dat.int) (F := F1) (by kat_tups) (by nest_cls) hx1 ?_
      intro u2 r2
      cases (show u2 = (V.int x2) from r2)
      dl_open
      refine st_lenS (F := F1) (by lcg_src) (by ktu_offI) ?_
      dl_open
      replace h := h.g
      obtain ⟨g1, h⟩ := h
      refine st_mod g1 ?_
      dl_open
      replace h := h.ix
      obtain ⟨x3, hx2, h⟩ := h
      refine sm_ixS (F := F1) (by lcg_src) (by ktu_offI) hx2 ?_
      dl_open
      dl_open
      exact kk1 x3 _ _ ⟨F1, Stp.refl (by lcg_src), rfl⟩ h.onx
    · dl_open
      dl_open
      exact kk1 0 _ _ ⟨F1, Stp.refl (by lcg_src), rfl⟩ h.onx
  · rintro x4 σ_ H2 ⟨F2, s2, rfl⟩ h
    try dsimp only at h
    dl_open
    dl_open
    refine st_mod (by decide) ?_
    dl_open
    dl_open
    dl_open
    refine st_mod (by decide) ?_
    dl_open
    dl_open
    refine newL (by simp) (F := F2) (by lcg_src) (ds := [Dat.int 1, Dat.int 2, Dat.int 3, Dat.int 9, Dat.int 255, Dat.int ((x4 % 100000000000000000000000000000) + 1), Dat.int ((1000000000000000000000000000000 - 1000) - (x1.1 % 999))]) (by nest_cls) ?_
    intro u4 F3 H3 s3 r4
    have r4 : RD F3 ((eL Dat.int) ([1, 2, 3, 9, 255, ((x4 % 100000000000000000000000000000) + 1), ((1000000000000000000000000000000 - 1000) - (x1.1 % 999))] : List Int)) u4 := r4
    dl_open
    refine st_mod (by decide) ?_
    dl_open
    replace h := h.ix
    obtain ⟨x5, hx3, h⟩ := h
    refine sm_ixL (e := Dat.int) (F := F3) (by lcg_src) (by kqd_all) hx3 ?_
    intro u5 r5
    cases (show u5 = (V.int x5) from r5)
    dl_open
    exact h a2 rfl F3 H3 (by kas_types) _ (by kat_tups) (by nest_cls)
theorem ok_law_most (T : TX K mg) (c_law_next : CalOk P w K mg base "_law_next" 1 (["_law_script", "_law_at"] : List Str) (sp_law_next K)) : CalOk P w K mg base "_law_most" 2 (["_law_script", "_law_at"] : List Str) (sp_law_most K) :=
  T.cal 13 41 (d := d_law_most) rfl rfl rfl rfl rfl sc_law_most (len_law_most) (fun _ _ _ _ _ _ _ us hl => match us, hl with | [_, _], _ => rfl) (fun cdv A outer s H vs Q E hr h => ⟨t_law_most K E, (by exact (pss_cons (ps_set (i := 2) sc_law_most.nd rfl (by first | exact Or.inl rfl | exact Or.inr rfl) (pe_callC c_law_next (hr.mono (by decide)) rfl (L2N.passes_call (L2N.takes_of rfl rfl rfl rfl) (fun _ _ _ _ h => h)) (pa_cons (pv 0) (pa_cons (pv 1) pa_nil))))
  (pss_cons (ps_set (i := 3) sc_law_most.nd rfl (by first | exact Or.inl rfl | exact Or.inr rfl) pe_int)
  (pss_cons (ps_if (pt_cmpR op_gt (pe_callB call_lenU (by rfl) (T.free 0) (by decide +kernel) (pa_cons (pv 0) pa_nil)) pe_int (nomark _)) (pss_one (ps_set (i := 3) sc_law_most.nd rfl (by first | exact Or.inl rfl | exact Or.inr rfl) (pe_ix ix_U (pv 0) (pe_op op_mod (pe_ix ix_U (pv 1) pe_int (fun _ _ => rfl)) (pe_callB call_lenU (by rfl) (T.free 0) (by decide +kernel) (pa_cons (pv 0) pa_nil))) (fun _ _ => rfl)))) pss_nil)
  (pss_one (ps_ret (pe_ix ix_U (pe_lst (pa_cons pe_int (pa_cons pe_int (pa_cons pe_int (pa_cons pe_int (pa_cons pe_int (pa_cons (pe_op op_addU (pe_op op_mod (pv 3) (pe_powC (n := 100000000000000000000000000000) (by decide) (by decide +kernel))) pe_int) (pa_cons (pe_op op_sub (pe_op op_sub (pe_powC (n := 1000000000000000000000000000000) (by decide) (by decide +kernel)) pe_int) (pe_op op_mod (pv 2) pe_int)) pa_nil)))))))) (pe_op op_mod (pv 2) pe_int) (fun _ _ => rfl)))))))), pure_law_most T vs H Q E h⟩)
end
end Dot
namespace Dot
open PySem PySem.Spec PyProof.Rows L2 DK
def m_law_tile_rows (z_script : List Int) (z_at : (List Int)) (z_count : Int) (z_tall : Int) (z_broad : Int) : Rs ((List (List Int)) × (List Int)) :=
Rs.thn (grd (rngOk 0 z_tall = true) <| forR (R := ((List (List Int)) × (List Int))) (fun (⟨x1, x2⟩ : (List Int) × (List (List Int))) (y1 : Int) =>
Rs.thn (grd (rngOk 0 z_broad = true) <| forR (R := ((List (List Int)) × (List Int))) (fun (⟨x3, x4⟩ : (List Int) × (List Int)) (y2 : Int) =>
(m_law_next z_script x3).bnd fun x5 =>
grd (mulOk (x5.1 / 4) 1000000000000000000000 = true) <| (ixR ([(((x5.1 / 4) * 1000000000000000000000) + x5.1), x5.1, 0, (z_count - 1)] : List Int) (x5.1 % 4)).bnd fun x6 =>
grd ((0 : Int) < z_count) <| grd (x4.length < 1000000) <| .ok (.nx (x5.2, (x4 ++ [(1 + (x6 % z_count))])))) (rngI 0 z_broad) (x1, ([] : List Int))) (fun ⟨x7, x8⟩ =>
grd (x2.length < 1000000) <| .ok (.nx (x7, (x2 ++ [x8])))) (fun r => .ok (.rt r))) (rngI 0 z_tall) (z_at, ([] : List (List Int)))) (fun ⟨x9, x10⟩ =>
.ok ((x10, x9))) (fun r => .ok r)
def sp_law_tile_rows (K : PySem.W.Frag) : Sp := fun vs H Q E => ∃ (v_script v_at v_count v_tall v_broad : V), vs = [v_script, v_at, v_count, v_tall, v_broad] ∧ (∃ (F : Hp) (z_script : List Int) (z_at : (List Int)) (z_count : Int) (z_tall : Int) (z_broad : Int), Same F H ∧ Scr K F v_script z_script ∧ (∃ (a : Addr) (ws : List V), v_at = .ref a ∧ Own F H a (.lst ws) ∧ RDs F (List.map Dat.int z_at) ws) ∧ v_count = (V.int z_count) ∧ v_tall = (V.int z_tall) ∧ v_broad = (V.int z_broad) ∧ Post (m_law_tile_rows z_script z_at z_count z_tall z_broad) (fun r => ∀ a, v_at = .ref a → ∀ F' H', Stp [a] F H F' H' → ∀ ws, Own F' H' a (.lst ws) → RDs F' (List.map Dat.int r.2) ws → ∀ L vs, Fre H L → Own F' H' L (.lst vs) → RDs F' (List.map (eL Dat.int) r.1) vs → Q (.ref L) H') (fun c l => ∀ a, v_at = .ref a → ∀ Fx Hx dx, Stp [a] F H Fx Hx → ExD Fx l dx → E (.ref (He.ga K c.nm)) dx Hx))
theorem len_law_tile_rows {K : PySem.W.Frag} : ∀ vs H Q E, sp_law_tile_rows K vs H Q E → vs.length = ((["_law_script", "_law_at", "_law_count", "_law_tall", "_law_broad"] : List Str)).length := fun vs H Q E h => by
  obtain ⟨_, _, _, _, _, rfl, _⟩ := h
  rfl
def t_law_tile_rows (K : PySem.W.Frag) (E : XK) : TS :=
  (tSeq (tAsg (tLst tNil) (gName 5))
  (tSeq (tFor (iRng1 (tCons (tVar 3) tNil)) (gName 6) (tSeq (tAsg (tLst tNil) (gName 7))
  (tSeq (tFor (iRng1 (tCons (tVar 4) tNil)) (gName 8) (tSeq (tAsg (tCall (sp_law_next K) [] E (tCons (tVar 0) (tCons (tVar 1) tNil))) (gName 9))
  (tDrop (tBM K "list" rAppend (tVar 7) (tCons (tOp (rAddU K) (tC (.int 1)) (tOp rModI (tOp (rIxU K) (tLst (tCons (tOp (rAddU K) (tOp rMulU (tOp rDivU (tVar 9) (tC (.int 4))) (tC (.int 1000000000000000000000))) (tVar 9)) (tCons (tVar 9) (tCons (tC (.int 0)) (tCons (tOp rSubI (tVar 2) (tC (.int 1))) tNil))))) (tOp rModI (tVar 9) (tC (.int 4)))) (tVar 2))) tNil)))))
  (tDrop (tBM K "list" rAppend (tVar 5) (tCons (tVar 7) tNil))))))
  (tRet (tVar 5))))
section
variable {P : Program} {w : World} {K : PySem.W.Frag} {mg : Str → Option Value} {base : Heap}
theorem pure_law_tile_rows (T : TX K mg) (vs : List V) (H : Hp) (Q : VK) (E : XK) (h : sp_law_tile_rows K vs H Q E) : t_law_tile_rows K E { nx := fun _ H' => Q .non H', rt := Q } (start n_law_tile_rows vs) H := by
  obtain ⟨v_script, v_at, v_count, v_tall, v_broad, rfl, h⟩ := h
  change t_law_tile_rows K E _ [some v_script, some v_at, some v_count, some v_tall, some v_broad, none, none, none, none, none] H
  unfold t_law_tile_rows
  obtain ⟨F, z_script, z_at, z_count, z_tall, z_broad, e0, hS1, ⟨a2, w_2, rfl, ho2, hr2⟩, rfl, rfl, rfl, h⟩ := h
  unfold m_law_tile_rows at h
  dl_open
  refine newO (by simp) (F := F) (by lcg_src) ?_
  intro L1 F1 H1 s1 n1 o1
  have r1 : RDs F1 (List.map (eL Dat.int) ([] : List (List Int))) [] := (show RDs F1 [] [] by nest_cls)
  dl_open
  dl_open
  (with_reducible refine cutF h (fun (s : (List Int) × (List (List Int))) σ' H' => ∃ F', ∃ (oj_0 : Option V) (oj_2 : Option V) (oj_3 : Option V) (oj_5 : Option V) (wj_0 : List V) (wj_1 : List V), Stp [a2, L1] F1 H1 F' H' ∧ Own F' H' a2 (.lst wj_0) ∧ RDs F' (List.map Dat.int s.1) wj_0 ∧ Own F' H' L1 (.lst wj_1) ∧ RDs F' (List.map (eL Dat.int) s.2) wj_1 ∧ σ' = [some v_script, some (V.ref a2), some (V.int z_count), some (V.int z_tall), some (V.int z_broad), some (V.ref L1), oj_5, oj_0, oj_2, oj_3]) ?_ ?_) <;> clear h
  · intro nx1 kk1 h
    refine st_for ?_
    dl_open
    dl_open
    replace h := h.g
    obtain ⟨g1, h⟩ := h
    refine fr_R1 g1 h (fun (s : (List Int) × (List (List Int))) σ' H' => ∃ F', ∃ (oj_0 : Option V) (oj_2 : Option V) (oj_3 : Option V) (oj_5 : Option V) (wj_0 : List V) (wj_1 : List V), Stp [a2, L1] F1 H1 F' H' ∧ Own F' H' a2 (.lst wj_0) ∧ RDs F' (List.map Dat.int s.1) wj_0 ∧ Own F' H' L1 (.lst wj_1) ∧ RDs F' (List.map (eL Dat.int) s.2) wj_1 ∧ σ' = [some v_script, some (V.ref a2), some (V.int z_count), some (V.int z_tall), some (V.int z_broad), some (V.ref L1), oj_5, oj_0, oj_2, oj_3]) ⟨F1, _, _, _, _, _, _, Stp.refl (by lcg_src), by kat_tups, by nest_cls, by kat_tups, by nest_cls, rfl⟩ ?_ (by intro s_k σ_k H_k q_k p_k; replace p_k := Ctl.nx_of p_k; exact kk1 s_k σ_k H_k q_k p_k)
    clear h
    rintro y1 rest1 ⟨x1, x2⟩ σ_ H2 ⟨F2, o_1, o_2, o_3, o_4, w1, w2, s2, o2, r3, o3, r4, rfl⟩ h
    try dsimp only at h
    dl_open
    dl_open
    refine newO (by simp) (F := F2) (by lcg_src) ?_
    intro L2 F3 H3 s3 n2 o4
    have r5 : RDs F3 (List.map Dat.int ([] : List Int)) [] := (show RDs F3 [] [] by nest_cls)
    dl_open
    dl_open
    (with_reducible refine cutF h (fun (s : (List Int) × (List Int)) σ' H' => ∃ F', ∃ (oj_1 : Option V) (oj_3 : Option V) (wj_0 : List V) (wj_1 : List V), Stp [a2, L2] F3 H3 F' H' ∧ Own F' H' a2 (.lst wj_0) ∧ RDs F' (List.map Dat.int s.1) wj_0 ∧ Own F' H' L2 (.lst wj_1) ∧ RDs F' (List.map Dat.int s.2) wj_1 ∧ σ' = [some v_script, some (V.ref a2), some (V.int z_count), some (V.int z_tall), some (V.int z_broad), some (V.ref L1), some (V.int y1), some (V.ref L2), oj_3, oj_1]) ?_ ?_) <;> clear h
    · intro nx2 kk2 h
      refine st_for ?_
      dl_open
      dl_open
      replace h := h.g
      obtain ⟨g2, h⟩ := h
      refine fr_R1 g2 h (fun (s : (List Int) × (List Int)) σ' H' => ∃ F', ∃ (oj_1 : Option V) (oj_3 : Option V) (wj_0 : List V) (wj_1 : List V), Stp [a2, L2] F3 H3 F' H' ∧ Own F' H' a2 (.lst wj_0) ∧ RDs F' (List.map Dat.int s.1) wj_0 ∧ Own F' H' L2 (.lst wj_1) ∧ RDs F' (List.map Dat.int s.2) wj_1 ∧ σ' = [some v_script, some (V.ref a2), some (V.int z_count), some (V.int z_tall), some (V.int z_broad), some (V.ref L1), some (V.int y1), some (V.ref L2), oj_3, oj_1]) ⟨F3, _, _, _, _, Stp.refl (by lcg_src), by kat_tups, by nest_cls, by kat_tups, by nest_cls, rfl⟩ ?_ (by intro s_k σ_k H_k q_k p_k; replace p_k := Ctl.nx_of p_k; exact kk2 s_k σ_k H_k q_k p_k)
      clear h
      rintro y2 rest2 ⟨x3, x4⟩ σ_ H4 ⟨F4, o_5, o_6, w3, w4, s4, o5, r7, o6, r8, rfl⟩ h
      try dsimp only at h
      dl_open
      dl_open
      refine ⟨_, _, rfl, F4, z_script, x3, by lcg_src, (by ktu_offI), ⟨a2, w3, rfl, (by kat_tups), (by nest_cls)⟩, h.b.mono2 ?_ (fun c_ l_ hx_ a_ ha_ Fx_ Hx_ dx_ sx_ ex_ => by cases ha_; exact hx_ a2 rfl Fx_ Hx_ dx_ (by kas_types) ex_)⟩
      clear h
      intro x5 h a_ ha_
      cases ha_
      intro F5 H5 s5 w5 o7 r9
      dl_open
      dl_open
      dl_open
      refine ⟨ty_own (by kat_tups : Own F5 _ _ _), ?_⟩
      dl_open
      refine st_div (divS (by decide)) ?_
      dl_open
      replace h := h.g
      obtain ⟨g4, h⟩ := h
      refine st_mul (mulOk.c g4) ?_
      dl_open
      dl_open
      dl_open
      refine newL (by simp) (F := F5) (by lcg_src) (ds := [Dat.int (((x5.1 / 4) * 1000000000000000000000) + x5.1), Dat.int x5.1, Dat.int 0, Dat.int (z_count - 1)]) (by nest_cls) ?_
      intro u4 F6 H6 s6 r10
      have r10 : RD F6 ((eL Dat.int) ([(((x5.1 / 4) * 1000000000000000000000) + x5.1), x5.1, 0, (z_count - 1)] : List Int)) u4 := r10
      dl_open
      refine st_mod (by decide) ?_
      dl_open
      replace h := h.ix
      obtain ⟨x6, hx1, h⟩ := h
      refine sm_ixL (e := Dat.int) (F := F6) (by lcg_src) (by kqd_all) hx1 ?_
      intro u5 r11
      cases (show u5 = (V.int x6) from r11)
      dl_open
      replace h := h.g
      obtain ⟨g6, h⟩ := h
      refine st_mod g6 ?_
      dl_open
      dl_open
      replace h := h.g
      obtain ⟨g7, h⟩ := h
      refine sm_app (e := Dat.int) (x := (1 + (x6 % z_count))) (F := F6) (by lcg_src) (by kat_tups) (by nest_cls) (by kqd_all) g7 ?_
      intro w6 F7 H7 s7 o8 r12
      dl_open
      dl_open
      exact ⟨(x5.2, (x4 ++ [(1 + (x6 % z_count))])), ⟨F7, _, _, _, _, by kas_types, by kat_tups, by nest_cls, by kat_tups, by nest_cls, rfl⟩, h.onx⟩
    · rintro ⟨x7, x8⟩ σ_ H8 ⟨F8, o_7, o_8, w7, w8, s8, o9, r13, o10, r14, rfl⟩ h
      try dsimp only at h
      dl_open
      dl_open
      refine ⟨ty_own (by kat_tups : Own F8 _ _ _), ?_⟩
      obtain ⟨F9, s9, r15⟩ := own_fz (F := F8) (by lcg_src) (by kat_tups) (by nest_cls : RDs F8 (List.map Dat.int x8) w8)
      dl_open
      replace h := h.g
      obtain ⟨g8, h⟩ := h
      refine sm_app (e := (eL Dat.int)) (x := x8) (F := F9) (by lcg_src) (by kat_tups) (by nest_cls) (by kqd_all) g8 ?_
      intro w9 F10 H9 s10 o11 r16
      dl_open
      dl_open
      exact ⟨(x7, (x2 ++ [x8])), ⟨F10, _, _, _, _, _, _, by kas_types, by kat_tups, by nest_cls, by kat_tups, by nest_cls, rfl⟩, h.onx⟩
  · rintro ⟨x9, x10⟩ σ_ H10 ⟨F11, o_9, o_10, o_11, o_12, w10, w11, s11, o12, r17, o13, r18, rfl⟩ h
    try dsimp only at h
    dl_open
    dl_open
    exact h a2 rfl F11 H10 (by kas_types) _ (by kat_tups) (by nest_cls) _ _ (by k_subL) (by kat_tups) (by nest_cls)
theorem ok_law_tile_rows (T : TX K mg) (c_law_next : CalOk P w K mg base "_law_next" 1 (["_law_script", "_law_at"] : List Str) (sp_law_next K)) : CalOk P w K mg base "_law_tile_rows" 2 (["_law_script", "_law_at", "_law_count", "_law_tall", "_law_broad"] : List Str) (sp_law_tile_rows K) :=
  T.cal 14 42 (d := d_law_tile_rows) rfl rfl rfl rfl rfl sc_law_tile_rows (len_law_tile_rows) (fun _ _ _ _ _ _ _ us hl => match us, hl with | [_, _, _, _, _], _ => rfl) (fun cdv A outer s H vs Q E hr h => ⟨t_law_tile_rows K E, (by exact (pss_cons (ps_set (i := 5) sc_law_tile_rows.nd rfl (by first | exact Or.inl rfl | exact Or.inr rfl) (pe_lst pa_nil))
  (pss_cons (ps_for (passes_of rfl) rfl (pi_range1 rfl (T.free 17) (pa_cons (pv 3) pa_nil)) (pg_name (i := 6) sc_law_tile_rows.nd rfl (by first | exact Or.inl rfl | exact Or.inr rfl)) (pss_cons (ps_set (i := 7) sc_law_tile_rows.nd rfl (by first | exact Or.inl rfl | exact Or.inr rfl) (pe_lst pa_nil))
  (pss_cons (ps_for (passes_of rfl) rfl (pi_range1 rfl (T.free 17) (pa_cons (pv 4) pa_nil)) (pg_name (i := 8) sc_law_tile_rows.nd rfl (by first | exact Or.inl rfl | exact Or.inr rfl)) (pss_cons (ps_set (i := 9) sc_law_tile_rows.nd rfl (by first | exact Or.inl rfl | exact Or.inr rfl) (pe_callC c_law_next (hr.mono (by decide)) rfl (L2N.passes_call (L2N.takes_of rfl rfl rfl rfl) (fun _ _ _ _ h => h)) (pa_cons (pv 0) (pa_cons (pv 1) pa_nil))))
  (pss_one (ps_expr (pe_bm PySem.F.plainAttrs_list PySem.F.slot_list_append PySem.F.type_list_append mt_append (pv 7) (pa_cons (pe_op op_addU pe_int (pe_op op_mod (pe_ix ix_U (pe_lst (pa_cons (pe_op op_addU (pe_op op_mulU (pe_op op_divU (pv 9) pe_int) (pe_powC (n := 1000000000000000000000) (by decide) (by decide +kernel))) (pv 9)) (pa_cons (pv 9) (pa_cons pe_int (pa_cons (pe_op op_sub (pv 2) pe_int) pa_nil))))) (pe_op op_mod (pv 9) pe_int) (fun _ _ => rfl)) (pv 2))) pa_nil))))))
  (pss_one (ps_expr (pe_bm PySem.F.plainAttrs_list PySem.F.slot_list_append PySem.F.type_list_append mt_append (pv 5) (pa_cons (pv 7) pa_nil)))))))
  (pss_one (ps_ret (pv 5)))))), pure_law_tile_rows T vs H Q E h⟩)
end
end Dot
namespace Dot
open PySem PySem.Spec PyProof.Rows L2 DK
def m_law_text (z_first : Int) (z_rows : (List (List Int))) : Rs (Str) :=
grd ((z_first : Int).natAbs.log2 < 1920) <| grd (z_rows.length ≤ 1000000) <| (mapR (fun (y1 : (List Int)) =>
 grd (y1.length ≤ 1000000) <| (mapR (fun (y2 : Int) =>
 grd ((y2 : Int).natAbs.log2 < 1920) <| .ok (some (strI y2))) y1).bnd fun x1 =>
grd (joinOk " " x1 = true) <| .ok (some (Txt.join " " x1))) z_rows).bnd fun x1 =>
grd (([(strI z_first)] : List Str).length + x1.length ≤ 1000000) <| grd (joinOk "\n" (([(strI z_first)] : List Str) ++ x1) = true) <| .ok ((Txt.join "\n" (([(strI z_first)] : List Str) ++ x1)))
def sp_law_text (K : PySem.W.Frag) : Sp := fun vs H Q E => ∃ (v_first v_rows : V), vs = [v_first, v_rows] ∧ (∃ (F : Hp) (z_first : Int) (z_rows : (List (List Int))), Same F H ∧ v_first = (V.int z_first) ∧ RD F ((eL (eL Dat.int)) z_rows) v_rows ∧ Post (m_law_text z_first z_rows) (fun r => ∀ F' H', Stp [] F H F' H' → Q (V.str r) H') (fun c l => ∀ Fx Hx dx, Stp [] F H Fx Hx → ExD Fx l dx → E (.ref (He.ga K c.nm)) dx Hx))
theorem len_law_text {K : PySem.W.Frag} : ∀ vs H Q E, sp_law_text K vs H Q E → vs.length = ((["_law_first", "_law_rows"] : List Str)).length := fun vs H Q E h => by
  obtain ⟨_, _, rfl, _⟩ := h
  rfl
def t_law_text (K : PySem.W.Frag) (E : XK) : TS :=
  (tRet (tM1 (rJoinT K) (tC (.str "\n")) (tOp (rAddU K) (tLst (tCons (tCB rStrInt (tCons (tVar 0) tNil)) tNil)) (tLc (iSeq K (tVar 1)) (gName 2) tYes (tM1 (rJoinT K) (tC (.str " ")) (tLc (iSeq K (tVar 2)) (gName 3) tYes (tCB rStrInt (tCons (tVar 3) tNil)) [3])) [2]))))
section
variable {P : Program} {w : World} {K : PySem.W.Frag} {mg : Str → Option Value} {base : Heap}
theorem pure_law_text (T : TX K mg) (vs : List V) (H : Hp) (Q : VK) (E : XK) (h : sp_law_text K vs H Q E) : t_law_text K E { nx := fun _ H' => Q .non H', rt := Q } (start n_law_text vs) H := by
  obtain ⟨v_first, v_rows, rfl, h⟩ := h
  change t_law_text K E _ [some v_first, some v_rows, none, none] H
  unfold t_law_text
  obtain ⟨F, z_first, z_rows, e0, rfl, hr2, h⟩ := h
  unfold m_law_text at h
  dl_open
  dl_open
  refine st_m1 ?_
  dl_open
  dl_open
  refine sm_m1 ?_
  dl_open
  dl_open
  replace h := h.g
  obtain ⟨g1, h⟩ := h
  refine sm_strI g1 ?_
  dl_open
  refine newL (by simp) (F := F) (by lcg_src) (ds := [Dat.str (strI z_first)]) (by nest_cls) ?_
  intro u1 F1 H1 s1 r1
  have r1 : RD F1 ((eL Dat.str) ([(strI z_first)] : List Str)) u1 := r1
  dl_open
  refine st_lc ?_
  dl_open
  refine st_iseqL ?_
  dl_open
  dl_open
  replace h := h.g
  obtain ⟨g2, h⟩ := h
  (refine lc_L (e := (eL Dat.int)) (e2 := Dat.str) (F := F1) (by kqd_all) (by lcg_src) g2 h.b ?_ ?_) <;> clear h
  · intro y1 u2 F2 H2 r2 s2 PN1 NY1 NN1 kY1 kN1 h
    have r2 : RD F2 ((eL Dat.int) y1) u2 := r2
    dl_open
    dl_open
    refine ⟨rfl, ?_⟩
    dl_open
    dl_open
    refine st_m1 ?_
    dl_open
    dl_open
    refine sm_m1 ?_
    dl_open
    dl_open
    refine st_lc ?_
    dl_open
    refine st_iseqL ?_
    dl_open
    dl_open
    replace h := h.g
    obtain ⟨g3, h⟩ := h
    (refine lc_L (e := Dat.int) (e2 := Dat.str) (F := F2) (by kqd_all) (by lcg_src) g3 h.b ?_ ?_) <;> clear h
    · intro y2 u3 F3 H3 r3 s3 PN2 NY2 NN2 kY2 kN2 h
      cases (show u3 = (V.int y2) from r3)
      dl_open
      dl_open
      refine ⟨rfl, ?_⟩
      dl_open
      dl_open
      replace h := h.g
      obtain ⟨g4, h⟩ := h
      refine sm_strI g4 ?_
      dl_open
      exact kY2 _ _ F3 H3 (by kas_types) (by kqd_all) h
    intro L1 w1 x2 F4 H4 s4 n1 o1 r4 h
    obtain ⟨F5, s5, r5⟩ := own_fz (F := F4) s4.inn o1 r4
    dl_open
    replace h := h.g
    obtain ⟨g5, h⟩ := h
    refine sm_joinL (F := F5) (by lcg_src) (show RD F5 ((eL Dat.str) x2) _ by kqd_all) g5 ?_
    dl_open
    exact kY1 _ _ F5 H4 (by kas_types) (by kqd_all) h
  intro L2 w2 x1 F6 H5 s6 n2 o2 r6 h
  obtain ⟨F7, s7, r7⟩ := own_fz (F := F6) s6.inn o2 r6
  dl_open
  replace h := h.g
  obtain ⟨g6, h⟩ := h
  refine sm_cat (e := Dat.str) (F := F7) (by lcg_src) (by kqd_all) (by kqd_all) g6 ?_
  intro u4 F8 H6 s8 r8
  dl_open
  replace h := h.g
  obtain ⟨g7, h⟩ := h
  refine sm_joinL (F := F8) (by lcg_src) (show RD F8 ((eL Dat.str) (([(strI z_first)] : List Str) ++ x1)) _ by kqd_all) g7 ?_
  dl_open
  exact h F8 H6 (by kas_types)
theorem ok_law_text (T : TX K mg)  : CalOk P w K mg base "_law_text" 1 (["_law_first", "_law_rows"] : List Str) (sp_law_text K) :=
  T.cal 16 44 (d := d_law_text) rfl rfl rfl rfl rfl sc_law_text (len_law_text) (fun _ _ _ _ _ _ _ us hl => match us, hl with | [_, _], _ => rfl) (fun cdv A outer s H vs Q E hr h => ⟨t_law_text K E, (by exact (pss_one (ps_ret (pe_m1 PySem.F.slot_str_join PySem.F.type_str_join mt_join pe_str (pe_op op_addU (pe_lst (pa_cons (pe_callTy call_str_int (by rfl) (T.free 15) (by decide +kernel) (pa_cons (pv 0) pa_nil)) pa_nil)) (pe_lc (own := [("_law_line", 2)]) (g := (gName 2)) (tt := tYes) (te := (tM1 (rJoinT K) (tC (.str " ")) (tLc (iSeq K (tVar 2)) (gName 3) tYes (tCB rStrInt (tCons (tVar 3) tNil)) [3]))) (by rfl) sc_law_text.nd (pi_seq (pv 1)) (blkOk_by (own := [("_law_line", 2)]) (by rfl)) (fun _ _ _ _ _ => (pg_name (i := 2) sc_law_text.nd rfl (by first | exact Or.inl rfl | exact Or.inr rfl))) (fun _ _ _ _ _ => pts_nil) (fun _ _ _ _ _ => (pe_m1 PySem.F.slot_str_join PySem.F.type_str_join mt_join pe_str (pe_lc (own := [("_law_number", 3)]) (g := (gName 3)) (tt := tYes) (te := (tCB rStrInt (tCons (tVar 3) tNil))) (by rfl) sc_law_text.nd (pi_seq (pv 2)) (blkOk_by (own := [("_law_number", 3)]) (by rfl)) (fun _ _ _ _ _ => (pg_name (i := 3) sc_law_text.nd rfl (by first | exact Or.inl rfl | exact Or.inr rfl))) (fun _ _ _ _ _ => pts_nil) (fun _ _ _ _ _ => (pe_callTy call_str_int (by rfl) (T.free 15) (by decide +kernel) (pa_cons (pv 3) pa_nil)))))))))))), pure_law_text T vs H Q E h⟩)
end
end Dot
namespace Dot
open PySem PySem.Spec PyProof.Rows L2 DK
def m_law_bad (z_script : List Int) (z_at : (List Int)) (z_row : Str) : Rs (Str × (List Int)) :=
(m_law_next z_script z_at).bnd fun x1 =>
grd (Str.length z_row ≤ 1000000) <| grd ((0 : Int) < ((Txt.split z_row " ").length : Int)) <| (ixR (Txt.split z_row " ") ((x1.1 / 6) % ((Txt.split z_row " ").length : Int))).bnd fun x2 =>
if (x1.1 % 6) = 0 then (grd (Str.length z_row + Str.length " " ≤ 1000000) <| grd (Str.length " " + Str.length z_row ≤ 1000000) <| (ixR ([(z_row ++ " "), (" " ++ z_row), ""] : List Str) ((x1.1 / 100) % 3)).bnd fun x3 =>
.ok ((x3, x1.2))) else (if (x1.1 % 6) = 1 then (grd ((cutL (Txt.split z_row " ") none (some ((x1.1 / 6) % ((Txt.split z_row " ").length : Int)))).length + ([""] : List Str).length ≤ 1000000) <| grd (((cutL (Txt.split z_row " ") none (some ((x1.1 / 6) % ((Txt.split z_row " ").length : Int)))) ++ ([""] : List Str)).length + (cutL (Txt.split z_row " ") (some ((x1.1 / 6) % ((Txt.split z_row " ").length : Int))) none).length ≤ 1000000) <| grd (joinOk " " (((cutL (Txt.split z_row " ") none (some ((x1.1 / 6) % ((Txt.split z_row " ").length : Int)))) ++ ([""] : List Str)) ++ (cutL (Txt.split z_row " ") (some ((x1.1 / 6) % ((Txt.split z_row " ").length : Int))) none)) = true) <| .ok (((Txt.join " " (((cutL (Txt.split z_row " ") none (some ((x1.1 / 6) % ((Txt.split z_row " ").length : Int)))) ++ ([""] : List Str)) ++ (cutL (Txt.split z_row " ") (some ((x1.1 / 6) % ((Txt.split z_row " ").length : Int))) none))), x1.2))) else (grd (Str.length "0" + Str.length x2 ≤ 1000000) <| grd (Str.length "-" + Str.length x2 ≤ 1000000) <| grd (Str.length "+" + Str.length x2 ≤ 1000000) <| grd (Str.length x2 + Str.length "a" ≤ 1000000) <| grd (Str.length x2 + Str.length "." ≤ 1000000) <| grd (Str.length "1" + Str.length (PySem.Txt.mul "0" 30) ≤ 1000000) <| grd (([("0" ++ x2), ("-" ++ x2), ("+" ++ x2), (x2 ++ "a"), (x2 ++ "."), ("1" ++ (PySem.Txt.mul "0" 30)), "a", "1.0", "--1", "0x1"] : List Str).length + (["1_0", "1e1"] : List Str).length ≤ 1000000) <| (ixR (([("0" ++ x2), ("-" ++ x2), ("+" ++ x2), (x2 ++ "a"), (x2 ++ "."), ("1" ++ (PySem.Txt.mul "0" 30)), "a", "1.0", "--1", "0x1"] : List Str) ++ (["1_0", "1e1"] : List Str)) ((x1.1 / 100) % 12)).bnd fun x4 =>
setR (Txt.split z_row " ") ((x1.1 / 6) % ((Txt.split z_row " ").length : Int)) x4 fun x5 =>
grd (joinOk " " x5 = true) <| .ok (((Txt.join " " x5), x1.2))))
def sp_law_bad (K : PySem.W.Frag) : Sp := fun vs H Q E => ∃ (v_script v_at v_row : V), vs = [v_script, v_at, v_row] ∧ (∃ (F : Hp) (z_script : List Int) (z_at : (List Int)) (z_row : Str), Same F H ∧ Scr K F v_script z_script ∧ (∃ (a : Addr) (ws : List V), v_at = .ref a ∧ Own F H a (.lst ws) ∧ RDs F (List.map Dat.int z_at) ws) ∧ v_row = (V.str z_row) ∧ Post (m_law_bad z_script z_at z_row) (fun r => ∀ a, v_at = .ref a → ∀ F' H', Stp [a] F H F' H' → ∀ ws, Own F' H' a (.lst ws) → RDs F' (List.map Dat.int r.2) ws → Q (V.str r.1) H') (fun c l => ∀ a, v_at = .ref a → ∀ Fx Hx dx, Stp [a] F H Fx Hx → ExD Fx l dx → E (.ref (He.ga K c.nm)) dx Hx))
theorem len_law_bad {K : PySem.W.Frag} : ∀ vs H Q E, sp_law_bad K vs H Q E → vs.length = ((["_law_script", "_law_at", "_law_row"] : List Str)).length := fun vs H Q E h => by
  obtain ⟨_, _, _, rfl, _⟩ := h
  rfl
def t_law_bad (K : PySem.W.Frag) (E : XK) : TS :=
  (tSeq (tAsg (tCall (sp_law_next K) [] E (tCons (tVar 0) (tCons (tVar 1) tNil))) (gName 3))
  (tSeq (tAsg (tM1 rSplitT (tVar 2) (tC (.str " "))) (gName 4))
  (tSeq (tAsg (tOp rModI (tOp rDivU (tVar 3) (tC (.int 6))) (tCB (rLenU K) (tCons (tVar 4) tNil))) (gName 5))
  (tSeq (tAsg (tOp (rIxU K) (tVar 4) (tVar 5)) (gName 6))
  (tSeq (tIfS (tTest (tOp (rEqU K) (tOp rModI (tVar 3) (tC (.int 6))) (tC (.int 0)))) (tRet (tOp (rIxU K) (tLst (tCons (tOp (rAddU K) (tVar 2) (tC (.str " "))) (tCons (tOp (rAddU K) (tC (.str " ")) (tVar 2)) (tCons (tC (.str "")) tNil)))) (tOp rModI (tOp rDivU (tVar 3) (tC (.int 100))) (tC (.int 3))))) tNext)
  (tSeq (tIfS (tTest (tOp (rEqU K) (tOp rModI (tVar 3) (tC (.int 6))) (tC (.int 1)))) (tRet (tM1 (rJoinT K) (tC (.str " ")) (tOp (rAddU K) (tOp (rAddU K) (tSl (rSlU K) (tVar 4) tNoPart (tPart (tVar 5))) (tLst (tCons (tC (.str "")) tNil))) (tSl (rSlU K) (tVar 4) (tPart (tVar 5)) tNoPart)))) tNext)
  (tSeq (tAsg (tLst (tCons (tOp (rAddU K) (tC (.str "0")) (tVar 6)) (tCons (tOp (rAddU K) (tC (.str "-")) (tVar 6)) (tCons (tOp (rAddU K) (tC (.str "+")) (tVar 6)) (tCons (tOp (rAddU K) (tVar 6) (tC (.str "a"))) (tCons (tOp (rAddU K) (tVar 6) (tC (.str "."))) (tCons (tOp (rAddU K) (tC (.str "1")) (tOp rStrMul (tC (.str "0")) (tC (.int 30)))) (tCons (tC (.str "a")) (tCons (tC (.str "1.0")) (tCons (tC (.str "--1")) (tCons (tC (.str "0x1")) tNil))))))))))) (gName 7))
  (tSeq (tAsg (tOp (rAddU K) (tVar 7) (tLst (tCons (tC (.str "1_0")) (tCons (tC (.str "1e1")) tNil)))) (gName 7))
  (tSeq (tAsg (tOp (rIxU K) (tVar 7) (tOp rModI (tOp rDivU (tVar 3) (tC (.int 100))) (tC (.int 12)))) (gSub (tVar 4) (tVar 5) rSetL))
  (tRet (tM1 (rJoinT K) (tC (.str " ")) (tVar 4))))))))))))
section
variable {P : Program} {w : World} {K : PySem.W.Frag} {mg : Str → Option Value} {base : Heap}
theorem pure_law_bad (T : TX K mg) (vs : List V) (H : Hp) (Q : VK) (E : XK) (h : sp_law_bad K vs H Q E) : t_law_bad K E { nx := fun _ H' => Q .non H', rt := Q } (start n_law_bad vs) H := by
  obtain ⟨v_script, v_at, v_row, rfl, h⟩ := h
  change t_law_bad K E _ [some v_script, some v_at, some v_row, none, none, none, none, none] H
  unfold t_law_bad
  obtain ⟨F, z_script, z_at, z_row, e0, hS1, ⟨a2, w_2, rfl, ho2, hr2⟩, rfl, h⟩ := h
  unfold m_law_bad at h
  dl_open
  refine ⟨_, _, rfl, F, z_script, z_at, by lcg_src, (by ktu_offI), ⟨a2, w_2, rfl, (by kat_tups), (by nest_cls)⟩, h.b.mono2 ?_ (fun c_ l_ hx_ a_ ha_ Fx_ Hx_ dx_ sx_ ex_ => by cases ha_; exact hx_ a2 rfl Fx_ Hx_ dx_ (by kas_types) ex_)⟩
  clear h
  intro x1 h a_ ha_
  cases ha_
  intro F1 H1 s1 w1 o1 r1
  dl_open
  dl_open
  refine st_m1 ?_
  dl_open
  dl_open
  refine sm_m1 ?_
  dl_open
  dl_open
  replace h := h.g
  obtain ⟨g1, h⟩ := h
  refine sm_split (F := F1) (by lcg_src) (by decide) g1 ?_
  intro L1 w2 F2 H2 s2 n1 o2 r2
  dl_open
  dl_open
  refine st_div (divS (by decide)) ?_
  dl_open
  refine sm_lenO (e := Dat.str) (F := F2) (by kat_tups) (by nest_cls) ?_
  dl_open
  replace h := h.g
  obtain ⟨g3, h⟩ := h
  refine st_mod g3 ?_
  dl_open
  dl_open
  replace h := h.ix
  obtain ⟨x2, hx1, h⟩ := h
  refine sm_ixO (e := Dat.str) (F := F2) (by kat_tups) (by nest_cls) hx1 ?_
  intro u2 r3
  cases (show u2 = (V.str x2) from r3)
  dl_open
  dl_open
  with_reducible refine DK.st_if ?_
  dl_open
  dl_open
  refine st_mod (by decide) ?_
  dl_open
  dl_open
  (refine brP h ?_ ?_) <;> clear h <;> intro c1 h
  · dl_open
    dl_open
    dl_open
    replace h := h.g
    obtain ⟨g5, h⟩ := h
    refine sm_addS g5 ?_
    dl_open
    replace h := h.g
    obtain ⟨g6, h⟩ := h
    refine sm_addS g6 ?_
    dl_open
    refine newL (by simp) (F := F2) (by lcg_src) (ds := [Dat.str (z_row ++ " "), Dat.str (" " ++ z_row), Dat.str ""]) (by nest_cls) ?_
    intro u3 F3 H3 s3 r4
    have r4 : RD F3 ((eL Dat.str) ([(z_row ++ " "), (" " ++ z_row), ""] : List Str)) u3 := r4
    dl_open
    refine st_div (divS (by decide)) ?_
    dl_open
    refine st_mod (by decide) ?_
    dl_open
    replace h := h.ix
    obtain ⟨x3, hx2, h⟩ := h
    refine sm_ixL (e := Dat.str) (F := F3) (by lcg_src) (by kqd_all) hx2 ?_
    intro u4 r5
    cases (show u4 = (V.str x3) from r5)
    dl_open
    exact h a2 rfl F3 H3 (by kas_types) _ (by kat_tups) (by nest_cls)
  · dl_open
    dl_open
    with_reducible refine DK.st_if ?_
    dl_open
    dl_open
    refine st_mod (by decide) ?_
    dl_open
    dl_open
    (refine brP h ?_ ?_) <;> clear h <;> intro c2 h
    · dl_open
      dl_open
      dl_open
      refine st_m1 ?_
      dl_open
      dl_open
      refine sm_m1 ?_
      dl_open
      dl_open
      refine sm_slO (e := Dat.str) (F := F2) (by lcg_src) (by kat_tups) (by nest_cls) ?_
      intro u5 F4 H4 s4 r6
      dl_open
      refine newL (by simp) (F := F4) (by lcg_src) (ds := [Dat.str ""]) (by nest_cls) ?_
      intro u6 F5 H5 s5 r7
      have r7 : RD F5 ((eL Dat.str) ([""] : List Str)) u6 := r7
      dl_open
      replace h := h.g
      obtain ⟨g10, h⟩ := h
      refine sm_cat (e := Dat.str) (F := F5) (by lcg_src) (by kqd_all) (by kqd_all) g10 ?_
      intro u7 F6 H6 s6 r8
      dl_open
      refine sm_slO (e := Dat.str) (F := F6) (by lcg_src) (by kat_tups) (by nest_cls) ?_
      intro u8 F7 H7 s7 r9
      dl_open
      replace h := h.g
      obtain ⟨g11, h⟩ := h
      refine sm_cat (e := Dat.str) (F := F7) (by lcg_src) (by kqd_all) (by kqd_all) g11 ?_
      intro u9 F8 H8 s8 r10
      dl_open
      replace h := h.g
      obtain ⟨g12, h⟩ := h
      refine sm_joinL (F := F8) (by lcg_src) (show RD F8 ((eL Dat.str) (((cutL (Txt.split z_row " ") none (some ((x1.1 / 6) % ((Txt.split z_row " ").length : Int)))) ++ ([""] : List Str)) ++ (cutL (Txt.split z_row " ") (some ((x1.1 / 6) % ((Txt.split z_row " ").length : Int))) none))) _ by kqd_all) g12 ?_
      dl_open
      exact h a2 rfl F8 H8 (by kas_types) _ (by kat_tups) (by nest_cls)
    · dl_open
      dl_open
      replace h := h.g
      obtain ⟨g13, h⟩ := h
      refine sm_addS g13 ?_
      dl_open
      replace h := h.g
      obtain ⟨g14, h⟩ := h
      refine sm_addS g14 ?_
      dl_open
      replace h := h.g
      obtain ⟨g15, h⟩ := h
      refine sm_addS g15 ?_
      dl_open
      replace h := h.g
      obtain ⟨g16, h⟩ := h
      refine sm_addS g16 ?_
      dl_open
      replace h := h.g
      obtain ⟨g17, h⟩ := h
      refine sm_addS g17 ?_
      dl_open
      refine ⟨_, _, rfl, rfl, zero30, ?_⟩
      dl_open
      replace h := h.g
      obtain ⟨g18, h⟩ := h
      refine sm_addS g18 ?_
      dl_open
      refine newL (by simp) (F := F2) (by lcg_src) (ds := [Dat.str ("0" ++ x2), Dat.str ("-" ++ x2), Dat.str ("+" ++ x2), Dat.str (x2 ++ "a"), Dat.str (x2 ++ "."), Dat.str ("1" ++ (PySem.Txt.mul "0" 30)), Dat.str "a", Dat.str "1.0", Dat.str "--1", Dat.str "0x1"]) (by nest_cls) ?_
      intro u10 F9 H9 s9 r11
      have r11 : RD F9 ((eL Dat.str) ([("0" ++ x2), ("-" ++ x2), ("+" ++ x2), (x2 ++ "a"), (x2 ++ "."), ("1" ++ (PySem.Txt.mul "0" 30)), "a", "1.0", "--1", "0x1"] : List Str)) u10 := r11
      dl_open
      dl_open
      refine newL (by simp) (F := F9) (by lcg_src) (ds := [Dat.str "1_0", Dat.str "1e1"]) (by nest_cls) ?_
      intro u11 F10 H10 s10 r12
      have r12 : RD F10 ((eL Dat.str) (["1_0", "1e1"] : List Str)) u11 := r12
      dl_open
      replace h := h.g
      obtain ⟨g19, h⟩ := h
      refine sm_cat (e := Dat.str) (F := F10) (by lcg_src) (by kqd_all) (by kqd_all) g19 ?_
      intro u12 F11 H11 s11 r13
      dl_open
      dl_open
      refine st_div (divS (by decide)) ?_
      dl_open
      refine st_mod (by decide) ?_
      dl_open
      replace h := h.ix
      obtain ⟨x4, hx3, h⟩ := h
      refine sm_ixL (e := Dat.str) (F := F11) (by lcg_src) (by kqd_all) hx3 ?_
      intro u13 r14
      cases (show u13 = (V.str x4) from r14)
      dl_open
      dl_open
      replace h := h.st
      obtain ⟨n2, hn1, h⟩ := h
      refine sm_set (e := Dat.str) (F := F11) (by lcg_src) (by kat_tups) (by nest_cls) (by kqd_all) hn1 ?_
      intro w3 F12 H12 s12 o3 r15
      generalize List.set (Txt.split z_row " ") n2 x4 = x5 at h r15
      dl_open
      dl_open
      dl_open
      refine st_m1 ?_
      dl_open
      dl_open
      refine sm_m1 ?_
      dl_open
      obtain ⟨F13, s13, r16⟩ := own_fz (F := F12) (by lcg_src) (by kat_tups) (by nest_cls : RDs F12 (List.map Dat.str x5) w3)
      dl_open
      replace h := h.g
      obtain ⟨g22, h⟩ := h
      refine sm_joinL (F := F13) (by lcg_src) (show RD F13 ((eL Dat.str) x5) _ by kqd_all) g22 ?_
      dl_open
      exact h a2 rfl F13 H12 (by kas_types) _ (by kat_tups) (by nest_cls)
theorem ok_law_bad (T : TX K mg) (c_law_next : CalOk P w K mg base "_law_next" 1 (["_law_script", "_law_at"] : List Str) (sp_law_next K)) : CalOk P w K mg base "_law_bad" 2 (["_law_script", "_law_at", "_law_row"] : List Str) (sp_law_bad K) :=
  T.cal 18 46 (d := d_law_bad) rfl rfl rfl rfl rfl sc_law_bad (len_law_bad) (fun _ _ _ _ _ _ _ us hl => match us, hl with | [_, _, _], _ => rfl) (fun cdv A outer s H vs Q E hr h => ⟨t_law_bad K E, (by exact (pss_cons (ps_set (i := 3) sc_law_bad.nd rfl (by first | exact Or.inl rfl | exact Or.inr rfl) (pe_callC c_law_next (hr.mono (by decide)) rfl (L2N.passes_call (L2N.takes_of rfl rfl rfl rfl) (fun _ _ _ _ h => h)) (pa_cons (pv 0) (pa_cons (pv 1) pa_nil))))
  (pss_cons (ps_set (i := 4) sc_law_bad.nd rfl (by first | exact Or.inl rfl | exact Or.inr rfl) (pe_m1 PySem.F.slot_str_split PySem.F.type_str_split mt_split (pv 2) pe_str))
  (pss_cons (ps_set (i := 5) sc_law_bad.nd rfl (by first | exact Or.inl rfl | exact Or.inr rfl) (pe_op op_mod (pe_op op_divU (pv 3) pe_int) (pe_callB call_lenU (by rfl) (T.free 0) (by decide +kernel) (pa_cons (pv 4) pa_nil))))
  (pss_cons (ps_set (i := 6) sc_law_bad.nd rfl (by first | exact Or.inl rfl | exact Or.inr rfl) (pe_ix ix_U (pv 4) (pv 5) (fun _ _ => rfl)))
  (pss_cons (ps_if (pt_cmpR (op_eqU hr.units) (pe_op op_mod (pv 3) pe_int) pe_int (nomark _)) (pss_one (ps_ret (pe_ix ix_U (pe_lst (pa_cons (pe_op op_addU (pv 2) pe_str) (pa_cons (pe_op op_addU pe_str (pv 2)) (pa_cons pe_str pa_nil)))) (pe_op op_mod (pe_op op_divU (pv 3) pe_int) pe_int) (fun _ _ => rfl)))) pss_nil)
  (pss_cons (ps_if (pt_cmpR (op_eqU hr.units) (pe_op op_mod (pv 3) pe_int) pe_int (nomark _)) (pss_one (ps_ret (pe_m1 PySem.F.slot_str_join PySem.F.type_str_join mt_join pe_str (pe_op op_addU (pe_op op_addU (pe_slice sl_U (pv 4) po_none (po_some (pv 5))) (pe_lst (pa_cons pe_str pa_nil))) (pe_slice sl_U (pv 4) (po_some (pv 5)) po_none))))) pss_nil)
  (pss_cons (ps_set (i := 7) sc_law_bad.nd rfl (by first | exact Or.inl rfl | exact Or.inr rfl) (pe_lst (pa_cons (pe_op op_addU pe_str (pv 6)) (pa_cons (pe_op op_addU pe_str (pv 6)) (pa_cons (pe_op op_addU pe_str (pv 6)) (pa_cons (pe_op op_addU (pv 6) pe_str) (pa_cons (pe_op op_addU (pv 6) pe_str) (pa_cons (pe_op op_addU pe_str (pe_op op_strMul pe_str pe_int)) (pa_cons pe_str (pa_cons pe_str (pa_cons pe_str (pa_cons pe_str pa_nil))))))))))))
  (pss_cons (ps_set (i := 7) sc_law_bad.nd rfl (by first | exact Or.inl rfl | exact Or.inr rfl) (pe_op op_addU (pv 7) (pe_lst (pa_cons pe_str (pa_cons pe_str pa_nil)))))
  (pss_cons (ps_asg (pe_ix ix_U (pv 7) (pe_op op_mod (pe_op op_divU (pv 3) pe_int) pe_int) (fun _ _ => rfl)) (pg_sub (pv 4) (pv 5) set_list))
  (pss_one (ps_ret (pe_m1 PySem.F.slot_str_join PySem.F.type_str_join mt_join pe_str (pv 4)))))))))))))), pure_law_bad T vs H Q E h⟩)
end
end Dot
namespace Dot
open PySem PySem.Spec PyProof.Rows L2 DK
def spn_law_same (n : Nat) (K : PySem.W.Frag) : Sp := fun vs H Q E => ∃ (v_found v_due : V), vs = [v_found, v_due] ∧ (∃ (F : Hp) (d e : Dat), Same F H ∧ RD F d v_found ∧ RD F e v_due ∧ dep d ≤ n ∧ dep e ≤ n ∧ n ≤ 60 ∧ wid d ≤ 1000000 ∧ nn e = true ∧ ∀ F' H', Stp [] F H F' H' → Q (.bl (sameD d e)) H')
abbrev sp_law_same (K : PySem.W.Frag) : Sp := spn_law_same 8 K
theorem len_law_same (n : Nat) {K : PySem.W.Frag} : ∀ vs H Q E, spn_law_same n K vs H Q E → vs.length = ((["_law_found", "_law_due"] : List Str)).length := fun vs H Q E h => by
  obtain ⟨_, _, rfl, _⟩ := h
  rfl
def t_law_same (spR : Sp) (K : PySem.W.Frag) (E : XK) : TS :=
  (tSeq (tIfS (tTest (tOp rIsN (tVar 1) (tC .non))) (tRet (tOp rIsN (tVar 0) (tC .non))) tNext)
  (tSeq (tIfS (tB (tCB (rIsi K) (tCons (tVar 1) (tCons (tC (.ty "dict")) tNil)))) (tSeq (tIfS (tOr (tNot (tB (tCB (rIsi K) (tCons (tVar 0) (tCons (tC (.ty "dict")) tNil))))) (tTest (tOp (rNeU K) (tCB (rLenU K) (tCons (tVar 0) tNil)) (tCB (rLenU K) (tCons (tVar 1) tNil))))) (tRet (tC (.bl false))) tNext)
  (tRet (tCB (rAll K) (tCons (tLc (iSeq K (tVar 1)) (gName 2) tYes (tAndV (tOp (rInU K false) (tVar 2) (tVar 0)) (tCall spR [] E0 (tCons (tOp (rIxU K) (tVar 0) (tVar 2)) (tCons (tOp (rIxU K) (tVar 1) (tVar 2)) tNil)))) [2]) tNil)))) tNext)
  (tSeq (tIfS (tOr (tB (tCB (rIsi K) (tCons (tVar 1) (tCons (tC (.ty "list")) tNil)))) (tB (tCB (rIsi K) (tCons (tVar 1) (tCons (tC (.ty "tuple")) tNil))))) (tSeq (tIfS (tAnd (tB (tCB (rIsi K) (tCons (tVar 1) (tCons (tC (.ty "list")) tNil)))) (tNot (tB (tCB (rIsi K) (tCons (tVar 0) (tCons (tC (.ty "list")) tNil)))))) (tRet (tC (.bl false))) tNext)
  (tSeq (tIfS (tOr (tAnd (tB (tCB (rIsi K) (tCons (tVar 1) (tCons (tC (.ty "tuple")) tNil)))) (tNot (tB (tCB (rIsi K) (tCons (tVar 0) (tCons (tC (.ty "tuple")) tNil)))))) (tTest (tOp (rNeU K) (tCB (rLenU K) (tCons (tVar 0) tNil)) (tCB (rLenU K) (tCons (tVar 1) tNil))))) (tRet (tC (.bl false))) tNext)
  (tRet (tCB (rAll K) (tCons (tLc (iZipU K (tCons (tVar 0) (tCons (tVar 1) tNil))) (gTupU K 2 (gCons (gName 3) (gCons (gName 4) gNil))) tYes (tCall spR [] E0 (tCons (tVar 3) (tCons (tVar 4) tNil))) [3, 4]) tNil))))) tNext)
  (tSeq (tIfS (tB (tCB (rIsi K) (tCons (tVar 1) (tCons (tC (.ty "str")) tNil)))) (tRet (tAndV (tCB (rIsi K) (tCons (tVar 0) (tCons (tC (.ty "str")) tNil))) (tOp (rEqU K) (tVar 0) (tVar 1)))) tNext)
  (tRet (tAndV (tCB (rIsi K) (tCons (tVar 0) (tCons (tC (.ty "int")) tNil))) (tAndV (tNotV (tCB (rIsi K) (tCons (tVar 0) (tCons (tC (.ty "bool")) tNil)))) (tOp (rEqU K) (tVar 0) (tVar 1)))))))))
section
variable {P : Program} {w : World} {K : PySem.W.Frag} {mg : Str → Option Value} {base : Heap}
theorem spz_law_same {K : PySem.W.Frag} : ∀ vs H Q E, spn_law_same 0 K vs H Q E → False := fun vs H Q E h => by
  obtain ⟨_, _, _, F, d, e, _, _, _, z, _⟩ := h
  have := dep_pos d
  omega
theorem pure_law_same (T : TX K mg) (n : Nat) (vs : List V) (H : Hp) (Q : VK) (E : XK) (h : spn_law_same (n + 1) K vs H Q E) : t_law_same (spn_law_same n K) K E { nx := fun _ H' => Q .non H', rt := Q } (start n_law_same vs) H := by
  obtain ⟨v_found, v_due, rfl, h⟩ := h
  change t_law_same _ K E _ [some v_found, some v_due, none, none, none] H
  unfold t_law_same
  obtain ⟨F, d, e, hs, h1, h2, z1, z2, zn, zw, zN, k⟩ := h
  have k0 : Q (.bl (sameD d e)) H := k F H (Stp.refl hs)
  have q1 : ∀ (T : String) (b : Bool) (Q : VK), kitB (tyN d) T = some b → Q (.bl b) H → rIsi K [v_found, .ty T] H Q := fun T b Q e k => sm_isb hs h1 (by omega) e k
  have q2 : ∀ (T : String) (b : Bool) (Q : VK), kitB (tyN e) T = some b → Q (.bl b) H → rIsi K [v_due, .ty T] H Q := fun T b Q e k => sm_isb hs h2 (by omega) e k
  have two : ∀ (ds es : List Dat) (m : Nat), deps ds ≤ m → deps es ≤ m → wids ds ≤ 1000000 → nns es = true → ds.length = es.length → Post (mapR (fun (p : Dat × Dat) => if dep p.1 ≤ m ∧ dep p.2 ≤ m ∧ wid p.1 ≤ 1000000 ∧ nn p.2 = true then (.ok (some (sameD p.1 p.2)) : Rs (Option Bool)) else .bad) (ds.zip es)) (fun r => r.all id = samesD ds es) (fun _ _ => False) := by
    intro ds es m h1 h2 h3 h4 hl
    rw [mapR_map (fun p : Dat × Dat => sameD p.1 p.2) _ (fun p hp => by
      have m1 := deps_mem (List.of_mem_zip hp).1
      have m2 := deps_mem (List.of_mem_zip hp).2
      have m3 := wids_mem (List.of_mem_zip hp).1
      rw [if_pos ⟨by omega, by omega, by omega, nns_mem h4 (List.of_mem_zip hp).2⟩])]
    exact (samesD_zip ds es hl).symm
  have turn : ∀ (x : Dat × Dat) (u : V) F1 H1, RD F1 (eP (fun d => d) (fun d => d) x) u → Stp [] F H F1 H1 → LcTurn (gTupU K 2 (gCons (gName 3) (gCons (gName 4) gNil))) tYes (tCall (spn_law_same n K) [] E0 (tCons (tVar 3) (tCons (tVar 4) tNil))) [3, 4] [some v_found, some v_due, none, none, none] Dat.bl F1 H1 F1 H1 (if dep x.1 ≤ n ∧ dep x.2 ≤ n ∧ wid x.1 ≤ 1000000 ∧ nn x.2 = true then (.ok (some (sameD x.1 x.2)) : Rs (Option Bool)) else .bad) (fun _ _ => False) u := by
    intro x u F1 H1 r t PN NY NN kY kN h
    by_cases z : dep x.1 ≤ n ∧ dep x.2 ≤ n ∧ wid x.1 ≤ 1000000 ∧ nn x.2 = true
    · rw [if_pos z] at h
      refine sm_g2 (F := F1) t.inn r ?_
      intro a b ra rb
      dl_open
      refine ⟨rfl, ?_⟩
      dl_open
      exact ⟨_, _, rfl, F1, x.1, x.2, t.inn, ra, rb, z.1, z.2.1, by omega, z.2.2.1, z.2.2.2, fun F' H' t' => kY _ _ F' H' t' RD.bl_ h⟩
    · rw [if_neg z] at h
      exact h.elim
  cases e with
  | lst es =>
    have qn : ∀ {Q : VK}, Q (.bl false) H → rIsN v_due .non H Q := fun k => st_isN0 (rd_ref h2 rfl) k
    have qd : ∀ {Q : VK}, Q (.bl false) H → rIsi K [v_due, .ty "dict"] H Q := fun k => q2 _ _ _ (show kitB "list" "dict" = some false by decide +kernel) k
    have ql : ∀ {Q : VK}, Q (.bl true) H → rIsi K [v_due, .ty "list"] H Q := fun k => q2 _ _ _ (show kitB "list" "list" = some true by decide +kernel) k
    have qt : ∀ {Q : VK}, Q (.bl false) H → rIsi K [v_due, .ty "tuple"] H Q := fun k => q2 _ _ _ (show kitB "list" "tuple" = some false by decide +kernel) k
    by_cases hd : ∃ ds, d = .lst ds
    · obtain ⟨ds, rfl⟩ := hd
      have fl : ∀ {Q : VK}, Q (.bl true) H → rIsi K [v_found, .ty "list"] H Q := fun k => q1 _ _ _ (show kitB "list" "list" = some true by decide +kernel) k
      have ft : ∀ {Q : VK}, Q (.bl false) H → rIsi K [v_found, .ty "tuple"] H Q := fun k => q1 _ _ _ (show kitB "list" "tuple" = some false by decide +kernel) k

      (repeat (first | with_reducible refine qn ?_ | with_reducible refine DK.st_and ?_ | with_reducible refine DK.st_neI ?_ | with_reducible refine qd ?_ | with_reducible refine ql ?_ | with_reducible refine qt ?_ | with_reducible refine qs ?_ | with_reducible refine fl ?_ | with_reducible refine ft ?_ | with_reducible refine fs ?_ | with_reducible refine fi ?_ | with_reducible refine fb ?_ | kp_flats | with_reducible refine DK.st_neBs ?_ | with_reducible refine DK.st_neBd1 ?_ | with_reducible refine DK.st_neBd2 ?_ | with_reducible refine DK.st_andV ?_ | with_reducible refine DK.st_andT ?_ | with_reducible refine DK.st_andF ?_ | with_reducible refine DK.st_or ?_ | with_reducible refine DK.st_if ?_))
      refine st_lenL hs h1 ?_
      (repeat (first | with_reducible refine qn ?_ | with_reducible refine DK.st_and ?_ | with_reducible refine DK.st_neI ?_ | with_reducible refine qd ?_ | with_reducible refine ql ?_ | with_reducible refine qt ?_ | with_reducible refine qs ?_ | with_reducible refine fl ?_ | with_reducible refine ft ?_ | with_reducible refine fs ?_ | with_reducible refine fi ?_ | with_reducible refine fb ?_ | kp_flats | with_reducible refine DK.st_neBs ?_ | with_reducible refine DK.st_neBd1 ?_ | with_reducible refine DK.st_neBd2 ?_ | with_reducible refine DK.st_andV ?_ | with_reducible refine DK.st_andT ?_ | with_reducible refine DK.st_andF ?_ | with_reducible refine DK.st_or ?_ | with_reducible refine DK.st_if ?_))
      refine st_lenL hs h2 ?_
      (repeat (first | with_reducible refine qn ?_ | with_reducible refine DK.st_and ?_ | with_reducible refine DK.st_neI ?_ | with_reducible refine qd ?_ | with_reducible refine ql ?_ | with_reducible refine qt ?_ | with_reducible refine qs ?_ | with_reducible refine fl ?_ | with_reducible refine ft ?_ | with_reducible refine fs ?_ | with_reducible refine fi ?_ | with_reducible refine fb ?_ | kp_flats | with_reducible refine DK.st_neBs ?_ | with_reducible refine DK.st_neBd1 ?_ | with_reducible refine DK.st_neBd2 ?_ | with_reducible refine DK.st_andV ?_ | with_reducible refine DK.st_andT ?_ | with_reducible refine DK.st_andF ?_ | with_reducible refine DK.st_or ?_ | with_reducible refine DK.st_if ?_))
      by_cases hl : ds.length = es.length
      · rw [decide_eq_true (by rw [hl])]
        (repeat (first | with_reducible refine qn ?_ | with_reducible refine DK.st_and ?_ | with_reducible refine DK.st_neI ?_ | with_reducible refine qd ?_ | with_reducible refine ql ?_ | with_reducible refine qt ?_ | with_reducible refine qs ?_ | with_reducible refine fl ?_ | with_reducible refine ft ?_ | with_reducible refine fs ?_ | with_reducible refine fi ?_ | with_reducible refine fb ?_ | kp_flats | with_reducible refine DK.st_neBs ?_ | with_reducible refine DK.st_neBd1 ?_ | with_reducible refine DK.st_neBd2 ?_ | with_reducible refine DK.st_andV ?_ | with_reducible refine DK.st_andT ?_ | with_reducible refine DK.st_andF ?_ | with_reducible refine DK.st_or ?_ | with_reducible refine DK.st_if ?_))
        refine st_lc ?_
        refine st_zip ?_
        (repeat (first | with_reducible refine qn ?_ | with_reducible refine DK.st_and ?_ | with_reducible refine DK.st_neI ?_ | with_reducible refine qd ?_ | with_reducible refine ql ?_ | with_reducible refine qt ?_ | with_reducible refine qs ?_ | with_reducible refine fl ?_ | with_reducible refine ft ?_ | with_reducible refine fs ?_ | with_reducible refine fi ?_ | with_reducible refine fb ?_ | kp_flats | with_reducible refine DK.st_neBs ?_ | with_reducible refine DK.st_neBd1 ?_ | with_reducible refine DK.st_neBd2 ?_ | with_reducible refine DK.st_andV ?_ | with_reducible refine DK.st_andT ?_ | with_reducible refine DK.st_andF ?_ | with_reducible refine DK.st_or ?_ | with_reducible refine DK.st_if ?_))
        simp only [dep] at z1 z2
        simp only [wid] at zw
        refine lc_ZL (e := fun d => d) (e' := fun d => d) (e2 := Dat.bl) (F := F) (by simpa using h1) (by simpa using h2) hs (zs := ds) (ys := es) (by omega) (two ds es n (by omega) (by omega) (by omega) (by simpa only [nn] using zN) hl) turn ?_
        intro L vs r F' H' t nL o rr hr
        obtain ⟨F2, t2, r2⟩ := own_fz (F := F') t.inn o rr
        refine sm_allL t2.inn r2 ?_
        rw [hr]
        have := k _ _ (t.trans t2 (sub_new nL sub_nil))
        simpa only [sameD] using this
      · rw [decide_eq_false (by intro z; exact hl (by omega))]
        (repeat (first | with_reducible refine qn ?_ | with_reducible refine DK.st_and ?_ | with_reducible refine DK.st_neI ?_ | with_reducible refine qd ?_ | with_reducible refine ql ?_ | with_reducible refine qt ?_ | with_reducible refine qs ?_ | with_reducible refine fl ?_ | with_reducible refine ft ?_ | with_reducible refine fs ?_ | with_reducible refine fi ?_ | with_reducible refine fb ?_ | kp_flats | with_reducible refine DK.st_neBs ?_ | with_reducible refine DK.st_neBd1 ?_ | with_reducible refine DK.st_neBd2 ?_ | with_reducible refine DK.st_andV ?_ | with_reducible refine DK.st_andT ?_ | with_reducible refine DK.st_andF ?_ | with_reducible refine DK.st_or ?_ | with_reducible refine DK.st_if ?_))
        have e0 : sameD (.lst ds) (.lst es) = false := by simp only [sameD]; exact samesD_ne hl
        rw [e0] at k0
        exact k0
    · have fl : ∀ {Q : VK}, Q (.bl false) H → rIsi K [v_found, .ty "list"] H Q := fun k => q1 _ _ _ (by cases d <;> first | (simp only [dep] at z1; omega) | (first | exact absurd ⟨_, rfl⟩ hd | exact absurd ⟨_, rfl⟩ hd2 | (simp only [tyN]; decide +kernel))) k
      (repeat (first | with_reducible refine qn ?_ | with_reducible refine DK.st_and ?_ | with_reducible refine DK.st_neI ?_ | with_reducible refine qd ?_ | with_reducible refine ql ?_ | with_reducible refine qt ?_ | with_reducible refine qs ?_ | with_reducible refine fl ?_ | with_reducible refine ft ?_ | with_reducible refine fs ?_ | with_reducible refine fi ?_ | with_reducible refine fb ?_ | kp_flats | with_reducible refine DK.st_neBs ?_ | with_reducible refine DK.st_neBd1 ?_ | with_reducible refine DK.st_neBd2 ?_ | with_reducible refine DK.st_andV ?_ | with_reducible refine DK.st_andT ?_ | with_reducible refine DK.st_andF ?_ | with_reducible refine DK.st_or ?_ | with_reducible refine DK.st_if ?_))
      have e0 : sameD d (.lst es) = false := by cases d <;> first | exact absurd ⟨_, rfl⟩ hd | simp only [sameD]
      rw [e0] at k0
      exact k0
  | tup es =>
    have qn : ∀ {Q : VK}, Q (.bl false) H → rIsN v_due .non H Q := fun k => st_isN0 (rd_ref h2 rfl) k
    have qd : ∀ {Q : VK}, Q (.bl false) H → rIsi K [v_due, .ty "dict"] H Q := fun k => q2 _ _ _ (show kitB "tuple" "dict" = some false by decide +kernel) k
    have ql : ∀ {Q : VK}, Q (.bl false) H → rIsi K [v_due, .ty "list"] H Q := fun k => q2 _ _ _ (show kitB "tuple" "list" = some false by decide +kernel) k
    have qt : ∀ {Q : VK}, Q (.bl true) H → rIsi K [v_due, .ty "tuple"] H Q := fun k => q2 _ _ _ (show kitB "tuple" "tuple" = some true by decide +kernel) k
    by_cases hd : ∃ ds, d = .tup ds
    · obtain ⟨ds, rfl⟩ := hd
      have fl : ∀ {Q : VK}, Q (.bl false) H → rIsi K [v_found, .ty "list"] H Q := fun k => q1 _ _ _ (show kitB "tuple" "list" = some false by decide +kernel) k
      have ft : ∀ {Q : VK}, Q (.bl true) H → rIsi K [v_found, .ty "tuple"] H Q := fun k => q1 _ _ _ (show kitB "tuple" "tuple" = some true by decide +kernel) k

      (repeat (first | with_reducible refine qn ?_ | with_reducible refine DK.st_and ?_ | with_reducible refine DK.st_neI ?_ | with_reducible refine qd ?_ | with_reducible refine ql ?_ | with_reducible refine qt ?_ | with_reducible refine qs ?_ | with_reducible refine fl ?_ | with_reducible refine ft ?_ | with_reducible refine fs ?_ | with_reducible refine fi ?_ | with_reducible refine fb ?_ | kp_flats | with_reducible refine DK.st_neBs ?_ | with_reducible refine DK.st_neBd1 ?_ | with_reducible refine DK.st_neBd2 ?_ | with_reducible refine DK.st_andV ?_ | with_reducible refine DK.st_andT ?_ | with_reducible refine DK.st_andF ?_ | with_reducible refine DK.st_or ?_ | with_reducible refine DK.st_if ?_))
      refine st_lenT hs h1 ?_
      (repeat (first | with_reducible refine qn ?_ | with_reducible refine DK.st_and ?_ | with_reducible refine DK.st_neI ?_ | with_reducible refine qd ?_ | with_reducible refine ql ?_ | with_reducible refine qt ?_ | with_reducible refine qs ?_ | with_reducible refine fl ?_ | with_reducible refine ft ?_ | with_reducible refine fs ?_ | with_reducible refine fi ?_ | with_reducible refine fb ?_ | kp_flats | with_reducible refine DK.st_neBs ?_ | with_reducible refine DK.st_neBd1 ?_ | with_reducible refine DK.st_neBd2 ?_ | with_reducible refine DK.st_andV ?_ | with_reducible refine DK.st_andT ?_ | with_reducible refine DK.st_andF ?_ | with_reducible refine DK.st_or ?_ | with_reducible refine DK.st_if ?_))
      refine st_lenT hs h2 ?_
      (repeat (first | with_reducible refine qn ?_ | with_reducible refine DK.st_and ?_ | with_reducible refine DK.st_neI ?_ | with_reducible refine qd ?_ | with_reducible refine ql ?_ | with_reducible refine qt ?_ | with_reducible refine qs ?_ | with_reducible refine fl ?_ | with_reducible refine ft ?_ | with_reducible refine fs ?_ | with_reducible refine fi ?_ | with_reducible refine fb ?_ | kp_flats | with_reducible refine DK.st_neBs ?_ | with_reducible refine DK.st_neBd1 ?_ | with_reducible refine DK.st_neBd2 ?_ | with_reducible refine DK.st_andV ?_ | with_reducible refine DK.st_andT ?_ | with_reducible refine DK.st_andF ?_ | with_reducible refine DK.st_or ?_ | with_reducible refine DK.st_if ?_))
      by_cases hl : ds.length = es.length
      · rw [decide_eq_true (by rw [hl])]
        (repeat (first | with_reducible refine qn ?_ | with_reducible refine DK.st_and ?_ | with_reducible refine DK.st_neI ?_ | with_reducible refine qd ?_ | with_reducible refine ql ?_ | with_reducible refine qt ?_ | with_reducible refine qs ?_ | with_reducible refine fl ?_ | with_reducible refine ft ?_ | with_reducible refine fs ?_ | with_reducible refine fi ?_ | with_reducible refine fb ?_ | kp_flats | with_reducible refine DK.st_neBs ?_ | with_reducible refine DK.st_neBd1 ?_ | with_reducible refine DK.st_neBd2 ?_ | with_reducible refine DK.st_andV ?_ | with_reducible refine DK.st_andT ?_ | with_reducible refine DK.st_andF ?_ | with_reducible refine DK.st_or ?_ | with_reducible refine DK.st_if ?_))
        refine st_lc ?_
        refine st_zip ?_
        (repeat (first | with_reducible refine qn ?_ | with_reducible refine DK.st_and ?_ | with_reducible refine DK.st_neI ?_ | with_reducible refine qd ?_ | with_reducible refine ql ?_ | with_reducible refine qt ?_ | with_reducible refine qs ?_ | with_reducible refine fl ?_ | with_reducible refine ft ?_ | with_reducible refine fs ?_ | with_reducible refine fi ?_ | with_reducible refine fb ?_ | kp_flats | with_reducible refine DK.st_neBs ?_ | with_reducible refine DK.st_neBd1 ?_ | with_reducible refine DK.st_neBd2 ?_ | with_reducible refine DK.st_andV ?_ | with_reducible refine DK.st_andT ?_ | with_reducible refine DK.st_andF ?_ | with_reducible refine DK.st_or ?_ | with_reducible refine DK.st_if ?_))
        simp only [dep] at z1 z2
        simp only [wid] at zw
        refine lc_ZT (e := fun d => d) (e' := fun d => d) (e2 := Dat.bl) (F := F) (by simpa using h1) (by simpa using h2) hs (zs := ds) (ys := es) (by omega) (two ds es n (by omega) (by omega) (by omega) (by simpa only [nn] using zN) hl) turn ?_
        intro L vs r F' H' t nL o rr hr
        obtain ⟨F2, t2, r2⟩ := own_fz (F := F') t.inn o rr
        refine sm_allL t2.inn r2 ?_
        rw [hr]
        have := k _ _ (t.trans t2 (sub_new nL sub_nil))
        simpa only [sameD] using this
      · rw [decide_eq_false (by intro z; exact hl (by omega))]
        (repeat (first | with_reducible refine qn ?_ | with_reducible refine DK.st_and ?_ | with_reducible refine DK.st_neI ?_ | with_reducible refine qd ?_ | with_reducible refine ql ?_ | with_reducible refine qt ?_ | with_reducible refine qs ?_ | with_reducible refine fl ?_ | with_reducible refine ft ?_ | with_reducible refine fs ?_ | with_reducible refine fi ?_ | with_reducible refine fb ?_ | kp_flats | with_reducible refine DK.st_neBs ?_ | with_reducible refine DK.st_neBd1 ?_ | with_reducible refine DK.st_neBd2 ?_ | with_reducible refine DK.st_andV ?_ | with_reducible refine DK.st_andT ?_ | with_reducible refine DK.st_andF ?_ | with_reducible refine DK.st_or ?_ | with_reducible refine DK.st_if ?_))
        have e0 : sameD (.tup ds) (.tup es) = false := by simp only [sameD]; exact samesD_ne hl
        rw [e0] at k0
        exact k0
    · have e0 : sameD d (.tup es) = false := by cases d <;> first | exact absurd ⟨_, rfl⟩ hd | simp only [sameD]
      rw [e0] at k0
      by_cases hd2 : ∃ ds, d = .lst ds
      · obtain ⟨ds, rfl⟩ := hd2
        have fl : ∀ {Q : VK}, Q (.bl true) H → rIsi K [v_found, .ty "list"] H Q := fun k => q1 _ _ _ (show kitB "list" "list" = some true by decide +kernel) k
        have ft : ∀ {Q : VK}, Q (.bl false) H → rIsi K [v_found, .ty "tuple"] H Q := fun k => q1 _ _ _ (show kitB "list" "tuple" = some false by decide +kernel) k
        (repeat (first | with_reducible refine qn ?_ | with_reducible refine DK.st_and ?_ | with_reducible refine DK.st_neI ?_ | with_reducible refine qd ?_ | with_reducible refine ql ?_ | with_reducible refine qt ?_ | with_reducible refine qs ?_ | with_reducible refine fl ?_ | with_reducible refine ft ?_ | with_reducible refine fs ?_ | with_reducible refine fi ?_ | with_reducible refine fb ?_ | kp_flats | with_reducible refine DK.st_neBs ?_ | with_reducible refine DK.st_neBd1 ?_ | with_reducible refine DK.st_neBd2 ?_ | with_reducible refine DK.st_andV ?_ | with_reducible refine DK.st_andT ?_ | with_reducible refine DK.st_andF ?_ | with_reducible refine DK.st_or ?_ | with_reducible refine DK.st_if ?_))
        exact k0
      · have fl : ∀ {Q : VK}, Q (.bl false) H → rIsi K [v_found, .ty "list"] H Q := fun k => q1 _ _ _ (by cases d <;> first | (simp only [dep] at z1; omega) | (first | exact absurd ⟨_, rfl⟩ hd | exact absurd ⟨_, rfl⟩ hd2 | (simp only [tyN]; decide +kernel))) k
        have ft : ∀ {Q : VK}, Q (.bl false) H → rIsi K [v_found, .ty "tuple"] H Q := fun k => q1 _ _ _ (by cases d <;> first | (simp only [dep] at z1; omega) | (first | exact absurd ⟨_, rfl⟩ hd | exact absurd ⟨_, rfl⟩ hd2 | (simp only [tyN]; decide +kernel))) k
        (repeat (first | with_reducible refine qn ?_ | with_reducible refine DK.st_and ?_ | with_reducible refine DK.st_neI ?_ | with_reducible refine qd ?_ | with_reducible refine ql ?_ | with_reducible refine qt ?_ | with_reducible refine qs ?_ | with_reducible refine fl ?_ | with_reducible refine ft ?_ | with_reducible refine fs ?_ | with_reducible refine fi ?_ | with_reducible refine fb ?_ | kp_flats | with_reducible refine DK.st_neBs ?_ | with_reducible refine DK.st_neBd1 ?_ | with_reducible refine DK.st_neBd2 ?_ | with_reducible refine DK.st_andV ?_ | with_reducible refine DK.st_andT ?_ | with_reducible refine DK.st_andF ?_ | with_reducible refine DK.st_or ?_ | with_reducible refine DK.st_if ?_))
        exact k0
  | str s =>
    have qn : ∀ {Q : VK}, Q (.bl false) H → rIsN v_due .non H Q := fun k => st_isN0 ((by rw [show v_due = V.str s from h2]; intro q; cases q)) k
    have qd : ∀ {Q : VK}, Q (.bl false) H → rIsi K [v_due, .ty "dict"] H Q := fun k => q2 _ _ _ (show kitB "str" "dict" = some false by decide +kernel) k
    have ql : ∀ {Q : VK}, Q (.bl false) H → rIsi K [v_due, .ty "list"] H Q := fun k => q2 _ _ _ (show kitB "str" "list" = some false by decide +kernel) k
    have qt : ∀ {Q : VK}, Q (.bl false) H → rIsi K [v_due, .ty "tuple"] H Q := fun k => q2 _ _ _ (show kitB "str" "tuple" = some false by decide +kernel) k
    have qs : ∀ {Q : VK}, Q (.bl true) H → rIsi K [v_due, .ty "str"] H Q := fun k => q2 _ _ _ (show kitB "str" "str" = some true by decide +kernel) k
    by_cases hd : ∃ t, d = .str t
    · obtain ⟨t, rfl⟩ := hd
      have fs : ∀ {Q : VK}, Q (.bl true) H → rIsi K [v_found, .ty "str"] H Q := fun k => q1 _ _ _ (show kitB "str" "str" = some true by decide +kernel) k
      cases (show v_found = V.str t from h1)
      cases (show v_due = V.str s from h2)
      (repeat (first | with_reducible refine qn ?_ | with_reducible refine DK.st_and ?_ | with_reducible refine DK.st_neI ?_ | with_reducible refine qd ?_ | with_reducible refine ql ?_ | with_reducible refine qt ?_ | with_reducible refine qs ?_ | with_reducible refine fl ?_ | with_reducible refine ft ?_ | with_reducible refine fs ?_ | with_reducible refine fi ?_ | with_reducible refine fb ?_ | kp_flats | with_reducible refine DK.st_neBs ?_ | with_reducible refine DK.st_neBd1 ?_ | with_reducible refine DK.st_neBd2 ?_ | with_reducible refine DK.st_andV ?_ | with_reducible refine DK.st_andT ?_ | with_reducible refine DK.st_andF ?_ | with_reducible refine DK.st_or ?_ | with_reducible refine DK.st_if ?_))
      refine st_eqS ?_
      simpa only [sameD] using k0
    · have fs : ∀ {Q : VK}, Q (.bl false) H → rIsi K [v_found, .ty "str"] H Q := fun k => q1 _ _ _ (by cases d <;> first | (simp only [dep] at z1; omega) | (first | exact absurd ⟨_, rfl⟩ hd | exact absurd ⟨_, rfl⟩ hd2 | (simp only [tyN]; decide +kernel))) k
      (repeat (first | with_reducible refine qn ?_ | with_reducible refine DK.st_and ?_ | with_reducible refine DK.st_neI ?_ | with_reducible refine qd ?_ | with_reducible refine ql ?_ | with_reducible refine qt ?_ | with_reducible refine qs ?_ | with_reducible refine fl ?_ | with_reducible refine ft ?_ | with_reducible refine fs ?_ | with_reducible refine fi ?_ | with_reducible refine fb ?_ | kp_flats | with_reducible refine DK.st_neBs ?_ | with_reducible refine DK.st_neBd1 ?_ | with_reducible refine DK.st_neBd2 ?_ | with_reducible refine DK.st_andV ?_ | with_reducible refine DK.st_andT ?_ | with_reducible refine DK.st_andF ?_ | with_reducible refine DK.st_or ?_ | with_reducible refine DK.st_if ?_))
      have e0 : sameD d (.str s) = false := by cases d <;> first | exact absurd ⟨_, rfl⟩ hd | simp only [sameD]
      rw [e0] at k0
      exact k0
  | obj C ns es => simp only [dep] at z2; omega
  | exc C l => simp only [dep] at z2; omega
  | dct kvs => simp only [dep] at z2; omega
  | non => simp only [nn] at zN; cases zN
  | _ =>
    have qn : ∀ {Q : VK}, Q (.bl false) H → rIsN v_due .non H Q := fun k => st_isN0 (by intro q; subst q; first | cases (show V.non = V.bl _ from h2) | cases (show V.non = V.int _ from h2)) k
    have dd : ∀ T, T = "dict" ∨ T = "list" ∨ T = "tuple" ∨ T = "str" → ∀ {Q : VK}, Q (.bl false) H → rIsi K [v_due, .ty T] H Q := fun T hT Q k => q2 _ _ _ (by rcases hT with rfl | rfl | rfl | rfl <;> first | (show kitB "NoneType" _ = _; decide +kernel) | (show kitB "bool" _ = _; decide +kernel) | (show kitB "int" _ = _; decide +kernel)) k
    have qd : ∀ {Q : VK}, Q (.bl false) H → rIsi K [v_due, .ty "dict"] H Q := fun k => dd _ (by simp) k
    have ql : ∀ {Q : VK}, Q (.bl false) H → rIsi K [v_due, .ty "list"] H Q := fun k => dd _ (by simp) k
    have qt : ∀ {Q : VK}, Q (.bl false) H → rIsi K [v_due, .ty "tuple"] H Q := fun k => dd _ (by simp) k
    have qs : ∀ {Q : VK}, Q (.bl false) H → rIsi K [v_due, .ty "str"] H Q := fun k => dd _ (by simp) k
    by_cases hd : ∃ i, d = .int i
    · obtain ⟨i, rfl⟩ := hd
      have fi : ∀ {Q : VK}, Q (.bl true) H → rIsi K [v_found, .ty "int"] H Q := fun k => q1 _ _ _ (show kitB "int" "int" = some true by decide +kernel) k
      have fb : ∀ {Q : VK}, Q (.bl false) H → rIsi K [v_found, .ty "bool"] H Q := fun k => q1 _ _ _ (show kitB "int" "bool" = some false by decide +kernel) k
      (repeat (first | with_reducible refine qn ?_ | with_reducible refine DK.st_and ?_ | with_reducible refine DK.st_neI ?_ | with_reducible refine qd ?_ | with_reducible refine ql ?_ | with_reducible refine qt ?_ | with_reducible refine qs ?_ | with_reducible refine fl ?_ | with_reducible refine ft ?_ | with_reducible refine fs ?_ | with_reducible refine fi ?_ | with_reducible refine fb ?_ | kp_flats | with_reducible refine DK.st_neBs ?_ | with_reducible refine DK.st_neBd1 ?_ | with_reducible refine DK.st_neBd2 ?_ | with_reducible refine DK.st_andV ?_ | with_reducible refine DK.st_andT ?_ | with_reducible refine DK.st_andF ?_ | with_reducible refine DK.st_or ?_ | with_reducible refine DK.st_if ?_))
      refine sm_eqD hs h1 h2 ⟨by simp only [noS], by simp only [dep]; omega⟩ ⟨by simp only [noS], by simp only [dep]; omega⟩ ?_
      simpa only [sameD] using k0
    · have e0 : ∀ e', (∀ es, e' ≠ .lst es) → (∀ es, e' ≠ .tup es) → (∀ s, e' ≠ .str s) → sameD d e' = false := by
        intro e' a b c
        cases e' <;> cases d <;> first | exact absurd ⟨_, rfl⟩ hd | exact absurd rfl (a _) | exact absurd rfl (b _) | exact absurd rfl (c _) | simp only [sameD]
      rw [e0 _ (by intro _ z; cases z) (by intro _ z; cases z) (by intro _ z; cases z)] at k0
      by_cases hd2 : ∃ i, d = .bl i
      · obtain ⟨i, rfl⟩ := hd2
        have fi : ∀ {Q : VK}, Q (.bl true) H → rIsi K [v_found, .ty "int"] H Q := fun k => q1 _ _ _ (show kitB "bool" "int" = some true by decide +kernel) k
        have fb : ∀ {Q : VK}, Q (.bl true) H → rIsi K [v_found, .ty "bool"] H Q := fun k => q1 _ _ _ (show kitB "bool" "bool" = some true by decide +kernel) k
        (repeat (first | with_reducible refine qn ?_ | with_reducible refine DK.st_and ?_ | with_reducible refine DK.st_neI ?_ | with_reducible refine qd ?_ | with_reducible refine ql ?_ | with_reducible refine qt ?_ | with_reducible refine qs ?_ | with_reducible refine fl ?_ | with_reducible refine ft ?_ | with_reducible refine fs ?_ | with_reducible refine fi ?_ | with_reducible refine fb ?_ | kp_flats | with_reducible refine DK.st_neBs ?_ | with_reducible refine DK.st_neBd1 ?_ | with_reducible refine DK.st_neBd2 ?_ | with_reducible refine DK.st_andV ?_ | with_reducible refine DK.st_andT ?_ | with_reducible refine DK.st_andF ?_ | with_reducible refine DK.st_or ?_ | with_reducible refine DK.st_if ?_))
        exact k0
      · have fi : ∀ {Q : VK}, Q (.bl false) H → rIsi K [v_found, .ty "int"] H Q := fun k => q1 _ _ _ (by cases d <;> first | (simp only [dep] at z1; omega) | (first | exact absurd ⟨_, rfl⟩ hd | exact absurd ⟨_, rfl⟩ hd2 | (simp only [tyN]; decide +kernel))) k
        (repeat (first | with_reducible refine qn ?_ | with_reducible refine DK.st_and ?_ | with_reducible refine DK.st_neI ?_ | with_reducible refine qd ?_ | with_reducible refine ql ?_ | with_reducible refine qt ?_ | with_reducible refine qs ?_ | with_reducible refine fl ?_ | with_reducible refine ft ?_ | with_reducible refine fs ?_ | with_reducible refine fi ?_ | with_reducible refine fb ?_ | kp_flats | with_reducible refine DK.st_neBs ?_ | with_reducible refine DK.st_neBd1 ?_ | with_reducible refine DK.st_neBd2 ?_ | with_reducible refine DK.st_andV ?_ | with_reducible refine DK.st_andT ?_ | with_reducible refine DK.st_andF ?_ | with_reducible refine DK.st_or ?_ | with_reducible refine DK.st_if ?_))
        exact k0
theorem okn_law_same (T : TX K mg)  : ∀ n : Nat, CalOk P w K mg base "_law_same" (1 + n) (["_law_found", "_law_due"] : List Str) (spn_law_same n K)
  | 0 => T.cal 12 40 (d := d_law_same) rfl rfl rfl rfl rfl sc_law_same (len_law_same _) (fun _ _ _ _ _ _ _ us hl => match us, hl with | [_, _], _ => rfl) (fun cdv A outer s H vs Q E hr h => (spz_law_same vs H Q E h).elim)
  | n + 1 => have c_self := okn_law_same T  n
    T.cal (k := 1 + n) 12 40 (d := d_law_same) rfl rfl rfl rfl rfl sc_law_same (len_law_same _) (fun _ _ _ _ _ _ _ us hl => match us, hl with | [_, _], _ => rfl) (fun cdv A outer s H vs Q E hr h => ⟨t_law_same (spn_law_same n K) K E, (by exact (pss_cons (ps_if (pt_cmpR op_isN1 (pv 1) pe_non (nomark _)) (pss_one (ps_ret (pe_cmpR op_isN1 (pv 0) pe_non (nomark _)))) pss_nil)
  (pss_cons (ps_if (pt_val (pe_callB call_isi (by rfl) (T.free 12) (by decide +kernel) (pa_cons (pv 1) (pa_cons (pe_bltn (v := .ty "dict") rfl (T.free 11) (by decide +kernel) rfl) pa_nil)))) (pss_cons (ps_if (PW.pt (pw_or (pt_not (pt_val (pe_callB call_isi (by rfl) (T.free 12) (by decide +kernel) (pa_cons (pv 0) (pa_cons (pe_bltn (v := .ty "dict") rfl (T.free 11) (by decide +kernel) rfl) pa_nil))))) (pw_or1 (pt_cmpR (op_neU hr.units) (pe_callB call_lenU (by rfl) (T.free 0) (by decide +kernel) (pa_cons (pv 0) pa_nil)) (pe_callB call_lenU (by rfl) (T.free 0) (by decide +kernel) (pa_cons (pv 1) pa_nil)) (nomark _))))) (pss_one (ps_ret pe_bl)) pss_nil)
  (pss_one (ps_ret (pe_callB (cr_all (by rfl)) (by rfl) (T.free 8) (by decide +kernel) (pa_cons (pe_lc (own := [("_law_name", 2)]) (g := (gName 2)) (tt := tYes) (te := (tAndV (tOp (rInU K false) (tVar 2) (tVar 0)) (tCall (spn_law_same n K) [] E0 (tCons (tOp (rIxU K) (tVar 0) (tVar 2)) (tCons (tOp (rIxU K) (tVar 1) (tVar 2)) tNil))))) (by rfl) sc_law_same.nd (pi_seq (pv 1)) (blkOk_by (own := [("_law_name", 2)]) (by rfl)) (fun _ _ _ _ _ => (pg_name (i := 2) sc_law_same.nd rfl (by first | exact Or.inl rfl | exact Or.inr rfl))) (fun _ _ _ _ _ => pts_nil) (fun _ _ _ _ _ => (pe_and (pe_cmpR (op_inU hr.units) (pv 2) (pv 0) (by rfl)) (pe_one (pe_callC c_self (hr.mono (by omega)) rfl passLN (pa_cons (pe_ix ix_U (pv 0) (pv 2) (fun _ _ => rfl)) (pa_cons (pe_ix ix_U (pv 1) (pv 2) (fun _ _ => rfl)) pa_nil))))))) pa_nil))))) pss_nil)
  (pss_cons (ps_if (PW.pt (pw_or (pt_val (pe_callB call_isi (by rfl) (T.free 12) (by decide +kernel) (pa_cons (pv 1) (pa_cons (pe_bltn (v := .ty "list") rfl (T.free 13) (by decide +kernel) rfl) pa_nil)))) (pw_or1 (pt_val (pe_callB call_isi (by rfl) (T.free 12) (by decide +kernel) (pa_cons (pv 1) (pa_cons (pe_bltn (v := .ty "tuple") rfl (T.free 1) (by decide +kernel) rfl) pa_nil))))))) (pss_cons (ps_if (PW.pt (pw_and (pt_val (pe_callB call_isi (by rfl) (T.free 12) (by decide +kernel) (pa_cons (pv 1) (pa_cons (pe_bltn (v := .ty "list") rfl (T.free 13) (by decide +kernel) rfl) pa_nil)))) (pw_and1 (pt_not (pt_val (pe_callB call_isi (by rfl) (T.free 12) (by decide +kernel) (pa_cons (pv 0) (pa_cons (pe_bltn (v := .ty "list") rfl (T.free 13) (by decide +kernel) rfl) pa_nil)))))))) (pss_one (ps_ret pe_bl)) pss_nil)
  (pss_cons (ps_if (PW.pt (pw_or (PW.pt (pw_and (pt_val (pe_callB call_isi (by rfl) (T.free 12) (by decide +kernel) (pa_cons (pv 1) (pa_cons (pe_bltn (v := .ty "tuple") rfl (T.free 1) (by decide +kernel) rfl) pa_nil)))) (pw_and1 (pt_not (pt_val (pe_callB call_isi (by rfl) (T.free 12) (by decide +kernel) (pa_cons (pv 0) (pa_cons (pe_bltn (v := .ty "tuple") rfl (T.free 1) (by decide +kernel) rfl) pa_nil)))))))) (pw_or1 (pt_cmpR (op_neU hr.units) (pe_callB call_lenU (by rfl) (T.free 0) (by decide +kernel) (pa_cons (pv 0) pa_nil)) (pe_callB call_lenU (by rfl) (T.free 0) (by decide +kernel) (pa_cons (pv 1) pa_nil)) (nomark _))))) (pss_one (ps_ret pe_bl)) pss_nil)
  (pss_one (ps_ret (pe_callB (cr_all (by rfl)) (by rfl) (T.free 8) (by decide +kernel) (pa_cons (pe_lc (own := [("_law_one_here", 3), ("_law_other", 4)]) (g := (gTupU K 2 (gCons (gName 3) (gCons (gName 4) gNil)))) (tt := tYes) (te := (tCall (spn_law_same n K) [] E0 (tCons (tVar 3) (tCons (tVar 4) tNil)))) (by rfl) sc_law_same.nd (pi_zipU rfl (T.free 14) (pa_cons (pv 0) (pa_cons (pv 1) pa_nil))) (blkOk_by (own := [("_law_one_here", 3), ("_law_other", 4)]) (by rfl)) (fun _ _ _ _ _ => (pg_tupU (by rfl) (pgs_cons (pg_name (i := 3) sc_law_same.nd rfl (by first | exact Or.inl rfl | exact Or.inr rfl)) (pgs_cons (pg_name (i := 4) sc_law_same.nd rfl (by first | exact Or.inl rfl | exact Or.inr rfl)) pgs_nil)))) (fun _ _ _ _ _ => pts_nil) (fun _ _ _ _ _ => (pe_callC c_self (hr.mono (by omega)) rfl passLN (pa_cons (pv 3) (pa_cons (pv 4) pa_nil))))) pa_nil)))))) pss_nil)
  (pss_cons (ps_if (pt_val (pe_callB call_isi (by rfl) (T.free 12) (by decide +kernel) (pa_cons (pv 1) (pa_cons (pe_bltn (v := .ty "str") rfl (T.free 15) (by decide +kernel) rfl) pa_nil)))) (pss_one (ps_ret (pe_and (pe_callB call_isi (by rfl) (T.free 12) (by decide +kernel) (pa_cons (pv 0) (pa_cons (pe_bltn (v := .ty "str") rfl (T.free 15) (by decide +kernel) rfl) pa_nil))) (pe_one (pe_cmpR (op_eqU hr.units) (pv 0) (pv 1) (nomark _)))))) pss_nil)
  (pss_one (ps_ret (pe_and (pe_callB call_isi (by rfl) (T.free 12) (by decide +kernel) (pa_cons (pv 0) (pa_cons (pe_bltn (v := .ty "int") rfl (T.free 9) (by decide +kernel) rfl) pa_nil))) (pe_and (pe_not (pe_callB call_isi (by rfl) (T.free 12) (by decide +kernel) (pa_cons (pv 0) (pa_cons (pe_bltn (v := .ty "bool") rfl (T.free 16) (by decide +kernel) rfl) pa_nil)))) (pe_one (pe_cmpR (op_eqU hr.units) (pv 0) (pv 1) (nomark _)))))))))))), pure_law_same T n vs H Q E h⟩)
theorem ok_law_same (T : TX K mg)  : CalOk P w K mg base "_law_same" 9 (["_law_found", "_law_due"] : List Str) (sp_law_same K) := okn_law_same T  8
end
end Dot
namespace Dot
open PySem PySem.Spec PyProof.Rows L2 DK
def m_is_number (z_piece : Str) : Rs (Bool) :=
Rs.bnd (Rs.bnd (grd (Str.length z_piece ≤ 1000000) <| if 1 ≤ ((Str.length z_piece : Nat) : Int) then (.ok (decide (((Str.length z_piece : Nat) : Int) ≤ 30))) else (.ok false) : Rs Bool) fun b2 =>
if b2 = true then (grd (Str.length z_piece ≤ 1000000) <| .ok (!decide ((Txt.stripChars z_piece "0123456789") = ""))) else (.ok true) : Rs Bool) fun b1 =>
if b1 = true then (.ok (false)) else (Rs.bnd (if z_piece = "0" then (.ok true) else (.ok (!(Txt.startswith z_piece "0"))) : Rs Bool) fun b3 =>
.ok (b3))
def sp_is_number (K : PySem.W.Frag) : Sp := fun vs H Q E => ∃ (v_piece : V), vs = [v_piece] ∧ (∃ (F : Hp) (z_piece : Str), Same F H ∧ v_piece = (V.str z_piece) ∧ Post (m_is_number z_piece) (fun r => ∀ F' H', Stp [] F H F' H' → Q (V.bl r) H') (fun c l => ∀ Fx Hx dx, Stp [] F H Fx Hx → ExD Fx l dx → E (.ref (He.ga K c.nm)) dx Hx))
theorem len_is_number {K : PySem.W.Frag} : ∀ vs H Q E, sp_is_number K vs H Q E → vs.length = ((["piece"] : List Str)).length := fun vs H Q E h => by
  obtain ⟨_, rfl, _⟩ := h
  rfl
def t_is_number (K : PySem.W.Frag) (E : XK) : TS :=
  (tSeq (tIfS (tOr (tNot (tTest (tChain rLeI rLeI (tC (.int 1)) (tCB (rLenU K) (tCons (tVar 0) tNil)) (tC (.int 30))))) (tTest (tOp (rNeU K) (tM1 rStripT (tVar 0) (tC (.str "0123456789"))) (tC (.str ""))))) (tRet (tC (.bl false))) tNext)
  (tRet (tOrV (tOp (rEqU K) (tVar 0) (tC (.str "0"))) (tNotV (tM1 rStartsT (tVar 0) (tC (.str "0")))))))
section
variable {P : Program} {w : World} {K : PySem.W.Frag} {mg : Str → Option Value} {base : Heap}
theorem pure_is_number (T : TX K mg) (vs : List V) (H : Hp) (Q : VK) (E : XK) (h : sp_is_number K vs H Q E) : t_is_number K E { nx := fun _ H' => Q .non H', rt := Q } (start n_is_number vs) H := by
  obtain ⟨v_piece, rfl, h⟩ := h
  change t_is_number K E _ [some v_piece] H
  unfold t_is_number
  obtain ⟨F, z_piece, e0, rfl, h⟩ := h
  unfold m_is_number at h
  dl_open
  with_reducible refine DK.st_if ?_
  dl_open
  dl_open
  (refine cutT F H h ?_ ?_) <;> clear h
  · intro Qkk1 kk1 h
    refine st_or ?_
    dl_open
    dl_open
    (refine cutB F H h ?_ ?_) <;> clear h
    · intro Qkk2 kk2 h
      refine st_chain ?_
      dl_open
      replace h := h.g
      obtain ⟨g1, h⟩ := h
      refine sm_lenT g1 ?_
      dl_open
      (refine brP h ?_ ?_) <;> clear h <;> intro c1 h
      · dl_open
        dl_open
        exact kk2 _ F H (by kas_types) h
      · exact kk2 _ F H (by kas_types) h
    intro b2 F2 H2 s2 h
    dl_open
    dl_open
    (refine brNB h ?_ ?_) <;> clear h <;> intro c2 h
    · try dl_open
      exact kk1 _ F2 H2 (by kas_types) h
    · dl_open
      dl_open
      refine st_m1 ?_
      dl_open
      dl_open
      refine sm_m1 ?_
      dl_open
      dl_open
      replace h := h.g
      obtain ⟨g2, h⟩ := h
      refine sm_stripT g2 ?_
      dl_open
      refine st_neS ?_
      dl_open
      exact kk1 _ F2 H2 (by kas_types) h
  intro b1 F1 H1 s1 h
  dl_open
  (refine brB h ?_ ?_) <;> clear h <;> intro c3 h
  · dl_open
    dl_open
    dl_open
    exact h F1 H1 (by kas_types)
  · dl_open
    dl_open
    dl_open
    (refine cutB F1 H1 h ?_ ?_) <;> clear h
    · intro Qkk3 kk3 h
      refine st_orV ?_
      dl_open
      refine st_eqS ?_
      dl_open
      (refine brP h ?_ ?_) <;> clear h <;> intro c4 h
      · try dl_open
        exact kk3 _ F1 H1 (by kas_types) h
      · dl_open
        dl_open
        dl_open
        refine st_m1 ?_
        dl_open
        dl_open
        refine sm_m1 ?_
        dl_open
        dl_open
        refine sm_starts ?_
        dl_open
        dl_open
        dl_open
        exact kk3 _ F1 H1 (by kas_types) h
    intro b3 F3 H3 s3 h
    dl_open
    exact h F3 H3 (by kas_types)
theorem ok_is_number (T : TX K mg)  : CalOk P w K mg base "is_number" 1 (["piece"] : List Str) (sp_is_number K) :=
  T.cal 4 32 (d := d_is_number) rfl rfl rfl rfl rfl sc_is_number (len_is_number) (fun _ _ _ _ _ _ _ us hl => match us, hl with | [_], _ => rfl) (fun cdv A outer s H vs Q E hr h => ⟨t_is_number K E, (by exact (pss_cons (ps_if (PW.pt (pw_or (pt_not (pt_chain op_le op_le pe_int (pe_callB call_lenU (by rfl) (T.free 0) (by decide +kernel) (pa_cons (pv 0) pa_nil)) (pe_gint rfl (T.gint 6)))) (pw_or1 (pt_cmpR (op_neU hr.units) (pe_m1 PySem.F.slot_str_strip PySem.F.type_str_strip mt_stripChars (pv 0) (pe_gstr rfl (T.gstr 7))) pe_str (nomark _))))) (pss_one (ps_ret pe_bl)) pss_nil)
  (pss_one (ps_ret (pe_or (pe_cmpR (op_eqU hr.units) (pv 0) pe_str (nomark _)) (pe_one (pe_not (pe_m1 PySem.F.slot_str_startswith PySem.F.type_str_startswith mt_startswith (pv 0) pe_str)))))))), pure_is_number T vs H Q E h⟩)
end
end Dot
namespace Dot
open PySem PySem.Spec PyProof.Rows L2 DK
def m_numbers_from (z_row : Str) : Rs ((Option (List Int))) :=
grd (Str.length z_row ≤ 1000000) <| grd ((Txt.split z_row " ").length ≤ 1000000) <| (mapR (fun (y1 : Str) =>
 (noX <| m_is_number y1).bnd fun x1 =>
.ok (some x1)) (Txt.split z_row " ")).bnd fun x1 =>
if (x1.all id) = true then (grd ((Txt.split z_row " ").length ≤ 1000000) <| (mapR (fun (y2 : Str) =>
 somR (PySem.intText? y2) fun y3 =>
grd (Str.length y2 ≤ 640) <| .ok (some y3)) (Txt.split z_row " ")).bnd fun x3 =>
.ok ((some x3))) else (.ok (none))
def sp_numbers_from (K : PySem.W.Frag) : Sp := fun vs H Q E => ∃ (v_row : V), vs = [v_row] ∧ (∃ (F : Hp) (z_row : Str), Same F H ∧ v_row = (V.str z_row) ∧ Post (m_numbers_from z_row) (fun r => ∀ F' H', Stp [] F H F' H' → ∀ u, OptO F' H' H Dat.int r u → Q u H') (fun c l => ∀ Fx Hx dx, Stp [] F H Fx Hx → ExD Fx l dx → E (.ref (He.ga K c.nm)) dx Hx))
theorem len_numbers_from {K : PySem.W.Frag} : ∀ vs H Q E, sp_numbers_from K vs H Q E → vs.length = ((["row"] : List Str)).length := fun vs H Q E h => by
  obtain ⟨_, rfl, _⟩ := h
  rfl
def t_numbers_from (K : PySem.W.Frag) (E : XK) : TS :=
  (tSeq (tAsg (tM1 rSplitT (tVar 0) (tC (.str " "))) (gName 1))
  (tSeq (tIfS (tNot (tB (tCB (rAll K) (tCons (tLc (iSeq K (tVar 1)) (gName 2) tYes (tCall (sp_is_number K) [] E0 (tCons (tVar 2) tNil)) [2]) tNil)))) (tRet (tC .non)) tNext)
  (tRet (tLc (iSeq K (tVar 1)) (gName 2) tYes (tCB rIntU (tCons (tVar 2) tNil)) [2]))))
section
variable {P : Program} {w : World} {K : PySem.W.Frag} {mg : Str → Option Value} {base : Heap}
theorem pure_numbers_from (T : TX K mg) (vs : List V) (H : Hp) (Q : VK) (E : XK) (h : sp_numbers_from K vs H Q E) : t_numbers_from K E { nx := fun _ H' => Q .non H', rt := Q } (start n_numbers_from vs) H := by
  obtain ⟨v_row, rfl, h⟩ := h
  change t_numbers_from K E _ [some v_row, none, none] H
  unfold t_numbers_from
  obtain ⟨F, z_row, e0, rfl, h⟩ := h
  unfold m_numbers_from at h
  dl_open
  refine st_m1 ?_
  dl_open
  dl_open
  refine sm_m1 ?_
  dl_open
  dl_open
  replace h := h.g
  obtain ⟨g1, h⟩ := h
  refine sm_split (F := F) (by lcg_src) (by decide) g1 ?_
  refine KOwn.fz ?_
  intro u1 F1 H1 s1 r1
  have r1 : RD F1 ((eL Dat.str) (Txt.split z_row " ")) u1 := r1
  dl_open
  dl_open
  with_reducible refine DK.st_if ?_
  dl_open
  dl_open
  dl_open
  refine st_lc ?_
  dl_open
  refine st_iseqL ?_
  dl_open
  dl_open
  replace h := h.g
  obtain ⟨g2, h⟩ := h
  (refine lc_L (e := Dat.str) (e2 := Dat.bl) (F := F1) (by kqd_all) (by lcg_src) g2 h.b ?_ ?_) <;> clear h
  · intro y1 u2 F2 H2 r2 s2 PN1 NY1 NN1 kY1 kN1 h
    cases (show u2 = (V.str y1) from r2)
    dl_open
    dl_open
    refine ⟨rfl, ?_⟩
    dl_open
    dl_open
    refine ⟨_, rfl, F2, y1, by lcg_src, rfl, h.b.nox.mono2 ?_ (fun _ _ z_ => z_.elim)⟩
    clear h
    intro x2 h F3 H3 s3
    dl_open
    exact kY1 _ _ F3 H3 (by kas_types) (by kqd_all) h
  intro L1 w1 x1 F4 H4 s4 n1 o1 r3 h
  obtain ⟨F5, s5, r4⟩ := own_fz (F := F4) s4.inn o1 r3
  dl_open
  refine sm_allL (F := F5) (by lcg_src) (by kqd_all) ?_
  dl_open
  dl_open
  (refine brNB h ?_ ?_) <;> clear h <;> intro c1 h
  · dl_open
    dl_open
    dl_open
    exact h F5 H4 (by kas_types) _ (show OptO _ _ _ _ none V.non from rfl)
  · dl_open
    dl_open
    dl_open
    refine st_lc ?_
    dl_open
    refine st_iseqL ?_
    dl_open
    dl_open
    replace h := h.g
    obtain ⟨g3, h⟩ := h
    (refine lc_L (e := Dat.str) (e2 := Dat.int) (F := F5) (by kqd_all) (by lcg_src) g3 h.b ?_ ?_) <;> clear h
    · intro y2 u4 F6 H5 r5 s6 PN2 NY2 NN2 kY2 kN2 h
      cases (show u4 = (V.str y2) from r5)
      dl_open
      dl_open
      refine ⟨rfl, ?_⟩
      dl_open
      dl_open
      replace h := h.som
      obtain ⟨y3, hy1, h⟩ := h
      replace h := h.g
      obtain ⟨g4, h⟩ := h
      refine sm_intS hy1 g4 ?_
      dl_open
      exact kY2 _ _ F6 H5 (by kas_types) (by kqd_all) h
    intro L2 w2 x3 F7 H6 s7 n2 o2 r6 h
    dl_open
    exact h F7 H6 (by kas_types) _ ⟨_, _, rfl, (by k_subL), (by kat_tups), (by nest_cls)⟩
theorem ok_numbers_from (T : TX K mg) (c_is_number : CalOk P w K mg base "is_number" 1 (["piece"] : List Str) (sp_is_number K)) : CalOk P w K mg base "numbers_from" 2 (["row"] : List Str) (sp_numbers_from K) :=
  T.cal 5 33 (d := d_numbers_from) rfl rfl rfl rfl rfl sc_numbers_from (len_numbers_from) (fun _ _ _ _ _ _ _ us hl => match us, hl with | [_], _ => rfl) (fun cdv A outer s H vs Q E hr h => ⟨t_numbers_from K E, (by exact (pss_cons (ps_set (i := 1) sc_numbers_from.nd rfl (by first | exact Or.inl rfl | exact Or.inr rfl) (pe_m1 PySem.F.slot_str_split PySem.F.type_str_split mt_split (pv 0) pe_str))
  (pss_cons (ps_if (pt_not (pt_val (pe_callB (cr_all (by rfl)) (by rfl) (T.free 8) (by decide +kernel) (pa_cons (pe_lc (own := [("piece", 2)]) (g := (gName 2)) (tt := tYes) (te := (tCall (sp_is_number K) [] E0 (tCons (tVar 2) tNil))) (by rfl) sc_numbers_from.nd (pi_seq (pv 1)) (blkOk_by (own := [("piece", 2)]) (by rfl)) (fun _ _ _ _ _ => (pg_name (i := 2) sc_numbers_from.nd rfl (by first | exact Or.inl rfl | exact Or.inr rfl))) (fun _ _ _ _ _ => pts_nil) (fun _ _ _ _ _ => (pe_callC c_is_number (hr.mono (by decide)) rfl passLN (pa_cons (pv 2) pa_nil)))) pa_nil)))) (pss_one (ps_ret pe_non)) pss_nil)
  (pss_one (ps_ret (pe_lc (own := [("piece", 2)]) (g := (gName 2)) (tt := tYes) (te := (tCB rIntU (tCons (tVar 2) tNil))) (by rfl) sc_numbers_from.nd (pi_seq (pv 1)) (blkOk_by (own := [("piece", 2)]) (by rfl)) (fun _ _ _ _ _ => (pg_name (i := 2) sc_numbers_from.nd rfl (by first | exact Or.inl rfl | exact Or.inr rfl))) (fun _ _ _ _ _ => pts_nil) (fun _ _ _ _ _ => (pe_callTy call_intU (by rfl) (T.free 9) (by decide +kernel) (pa_cons (pv 2) pa_nil))))))))), pure_numbers_from T vs H Q E h⟩)
end
end Dot
namespace Dot
open PySem PySem.Spec PyProof.Rows L2 DK
def sp_NoText_init (K : PySem.W.Frag) : Sp := fun vs H Q E => ∃ (v_self v_line : V), vs = [v_self, v_line] ∧ (∃ (a : Addr) (n : Int), v_self = .ref a ∧ v_line = .int n ∧ H a = some (exo a (He.ga K "NoText") none) ∧ ∀ dx, H dx = none → dx ≠ a → Q .non (upd (upd H dx (exd dx [("line", .int n)])) a (exo a (He.ga K "NoText") (some dx))))
theorem len_NoText_init {K : PySem.W.Frag} : ∀ vs H Q E, sp_NoText_init K vs H Q E → vs.length = ((["self", "line"] : List Str)).length := fun vs H Q E h => by
  obtain ⟨_, _, rfl, _⟩ := h
  rfl
def t_NoText_init (K : PySem.W.Frag) (E : XK) : TS :=
  (tOst K "line" (tVar 0) (tVar 1))
section
variable {P : Program} {w : World} {K : PySem.W.Frag} {mg : Str → Option Value} {base : Heap}
theorem pure_NoText_init (T : TX K mg) (vs : List V) (H : Hp) (Q : VK) (E : XK) (h : sp_NoText_init K vs H Q E) : t_NoText_init K E { nx := fun _ H' => Q .non H', rt := Q } (start n_NoText_init vs) H := by
  obtain ⟨v_self, v_line, rfl, h⟩ := h
  change t_NoText_init K E _ [some v_self, some v_line] H
  unfold t_NoText_init
  obtain ⟨a, n, rfl, rfl, ha, h⟩ := h
  exact st_initI (tx_oex_NoText T) ha h
theorem mk_NoText (T : TX K mg)  : OexOk P w K mg base "NoText" 1 (["self", "line"] : List Str) (sp_NoText_init K) :=
  T.moe 0 25 170 (d := d_NoText_init) rfl rfl rfl rfl rfl rfl sc_NoText_init (len_NoText_init) (fun _ _ _ _ _ _ _ us hl => match us, hl with | [_, _], _ => rfl) (fun cdv A outer s H vs Q E hr h => ⟨t_NoText_init K E, (by exact (pss_one (ps_ost (pv 0) (pv 1)))), pure_NoText_init T vs H Q E h⟩)
end
end Dot
namespace Dot
open PySem PySem.Spec PyProof.Rows L2 DK
def m_rows_from (z_text : Str) : Rs ((List (List Int))) :=
Rs.thn (grd (Str.length z_text ≤ 1000000) <| forR (R := (List (List Int))) (fun (x2 : (List (List Int))) (y1 : (Int × Str)) =>
(m_numbers_from y1.2).bnd fun x3 =>
if x3.isNone = true then (.exc .text (some y1.1)) else (somR x3 fun y2 =>
grd (x2.length < 1000000) <| .ok (.nx (x2 ++ [y2])))) (enumI (Txt.split z_text "\n")) ([] : List (List Int))) (fun x4 =>
.ok (x4)) (fun r => .ok r)
def sp_rows_from (K : PySem.W.Frag) : Sp := fun vs H Q E => ∃ (v_text : V), vs = [v_text] ∧ (∃ (F : Hp) (z_text : Str), Same F H ∧ v_text = (V.str z_text) ∧ Post (m_rows_from z_text) (fun r => ∀ F' H', Stp [] F H F' H' → ∀ u, RD F' ((eL (eL Dat.int)) r) u → Q u H') (fun c l => ∀ Fx Hx dx, Stp [] F H Fx Hx → ExD Fx l dx → E (.ref (He.ga K c.nm)) dx Hx))
theorem len_rows_from {K : PySem.W.Frag} : ∀ vs H Q E, sp_rows_from K vs H Q E → vs.length = ((["text"] : List Str)).length := fun vs H Q E h => by
  obtain ⟨_, rfl, _⟩ := h
  rfl
def t_rows_from (K : PySem.W.Frag) (E : XK) : TS :=
  (tSeq (tAsg (tLst tNil) (gName 1))
  (tSeq (tFor (iEnumU K (tCons (tM1 rSplitT (tVar 0) (tC (.str "\n"))) tNil)) (gTupU K 2 (gCons (gName 2) (gCons (gName 3) gNil))) (tSeq (tAsg (tCall (sp_numbers_from K) [] E (tCons (tVar 3) tNil)) (gName 4))
  (tSeq (tIfS (tTest (tOp rIsN (tVar 4) (tC .non))) (tRaiseI (He.ga K "NoText") (sp_NoText_init K) (fun cls d _ H => E cls d H) (tCons (tVar 2) tNil)) tNext)
  (tDrop (tBM K "list" rAppend (tVar 1) (tCons (tVar 4) tNil))))))
  (tRet (tVar 1))))
section
variable {P : Program} {w : World} {K : PySem.W.Frag} {mg : Str → Option Value} {base : Heap}
theorem pure_rows_from (T : TX K mg) (vs : List V) (H : Hp) (Q : VK) (E : XK) (h : sp_rows_from K vs H Q E) : t_rows_from K E { nx := fun _ H' => Q .non H', rt := Q } (start n_rows_from vs) H := by
  obtain ⟨v_text, rfl, h⟩ := h
  change t_rows_from K E _ [some v_text, none, none, none, none] H
  unfold t_rows_from
  obtain ⟨F, z_text, e0, rfl, h⟩ := h
  unfold m_rows_from at h
  dl_open
  refine newO (by simp) (F := F) (by lcg_src) ?_
  intro L1 F1 H1 s1 n1 o1
  have r1 : RDs F1 (List.map (eL Dat.int) ([] : List (List Int))) [] := (show RDs F1 [] [] by nest_cls)
  dl_open
  dl_open
  (with_reducible refine cutF h (fun s_e σ_e H_e => ∃ F_e, (fun (s : (List (List Int))) F' σ' H' => ∃ (oj_0 : Option V) (oj_2 : Option V) (oj_3 : Option V) (wj_0 : List V), Stp [L1] F1 H1 F' H' ∧ Own F' H' L1 (.lst wj_0) ∧ RDs F' (List.map (eL Dat.int) s) wj_0 ∧ σ' = [some (V.str z_text), some (V.ref L1), oj_2, oj_3, oj_0]) s_e F_e σ_e H_e) ?_ ?_) <;> clear h
  · intro nx1 kk1 h
    refine st_for ?_
    dl_open
    refine st_enumL ?_
    dl_open
    refine st_m1 ?_
    dl_open
    dl_open
    refine sm_m1 ?_
    dl_open
    dl_open
    replace h := h.g
    obtain ⟨g1, h⟩ := h
    refine sm_split (F := F1) (by lcg_src) (by decide) g1 ?_
    refine KOwn.fz ?_
    intro u1 F2 H2 s2 r2
    have r2 : RD F2 ((eL Dat.str) (Txt.split z_text "\n")) u1 := r2
    dl_open
    refine fr_EL (e := Dat.str) (F := F2) (by kqd_all) (by lcg_src) h (fun (s : (List (List Int))) F' σ' H' => ∃ (oj_0 : Option V) (oj_2 : Option V) (oj_3 : Option V) (wj_0 : List V), Stp [L1] F2 H2 F' H' ∧ Own F' H' L1 (.lst wj_0) ∧ RDs F' (List.map (eL Dat.int) s) wj_0 ∧ σ' = [some (V.str z_text), some (V.ref L1), oj_2, oj_3, oj_0]) ⟨_, _, _, _, Stp.refl (by lcg_src), by kat_tups, by nest_cls, rfl⟩ (by rintro _ _ _ _ ⟨_, _, _, _, t, _⟩; exact ⟨t.ex, t.inn⟩) ?_ (by rintro x1 σ_ H3 ⟨F3, o_1, o_2, o_3, w1, s3, o2, r3, rfl⟩ h; replace h := Ctl.nx_of h; exact kk1 x1 _ _ ⟨F3, _, _, _, _, by kas_types, by kat_tups, by nest_cls, rfl⟩ h)
    clear h
    rintro y1 rest1 x2 u2 F4 σ_ H5 F5 H4 ⟨o_4, o_5, o_6, w2, s5, o3, r5, rfl⟩ s4 r4 h
    have r4 : RD F5 ((eP Dat.int Dat.str) y1) u2 := r4
    try dsimp only at h
    dl_open
    refine sm_g2 (F := F5) (by lcg_src) (by kqd_all) ?_
    intro u3 u4 r6 r7
    cases (show u3 = (V.int y1.1) from r6)
    cases (show u4 = (V.str y1.2) from r7)
    dl_open
    dl_open
    refine ⟨_, rfl, F5, y1.2, by lcg_src, rfl, h.b.mono2 ?_ (fun c_ l_ hx_ Fx_ Hx_ dx_ sx_ ex_ => by exact hx_ Fx_ Hx_ dx_ (by kas_types) ex_)⟩
    clear h
    intro x3 h F6 H6 s6 u6 q1
    obtain ⟨F7, s7, r8⟩ := optO_fz s6 q1
    clear q1; clear s6
    dl_open
    dl_open
    with_reducible refine DK.st_if ?_
    dl_open
    dl_open
    refine sm_isN (e := (eL Dat.int)) (F := F7) (by kqd_all) (fun _ => rfl) ?_
    dl_open
    dl_open
    (refine brB h ?_ ?_) <;> clear h <;> intro c1 h
    · dl_open
      dl_open
      refine st_raiseI ?_
      dl_open
      dl_open
      refine sm_raiseI (σ := []) (W := fun cls d _ H => E cls d H) (C := He.ga K "NoText") (sp := sp_NoText_init K) (n := y1.1) (fun _ _ _ _ h_ => by obtain ⟨a_, n_, e_, h1_, h2_⟩ := h_; exact ⟨_, _, e_, a_, n_, rfl, rfl, h1_, h2_⟩) (F := F7) (by lcg_src) ?_
      intro F8 H7 dx1 s8 l_
      exact h F8 H7 dx1 (by kas_types) l_
    · dl_open
      replace h := h.som
      obtain ⟨y2, hy1, h⟩ := h
      have r9 : RD F7 (eO (eL Dat.int) (some y2)) u6 := hy1 ▸ (by kqd_all : RD F7 (eO (eL Dat.int) x3) u6)
      have r9 : RD F7 ((eL Dat.int) y2) u6 := r9
      dl_open
      dl_open
      refine ⟨ty_own (by kat_tups : Own F7 _ _ _), ?_⟩
      dl_open
      replace h := h.g
      obtain ⟨g2, h⟩ := h
      refine sm_app (e := (eL Dat.int)) (x := y2) (F := F7) (by lcg_src) (by kat_tups) (by nest_cls) (by kqd_all) g2 ?_
      intro w3 F9 H8 s9 o4 r10
      dl_open
      dl_open
      exact ⟨(x2 ++ [y2]), ⟨F9, _, _, _, _, by kas_types, by kat_tups, by nest_cls, rfl⟩, h.onx⟩
  · rintro x4 σ_ H9 ⟨F10, o_7, o_8, o_9, w4, s10, o5, r11, rfl⟩ h
    try dsimp only at h
    dl_open
    obtain ⟨F11, s11, r12⟩ := own_fz (F := F10) (by lcg_src) (by kat_tups) (by nest_cls : RDs F10 (List.map (eL Dat.int) x4) w4)
    dl_open
    exact h F11 H9 (by kas_types) _ (show RD F11 ((eL (eL Dat.int)) x4) (V.ref L1) by kqd_all)
theorem ok_rows_from (T : TX K mg) (c_numbers_from : CalOk P w K mg base "numbers_from" 2 (["row"] : List Str) (sp_numbers_from K)) (m_NoText : OexOk P w K mg base "NoText" 1 (["self", "line"] : List Str) (sp_NoText_init K)) : CalOk P w K mg base "rows_from" 3 (["text"] : List Str) (sp_rows_from K) :=
  T.cal 6 34 (d := d_rows_from) rfl rfl rfl rfl rfl sc_rows_from (len_rows_from) (fun _ _ _ _ _ _ _ us hl => match us, hl with | [_], _ => rfl) (fun cdv A outer s H vs Q E hr h => ⟨t_rows_from K E, (by exact (pss_cons (ps_set (i := 1) sc_rows_from.nd rfl (by first | exact Or.inl rfl | exact Or.inr rfl) (pe_lst pa_nil))
  (pss_cons (ps_for (passes_of rfl) rfl (pi_enumU rfl (T.free 10) (pa_cons (pe_m1 PySem.F.slot_str_split PySem.F.type_str_split mt_split (pv 0) pe_str) pa_nil)) (pg_tupU (by rfl) (pgs_cons (pg_name (i := 2) sc_rows_from.nd rfl (by first | exact Or.inl rfl | exact Or.inr rfl)) (pgs_cons (pg_name (i := 3) sc_rows_from.nd rfl (by first | exact Or.inl rfl | exact Or.inr rfl)) pgs_nil))) (pss_cons (ps_set (i := 4) sc_rows_from.nd rfl (by first | exact Or.inl rfl | exact Or.inr rfl) (pe_callC c_numbers_from (hr.mono (by decide)) rfl (L2N.passes_call (L2N.takes_of rfl rfl rfl rfl) (fun _ _ _ _ h => h)) (pa_cons (pv 3) pa_nil)))
  (pss_cons (ps_if (pt_cmpR op_isN1 (pv 4) pe_non (nomark _)) (pss_one (ps_raiseI m_NoText (hr.mono (by decide)) rfl (L2N.takes_of rfl rfl rfl rfl) rfl (pa_cons (pv 2) pa_nil))) pss_nil)
  (pss_one (ps_expr (pe_bm PySem.F.plainAttrs_list PySem.F.slot_list_append PySem.F.type_list_append mt_append (pv 1) (pa_cons (pv 4) pa_nil)))))))
  (pss_one (ps_ret (pv 1)))))), pure_rows_from T vs H Q E h⟩)
end
end Dot
namespace Dot
open PySem PySem.Spec PyProof.Rows L2 DK
def m_split_rows (z_text : Str) : Rs ((Int × (List (List Int)))) :=
grd (Str.length z_text ≤ 1000000) <| (ixR (Txt.split z_text "\n") 0).bnd fun x1 =>
(m_numbers_from x1).bnd fun x2 =>
Rs.bnd (if x2.isNone = true then (.ok true) else (somR x2 fun y1 =>
.ok (!decide ((y1.length : Int) = 1))) : Rs Bool) fun b1 =>
if b1 = true then (.exc .text (some 0)) else (somR x2 fun y2 =>
(m_rows_from z_text).bnd fun x3 =>
if (x3.length : Int) = 1 then (.exc .text (some 1)) else ((ixR y2 0).bnd fun x4 =>
.ok ((x4, (cutL x3 (some 1) none)))))
def sp_split_rows (K : PySem.W.Frag) : Sp := fun vs H Q E => ∃ (v_text : V), vs = [v_text] ∧ (∃ (F : Hp) (z_text : Str), Same F H ∧ v_text = (V.str z_text) ∧ Post (m_split_rows z_text) (fun r => ∀ F' H', Stp [] F H F' H' → ∀ u, RD F' ((eP Dat.int (eL (eL Dat.int))) r) u → Q u H') (fun c l => ∀ Fx Hx dx, Stp [] F H Fx Hx → ExD Fx l dx → E (.ref (He.ga K c.nm)) dx Hx))
theorem len_split_rows {K : PySem.W.Frag} : ∀ vs H Q E, sp_split_rows K vs H Q E → vs.length = ((["text"] : List Str)).length := fun vs H Q E h => by
  obtain ⟨_, rfl, _⟩ := h
  rfl
def t_split_rows (K : PySem.W.Frag) (E : XK) : TS :=
  (tSeq (tAsg (tCall (sp_numbers_from K) [] E (tCons (tOp (rIxU K) (tM1 rSplitT (tVar 0) (tC (.str "\n"))) (tC (.int 0))) tNil)) (gName 1))
  (tSeq (tIfS (tOr (tTest (tOp rIsN (tVar 1) (tC .non))) (tTest (tOp (rNeU K) (tCB (rLenU K) (tCons (tVar 1) tNil)) (tC (.int 1))))) (tRaiseI (He.ga K "NoText") (sp_NoText_init K) (fun cls d _ H => E cls d H) (tCons (tC (.int 0)) tNil)) tNext)
  (tSeq (tAsg (tCall (sp_rows_from K) [] E (tCons (tVar 0) tNil)) (gName 2))
  (tSeq (tIfS (tTest (tOp (rEqU K) (tCB (rLenU K) (tCons (tVar 2) tNil)) (tC (.int 1)))) (tRaiseI (He.ga K "NoText") (sp_NoText_init K) (fun cls d _ H => E cls d H) (tCons (tC (.int 1)) tNil)) tNext)
  (tRet (tTup (tCons (tOp (rIxU K) (tVar 1) (tC (.int 0))) (tCons (tSl (rSlU K) (tVar 2) (tPart (tC (.int 1))) tNoPart) tNil))))))))
section
variable {P : Program} {w : World} {K : PySem.W.Frag} {mg : Str → Option Value} {base : Heap}
theorem pure_split_rows (T : TX K mg) (vs : List V) (H : Hp) (Q : VK) (E : XK) (h : sp_split_rows K vs H Q E) : t_split_rows K E { nx := fun _ H' => Q .non H', rt := Q } (start n_split_rows vs) H := by
  obtain ⟨v_text, rfl, h⟩ := h
  change t_split_rows K E _ [some v_text, none, none] H
  unfold t_split_rows
  obtain ⟨F, z_text, e0, rfl, h⟩ := h
  unfold m_split_rows at h
  dl_open
  refine st_m1 ?_
  dl_open
  dl_open
  refine sm_m1 ?_
  dl_open
  dl_open
  replace h := h.g
  obtain ⟨g1, h⟩ := h
  refine sm_split (F := F) (by lcg_src) (by decide) g1 ?_
  refine KOwn.fz ?_
  intro u1 F1 H1 s1 r1
  have r1 : RD F1 ((eL Dat.str) (Txt.split z_text "\n")) u1 := r1
  dl_open
  replace h := h.ix
  obtain ⟨x1, hx1, h⟩ := h
  refine sm_ixL (e := Dat.str) (F := F1) (by lcg_src) (by kqd_all) hx1 ?_
  intro u2 r2
  cases (show u2 = (V.str x1) from r2)
  dl_open
  refine ⟨_, rfl, F1, x1, by lcg_src, rfl, h.b.mono2 ?_ (fun c_ l_ hx_ Fx_ Hx_ dx_ sx_ ex_ => by exact hx_ Fx_ Hx_ dx_ (by kas_types) ex_)⟩
  clear h
  intro x2 h F2 H2 s2 u4 q1
  obtain ⟨F3, s3, r3⟩ := optO_fz s2 q1
  clear q1; clear s2
  dl_open
  dl_open
  with_reducible refine DK.st_if ?_
  dl_open
  dl_open
  (refine cutT F3 H2 h ?_ ?_) <;> clear h
  · intro Qkk1 kk1 h
    refine st_or ?_
    dl_open
    refine sm_isN (e := (eL Dat.int)) (F := F3) (by kqd_all) (fun _ => rfl) ?_
    dl_open
    dl_open
    (refine brB h ?_ ?_) <;> clear h <;> intro c1 h
    · try dl_open
      exact kk1 _ F3 H2 (by kas_types) h
    · dl_open
      replace h := h.som
      obtain ⟨y1, hy1, h⟩ := h
      have r4 : RD F3 (eO (eL Dat.int) (some y1)) u4 := hy1 ▸ (by kqd_all : RD F3 (eO (eL Dat.int) x2) u4)
      have r4 : RD F3 ((eL Dat.int) y1) u4 := r4
      dl_open
      refine st_lenM (f := Dat.int) (F := F3) (by lcg_src) (by kqd_all) ?_
      dl_open
      dl_open
      exact kk1 _ F3 H2 (by kas_types) h
  intro b1 F4 H3 s4 h
  dl_open
  (refine brB h ?_ ?_) <;> clear h <;> intro c2 h
  · dl_open
    dl_open
    refine st_raiseI ?_
    dl_open
    dl_open
    refine sm_raiseI (σ := []) (W := fun cls d _ H => E cls d H) (C := He.ga K "NoText") (sp := sp_NoText_init K) (n := 0) (fun _ _ _ _ h_ => by obtain ⟨a_, n_, e_, h1_, h2_⟩ := h_; exact ⟨_, _, e_, a_, n_, rfl, rfl, h1_, h2_⟩) (F := F4) (by lcg_src) ?_
    intro F5 H4 dx1 s5 l_
    exact h F5 H4 dx1 (by kas_types) l_
  · dl_open
    replace h := h.som
    obtain ⟨y2, hy2, h⟩ := h
    have r5 : RD F4 (eO (eL Dat.int) (some y2)) u4 := hy2 ▸ (by kqd_all : RD F4 (eO (eL Dat.int) x2) u4)
    have r5 : RD F4 ((eL Dat.int) y2) u4 := r5
    dl_open
    refine ⟨_, rfl, F4, z_text, by lcg_src, rfl, h.b.mono2 ?_ (fun c_ l_ hx_ Fx_ Hx_ dx_ sx_ ex_ => by exact hx_ Fx_ Hx_ dx_ (by kas_types) ex_)⟩
    clear h
    intro x3 h F6 H5 s6 u6 r6
    dl_open
    dl_open
    with_reducible refine DK.st_if ?_
    dl_open
    dl_open
    refine st_lenM (f := (eL Dat.int)) (F := F6) (by lcg_src) (by kqd_all) ?_
    dl_open
    dl_open
    (refine brP h ?_ ?_) <;> clear h <;> intro c3 h
    · dl_open
      dl_open
      refine st_raiseI ?_
      dl_open
      dl_open
      refine sm_raiseI (σ := []) (W := fun cls d _ H => E cls d H) (C := He.ga K "NoText") (sp := sp_NoText_init K) (n := 1) (fun _ _ _ _ h_ => by obtain ⟨a_, n_, e_, h1_, h2_⟩ := h_; exact ⟨_, _, e_, a_, n_, rfl, rfl, h1_, h2_⟩) (F := F6) (by lcg_src) ?_
      intro F7 H6 dx2 s7 l_
      exact h F7 H6 dx2 (by kas_types) l_
    · dl_open
      dl_open
      dl_open
      replace h := h.ix
      obtain ⟨x4, hx2, h⟩ := h
      refine sm_ixL (e := Dat.int) (F := F6) (by lcg_src) (by kqd_all) hx2 ?_
      intro u7 r7
      cases (show u7 = (V.int x4) from r7)
      dl_open
      refine sm_slL (e := (eL Dat.int)) (F := F6) (by lcg_src) (by kqd_all) ?_
      intro u8 F8 H7 s8 r8
      dl_open
      refine newT (by simp) (F := F8) (by lcg_src) (ds := [Dat.int x4, (eL (eL Dat.int)) (cutL x3 (some 1) none)]) (by nest_cls) ?_
      intro u9 F9 H8 s9 r9
      have r9 : RD F9 ((eP Dat.int (eL (eL Dat.int))) (x4, (cutL x3 (some 1) none))) u9 := r9
      dl_open
      exact h F9 H8 (by kas_types) _ (show RD F9 ((eP Dat.int (eL (eL Dat.int))) (x4, (cutL x3 (some 1) none))) u9 by kqd_all)
theorem ok_split_rows (T : TX K mg) (c_numbers_from : CalOk P w K mg base "numbers_from" 2 (["row"] : List Str) (sp_numbers_from K)) (m_NoText : OexOk P w K mg base "NoText" 1 (["self", "line"] : List Str) (sp_NoText_init K)) (c_rows_from : CalOk P w K mg base "rows_from" 3 (["text"] : List Str) (sp_rows_from K)) : CalOk P w K mg base "split_rows" 4 (["text"] : List Str) (sp_split_rows K) :=
  T.cal 7 35 (d := d_split_rows) rfl rfl rfl rfl rfl sc_split_rows (len_split_rows) (fun _ _ _ _ _ _ _ us hl => match us, hl with | [_], _ => rfl) (fun cdv A outer s H vs Q E hr h => ⟨t_split_rows K E, (by exact (pss_cons (ps_set (i := 1) sc_split_rows.nd rfl (by first | exact Or.inl rfl | exact Or.inr rfl) (pe_callC c_numbers_from (hr.mono (by decide)) rfl (L2N.passes_call (L2N.takes_of rfl rfl rfl rfl) (fun _ _ _ _ h => h)) (pa_cons (pe_ix ix_U (pe_m1 PySem.F.slot_str_split PySem.F.type_str_split mt_split (pv 0) pe_str) pe_int (fun _ _ => rfl)) pa_nil)))
  (pss_cons (ps_if (PW.pt (pw_or (pt_cmpR op_isN1 (pv 1) pe_non (nomark _)) (pw_or1 (pt_cmpR (op_neU hr.units) (pe_callB call_lenU (by rfl) (T.free 0) (by decide +kernel) (pa_cons (pv 1) pa_nil)) pe_int (nomark _))))) (pss_one (ps_raiseI m_NoText (hr.mono (by decide)) rfl (L2N.takes_of rfl rfl rfl rfl) rfl (pa_cons pe_int pa_nil))) pss_nil)
  (pss_cons (ps_set (i := 2) sc_split_rows.nd rfl (by first | exact Or.inl rfl | exact Or.inr rfl) (pe_callC c_rows_from (hr.mono (by decide)) rfl (L2N.passes_call (L2N.takes_of rfl rfl rfl rfl) (fun _ _ _ _ h => h)) (pa_cons (pv 0) pa_nil)))
  (pss_cons (ps_if (pt_cmpR (op_eqU hr.units) (pe_callB call_lenU (by rfl) (T.free 0) (by decide +kernel) (pa_cons (pv 2) pa_nil)) pe_int (nomark _)) (pss_one (ps_raiseI m_NoText (hr.mono (by decide)) rfl (L2N.takes_of rfl rfl rfl rfl) rfl (pa_cons pe_int pa_nil))) pss_nil)
  (pss_one (ps_ret (pe_tup (pa_cons (pe_ix ix_U (pv 1) pe_int (fun _ _ => rfl)) (pa_cons (pe_slice sl_U (pv 2) (po_some pe_int) po_none) pa_nil)))))))))), pure_split_rows T vs H Q E h⟩)
end
end Dot
namespace Dot
open PySem PySem.Spec PyProof.Rows L2 DK
def m_rows_kept (z_rows : (List (List Int))) (z_low : Int) (z_top : Int) : Rs ((Option (List (List Int)))) :=
Rs.bnd (if (z_rows.length : Int) = 0 then (.ok true) else ((ixR z_rows 0).bnd fun x1 =>
.ok (decide ((x1.length : Int) = 0))) : Rs Bool) fun b1 =>
if b1 = true then (.ok (none)) else (Rs.thn (forR (R := (Option (List (List Int)))) (fun (x2 : (List (List Int))) (y1 : (List Int)) =>
(ixR z_rows 0).bnd fun x3 =>
if (y1.length : Int) = (x3.length : Int) then (Rs.thn (forR (R := (Option (List (List Int)))) (fun (_ : Unit) (y2 : Int) =>
Rs.bnd (if z_low ≤ y2 then (.ok (decide (y2 ≤ z_top))) else (.ok false) : Rs Bool) fun b2 =>
if b2 = true then (.ok (.nx ())) else (.ok (.rt none))) y1 ()) (fun _ =>
grd (x2.length < 1000000) <| .ok (.nx (x2 ++ [y1]))) (fun r => .ok (.rt r))) else (.ok (.rt none))) z_rows ([] : List (List Int))) (fun x4 =>
.ok ((some x4))) (fun r => .ok r))
def sp_rows_kept (K : PySem.W.Frag) : Sp := fun vs H Q E => ∃ (v_rows v_low v_top : V), vs = [v_rows, v_low, v_top] ∧ (∃ (F : Hp) (bq1 : Bool) (bq2 : Bool) (z_rows : (List (List Int))) (z_low : Int) (z_top : Int), Same F H ∧ RD F ((eQ bq1 (eQ bq2 Dat.int)) z_rows) v_rows ∧ v_low = (V.int z_low) ∧ v_top = (V.int z_top) ∧ Post (m_rows_kept z_rows z_low z_top) (fun r => ∀ F' H', Stp [] F H F' H' → ∀ u, RD F' ((eO (eT (eT Dat.int))) r) u → Q u H') (fun c l => ∀ Fx Hx dx, Stp [] F H Fx Hx → ExD Fx l dx → E (.ref (He.ga K c.nm)) dx Hx))
theorem len_rows_kept {K : PySem.W.Frag} : ∀ vs H Q E, sp_rows_kept K vs H Q E → vs.length = ((["rows", "low", "top"] : List Str)).length := fun vs H Q E h => by
  obtain ⟨_, _, _, rfl, _⟩ := h
  rfl
def t_rows_kept (K : PySem.W.Frag) (E : XK) : TS :=
  (tSeq (tIfS (tOr (tTest (tOp (rEqU K) (tCB (rLenU K) (tCons (tVar 0) tNil)) (tC (.int 0)))) (tTest (tOp (rEqU K) (tCB (rLenU K) (tCons (tOp (rIxU K) (tVar 0) (tC (.int 0))) tNil)) (tC (.int 0))))) (tRet (tC .non)) tNext)
  (tSeq (tAsg (tLst tNil) (gName 3))
  (tSeq (tFor (iSeq K (tVar 0)) (gName 4) (tSeq (tIfS (tTest (tOp (rNeU K) (tCB (rLenU K) (tCons (tVar 4) tNil)) (tCB (rLenU K) (tCons (tOp (rIxU K) (tVar 0) (tC (.int 0))) tNil)))) (tRet (tC .non)) tNext)
  (tSeq (tFor (iSeq K (tVar 4)) (gName 5) (tIfS (tNot (tTest (tChain rLeI rLeI (tVar 1) (tVar 5) (tVar 2)))) (tRet (tC .non)) tNext))
  (tDrop (tBM K "list" rAppend (tVar 3) (tCons (tCB (rTupU K) (tCons (tVar 4) tNil)) tNil))))))
  (tRet (tCB (rTupU K) (tCons (tVar 3) tNil))))))
section
variable {P : Program} {w : World} {K : PySem.W.Frag} {mg : Str → Option Value} {base : Heap}
theorem pure_rows_kept (T : TX K mg) (vs : List V) (H : Hp) (Q : VK) (E : XK) (h : sp_rows_kept K vs H Q E) : t_rows_kept K E { nx := fun _ H' => Q .non H', rt := Q } (start n_rows_kept vs) H := by
  obtain ⟨v_rows, v_low, v_top, rfl, h⟩ := h
  change t_rows_kept K E _ [some v_rows, some v_low, some v_top, none, none, none] H
  unfold t_rows_kept
  obtain ⟨F, bq1, bq2, z_rows, z_low, z_top, e0, hr1, rfl, rfl, h⟩ := h
  unfold m_rows_kept at h
  dl_open
  with_reducible refine DK.st_if ?_
  dl_open
  dl_open
  (refine cutT F H h ?_ ?_) <;> clear h
  · intro Qkk1 kk1 h
    refine st_or ?_
    dl_open
    refine sm_lenQ (e := (eQ bq2 Dat.int)) (F := F) (by lcg_src) (by kqd_all) ?_
    dl_open
    dl_open
    (refine brP h ?_ ?_) <;> clear h <;> intro c1 h
    · try dl_open
      exact kk1 _ F H (by kas_types) h
    · dl_open
      dl_open
      replace h := h.ix
      obtain ⟨x1, hx1, h⟩ := h
      refine sm_ixQ (e := (eQ bq2 Dat.int)) (F := F) (by lcg_src) (by kqd_all) hx1 ?_
      intro u1 r1
      have r1 : RD F ((eQ bq2 Dat.int) x1) u1 := r1
      dl_open
      refine sm_lenQ (e := Dat.int) (F := F) (by lcg_src) (by kqd_all) ?_
      dl_open
      dl_open
      exact kk1 _ F H (by kas_types) h
  intro b1 F1 H1 s1 h
  dl_open
  (refine brB h ?_ ?_) <;> clear h <;> intro c2 h
  · dl_open
    dl_open
    dl_open
    exact h F1 H1 (by kas_types) _ (show RD F1 Dat.non V.non from rfl)
  · dl_open
    dl_open
    refine newO (by simp) (F := F1) (by lcg_src) ?_
    intro L1 F2 H2 s2 n1 o1
    have r2 : RDs F2 (List.map (eT Dat.int) ([] : List (List Int))) [] := (show RDs F2 [] [] by nest_cls)
    dl_open
    dl_open
    (with_reducible refine cutF h (fun (s : (List (List Int))) σ' H' => ∃ F', ∃ (oj_0 : Option V) (oj_2 : Option V) (wj_0 : List V), Stp [L1] F2 H2 F' H' ∧ Own F' H' L1 (.lst wj_0) ∧ RDs F' (List.map (eT Dat.int) s) wj_0 ∧ σ' = [some v_rows, some (V.int z_low), some (V.int z_top), some (V.ref L1), oj_2, oj_0]) ?_ ?_) <;> clear h
    · intro nx1 kk2 h
      refine st_for ?_
      dl_open
      refine fr_Q (e := (eQ bq2 Dat.int)) (F := F2) (show RD F2 ((eQ bq1 (eQ bq2 Dat.int)) z_rows) v_rows by kqd_all) (by lcg_src) h (fun _ q => ⟨_, rfl, q⟩) (fun (s : (List (List Int))) σ' H' => ∃ F', ∃ (oj_0 : Option V) (oj_2 : Option V) (wj_0 : List V), Stp [L1] F2 H2 F' H' ∧ Own F' H' L1 (.lst wj_0) ∧ RDs F' (List.map (eT Dat.int) s) wj_0 ∧ σ' = [some v_rows, some (V.int z_low), some (V.int z_top), some (V.ref L1), oj_2, oj_0]) ⟨F2, _, _, _, Stp.refl (by lcg_src), by kat_tups, by nest_cls, rfl⟩ (by rintro _ _ _ ⟨_, _, _, _, t, _⟩; exact t.ex.trans t.inn) ?_ (by intro s_k σ_k H_k q_k p_k; replace p_k := Ctl.nx_of p_k; exact kk2 s_k σ_k H_k q_k p_k)
      clear h
      rintro y1 rest1 x2 u2 σ_ H3 r3 ⟨F3, o_1, o_2, w1, s3, o2, r4, rfl⟩ h
      have r3 : RD F2 ((eQ bq2 Dat.int) y1) u2 := r3
      try dsimp only at h
      dl_open
      dl_open
      with_reducible refine DK.st_if ?_
      dl_open
      dl_open
      refine sm_lenQ (e := Dat.int) (F := F3) (by lcg_src) (by kqd_all) ?_
      dl_open
      replace h := h.ix
      obtain ⟨x3, hx2, h⟩ := h
      refine sm_ixQ (e := (eQ bq2 Dat.int)) (F := F3) (by lcg_src) (by kqd_all) hx2 ?_
      intro u3 r5
      have r5 : RD F3 ((eQ bq2 Dat.int) x3) u3 := r5
      dl_open
      refine sm_lenQ (e := Dat.int) (F := F3) (by lcg_src) (by kqd_all) ?_
      dl_open
      dl_open
      (refine brN h ?_ ?_) <;> clear h <;> intro c3 h
      · dl_open
        dl_open
        dl_open
        exact h F3 H3 (by kas_types) _ (show RD F3 Dat.non V.non from rfl)
      · dl_open
        dl_open
        (with_reducible refine cutF h (fun (s : Unit) σ' H' => ∃ F', ∃ (oj_0 : Option V), Stp [] F3 H3 F' H' ∧ σ' = [some v_rows, some (V.int z_low), some (V.int z_top), some (V.ref L1), some u2, oj_0]) ?_ ?_) <;> clear h
        · intro nx2 kk3 h
          refine st_for ?_
          dl_open
          refine fr_Q (e := Dat.int) (F := F3) (show RD F3 ((eQ bq2 Dat.int) y1) u2 by kqd_all) (by lcg_src) h (fun _ q => ⟨_, rfl, q⟩) (fun (s : Unit) σ' H' => ∃ F', ∃ (oj_0 : Option V), Stp [] F3 H3 F' H' ∧ σ' = [some v_rows, some (V.int z_low), some (V.int z_top), some (V.ref L1), some u2, oj_0]) ⟨F3, _, Stp.refl (by lcg_src), rfl⟩ (by rintro _ _ _ ⟨_, _, t, _⟩; exact t.ex.trans t.inn) ?_ (by intro s_k σ_k H_k q_k p_k; replace p_k := Ctl.nx_of p_k; exact kk3 s_k σ_k H_k q_k p_k)
          clear h
          rintro y2 rest2 _ u4 σ_ H4 r6 ⟨F4, o_3, s4, rfl⟩ h
          cases (show u4 = (V.int y2) from r6)
          try dsimp only at h
          dl_open
          dl_open
          with_reducible refine DK.st_if ?_
          dl_open
          dl_open
          dl_open
          (refine cutB F4 H4 h ?_ ?_) <;> clear h
          · intro Qkk4 kk4 h
            refine st_chain ?_
            dl_open
            (refine brP h ?_ ?_) <;> clear h <;> intro c4 h
            · dl_open
              dl_open
              exact kk4 _ F4 H4 (by kas_types) h
            · exact kk4 _ F4 H4 (by kas_types) h
          intro b2 F5 H5 s5 h
          dl_open
          dl_open
          (refine brNB h ?_ ?_) <;> clear h <;> intro c5 h
          · dl_open
            dl_open
            dl_open
            exact h F5 H5 (by kas_types) _ (show RD F5 Dat.non V.non from rfl)
          · dl_open
            dl_open
            exact ⟨(), ⟨F5, _, by kas_types, rfl⟩, h.onx⟩
        · rintro _ σ_ H6 ⟨F6, o_4, s6, rfl⟩ h
          try dsimp only at h
          dl_open
          dl_open
          refine ⟨ty_own (by kat_tups : Own F6 _ _ _), ?_⟩
          dl_open
          refine sm_tupQ (e := Dat.int) (F := F6) (by lcg_src) (by kqd_all) ?_
          intro u5 F7 H7 s7 r7
          have r7 : RD F7 ((eT Dat.int) y1) u5 := r7
          dl_open
          replace h := h.g
          obtain ⟨g1, h⟩ := h
          refine sm_app (e := (eT Dat.int)) (x := y1) (F := F7) (by lcg_src) (by kat_tups) (by nest_cls) (by kqd_all) g1 ?_
          intro w2 F8 H8 s8 o3 r8
          dl_open
          dl_open
          exact ⟨(x2 ++ [y1]), ⟨F8, _, _, _, by kas_types, by kat_tups, by nest_cls, rfl⟩, h.onx⟩
    · rintro x4 σ_ H9 ⟨F9, o_5, o_6, w3, s9, o4, r9, rfl⟩ h
      try dsimp only at h
      dl_open
      dl_open
      refine st_tupO (F := F9) (ds := List.map (eT Dat.int) x4) (by lcg_src) (by kat_tups) (by nest_cls) ?_
      intro u6 F10 H10 s10 r10
      have r10 : RD F10 ((eT (eT Dat.int)) x4) u6 := r10
      dl_open
      exact h F10 H10 (by kas_types) _ (show RD F10 ((eT (eT Dat.int)) x4) u6 by kqd_all)
theorem ok_rows_kept (T : TX K mg)  : CalOk P w K mg base "rows_kept" 1 (["rows", "low", "top"] : List Str) (sp_rows_kept K) :=
  T.cal 1 31 (d := d_rows_kept) rfl rfl rfl rfl rfl sc_rows_kept (len_rows_kept) (fun _ _ _ _ _ _ _ us hl => match us, hl with | [_, _, _], _ => rfl) (fun cdv A outer s H vs Q E hr h => ⟨t_rows_kept K E, (by exact (pss_cons (ps_if (PW.pt (pw_or (pt_cmpR (op_eqU hr.units) (pe_callB call_lenU (by rfl) (T.free 0) (by decide +kernel) (pa_cons (pv 0) pa_nil)) pe_int (nomark _)) (pw_or1 (pt_cmpR (op_eqU hr.units) (pe_callB call_lenU (by rfl) (T.free 0) (by decide +kernel) (pa_cons (pe_ix ix_U (pv 0) pe_int (fun _ _ => rfl)) pa_nil)) pe_int (nomark _))))) (pss_one (ps_ret pe_non)) pss_nil)
  (pss_cons (ps_set (i := 3) sc_rows_kept.nd rfl (by first | exact Or.inl rfl | exact Or.inr rfl) (pe_lst pa_nil))
  (pss_cons (ps_for (passes_of rfl) rfl (pi_seq (pv 0)) (pg_name (i := 4) sc_rows_kept.nd rfl (by first | exact Or.inl rfl | exact Or.inr rfl)) (pss_cons (ps_if (pt_cmpR (op_neU hr.units) (pe_callB call_lenU (by rfl) (T.free 0) (by decide +kernel) (pa_cons (pv 4) pa_nil)) (pe_callB call_lenU (by rfl) (T.free 0) (by decide +kernel) (pa_cons (pe_ix ix_U (pv 0) pe_int (fun _ _ => rfl)) pa_nil)) (nomark _)) (pss_one (ps_ret pe_non)) pss_nil)
  (pss_cons (ps_for (passes_of rfl) rfl (pi_seq (pv 4)) (pg_name (i := 5) sc_rows_kept.nd rfl (by first | exact Or.inl rfl | exact Or.inr rfl)) (pss_one (ps_if (pt_not (pt_chain op_le op_le (pv 1) (pv 5) (pv 2))) (pss_one (ps_ret pe_non)) pss_nil)))
  (pss_one (ps_expr (pe_bm PySem.F.plainAttrs_list PySem.F.slot_list_append PySem.F.type_list_append mt_append (pv 3) (pa_cons (pe_callTy call_tupU (by rfl) (T.free 1) (by decide +kernel) (pa_cons (pv 4) pa_nil)) pa_nil)))))))
  (pss_one (ps_ret (pe_callTy call_tupU (by rfl) (T.free 1) (by decide +kernel) (pa_cons (pv 3) pa_nil)))))))), pure_rows_kept T vs H Q E h⟩)
end
end Dot
namespace Dot
open PySem PySem.Spec PyProof.Rows L2 DK
def m_Picture_init (z_most : Int) (z_rows : (List (List Int))) : Rs ((Int × (List (List Int)))) :=
(m_rows_kept z_rows 0 z_most).bnd fun x1 =>
Rs.bnd (if z_most < 1 then (.ok true) else (.ok (x1.isNone)) : Rs Bool) fun b1 =>
if b1 = true then (.exc .picture none) else (somR x1 fun y1 =>
.ok (z_most, y1))
def sp_Picture_init (K : PySem.W.Frag) : Sp := fun vs H Q E => ∃ (v_self v_most v_rows : V), vs = [v_self, v_most, v_rows] ∧ (∃ (F : Hp) (bq1 : Bool) (bq2 : Bool) (L0 dx0 : Addr) (z_most : Int) (z_rows : (List (List Int))), Same F H ∧ v_self = .ref L0 ∧ Own F H L0 (.ins (He.ga K "Picture") dx0 []) ∧ v_most = (V.int z_most) ∧ RD F ((eQ bq1 (eQ bq2 Dat.int)) z_rows) v_rows ∧ Post (m_Picture_init z_most z_rows) (fun r => ∀ ws F' H', Stp [L0] F H F' H' → Own F' H' L0 (.ins (He.ga K "Picture") dx0 (fs_Picture.zip ws)) → RDs F' [Dat.int r.1, (eT (eT Dat.int)) r.2] ws → Q .non H') (fun c l => ∀ Fx Hx dx, Stp [L0] F H Fx Hx → ExD Fx l dx → E (.ref (He.ga K c.nm)) dx Hx))
theorem len_Picture_init {K : PySem.W.Frag} : ∀ vs H Q E, sp_Picture_init K vs H Q E → vs.length = ((["self", "most", "rows"] : List Str)).length := fun vs H Q E h => by
  obtain ⟨_, _, _, rfl, _⟩ := h
  rfl
def t_Picture_init (K : PySem.W.Frag) (E : XK) : TS :=
  (tSeq (tAsg (tCall (sp_rows_kept K) [] E (tCons (tVar 2) (tCons (tC (.int 0)) (tCons (tVar 1) tNil)))) (gName 3))
  (tSeq (tIfS (tOr (tTest (tOp rLtI (tVar 1) (tC (.int 1)))) (tTest (tOp rIsN (tVar 3) (tC .non)))) (tRaiseC (He.ga K "NoPicture") (fun cls d _ H => E cls d H)) tNext)
  (tSeq (sFld K (tVar 0) (tVar 1) "most")
  (sFld K (tVar 0) (tVar 3) "rows"))))
section
variable {P : Program} {w : World} {K : PySem.W.Frag} {mg : Str → Option Value} {base : Heap}
theorem pure_Picture_init (T : TX K mg) (vs : List V) (H : Hp) (Q : VK) (E : XK) (h : sp_Picture_init K vs H Q E) : t_Picture_init K E { nx := fun _ H' => Q .non H', rt := Q } (start n_Picture_init vs) H := by
  obtain ⟨v_self, v_most, v_rows, rfl, h⟩ := h
  change t_Picture_init K E _ [some v_self, some v_most, some v_rows, none] H
  unfold t_Picture_init
  obtain ⟨F, bq1, bq2, L0, dx0, z_most, z_rows, e0, rfl, o0, rfl, hr2, h⟩ := h
  unfold m_Picture_init at h
  dl_open
  refine ⟨_, _, _, rfl, F, bq1, bq2, z_rows, 0, z_most, by lcg_src, (show RD F ((eQ bq1 (eQ bq2 Dat.int)) z_rows) _ by kqd_all), rfl, rfl, h.b.mono2 ?_ (fun c_ l_ hx_ Fx_ Hx_ dx_ sx_ ex_ => by exact hx_ Fx_ Hx_ dx_ (by kas_types) ex_)⟩
  clear h
  intro x1 h F1 H1 s1 u2 r1
  dl_open
  dl_open
  with_reducible refine DK.st_if ?_
  dl_open
  dl_open
  (refine cutT F1 H1 h ?_ ?_) <;> clear h
  · intro Qkk1 kk1 h
    refine st_or ?_
    dl_open
    dl_open
    (refine brP h ?_ ?_) <;> clear h <;> intro c1 h
    · try dl_open
      exact kk1 _ F1 H1 (by kas_types) h
    · dl_open
      dl_open
      refine sm_isN (e := (eT (eT Dat.int))) (F := F1) (by kqd_all) (fun _ => rfl) ?_
      dl_open
      dl_open
      exact kk1 _ F1 H1 (by kas_types) h
  intro b1 F2 H2 s2 h
  dl_open
  (refine brB h ?_ ?_) <;> clear h <;> intro c2 h
  · dl_open
    dl_open
    exact h F2 H2 none (by kas_types) rfl
  · dl_open
    replace h := h.som
    obtain ⟨y1, hy1, h⟩ := h
    have r2 : RD F2 (eO (eT (eT Dat.int)) (some y1)) u2 := hy1 ▸ (by kqd_all : RD F2 (eO (eT (eT Dat.int)) x1) u2)
    have r2 : RD F2 ((eT (eT Dat.int)) y1) u2 := r2
    dl_open
    dl_open
    refine sm_sfld (fs' := [("most", (V.int z_most))]) (F := F2) (by lcg_src) (by kat_tups) (tx_cls_Picture T) (tx_noat_Picture_most T) (by simp) (by kernel_rfl) ?_
    intro F3 H3 s3 o1
    dl_open
    dl_open
    refine sm_sfld (fs' := [("most", (V.int z_most)), ("rows", u2)]) (F := F3) (by lcg_src) (by kat_tups) (tx_cls_Picture T) (tx_noat_Picture_rows T) (by simp) (by kernel_rfl) ?_
    intro F4 H4 s4 o2
    dl_open
    have oo_ : Own F4 H4 L0 (.ins (He.ga K "Picture") dx0 (fs_Picture.zip [(V.int z_most), u2])) := (by kat_tups : Own F4 H4 L0 (.ins (He.ga K "Picture") dx0 [("most", (V.int z_most)), ("rows", u2)]))
    exact h [(V.int z_most), u2] F4 H4 (by kas_types) oo_ (by nest_cls)
theorem mk_Picture (T : TX K mg) (c_rows_kept : CalOk P w K mg base "rows_kept" 1 (["rows", "low", "top"] : List Str) (sp_rows_kept K)) : MakOk P w K mg base "Picture" 2 (["self", "most", "rows"] : List Str) (sp_Picture_init K) :=
  T.mak 2 28 61 (d := d_Picture_init) rfl rfl rfl rfl rfl rfl sc_Picture_init (len_Picture_init) (fun _ _ _ _ _ _ _ us hl => match us, hl with | [_, _, _], _ => rfl) (fun cdv A outer s H vs Q E hr h => ⟨t_Picture_init K E, (by exact (pss_cons (ps_set (i := 3) sc_Picture_init.nd rfl (by first | exact Or.inl rfl | exact Or.inr rfl) (pe_callC c_rows_kept (hr.mono (by decide)) rfl (L2N.passes_call (L2N.takes_of rfl rfl rfl rfl) (fun _ _ _ _ h => h)) (pa_cons (pv 2) (pa_cons pe_int (pa_cons (pv 1) pa_nil)))))
  (pss_cons (ps_if (PW.pt (pw_or (pt_cmpR op_lt (pv 1) pe_int (nomark _)) (pw_or1 (pt_cmpR op_isN1 (pv 3) pe_non (nomark _))))) (pss_one (ps_raiseC rfl (L2N.takes_of rfl rfl rfl rfl) (T.exc 2) (T.glo 3))) pss_nil)
  (pss_cons (ps_fld (pv 0) (pv 1) rfl)
  (pss_one (ps_fld (pv 0) (pv 3) rfl)))))), pure_Picture_init T vs H Q E h⟩)
end
end Dot
namespace Dot
open PySem PySem.Spec PyProof.Rows L2 DK
def m_read_picture (z_text : Str) : Rs ((Int × (List (List Int)))) :=
(m_split_rows z_text).bnd fun x1 =>
(m_Picture_init x1.1 x1.2).bnd fun x2 =>
.ok (x2)
def sp_read_picture (K : PySem.W.Frag) : Sp := fun vs H Q E => ∃ (v_text : V), vs = [v_text] ∧ (∃ (F : Hp) (z_text : Str), Same F H ∧ v_text = (V.str z_text) ∧ Post (m_read_picture z_text) (fun r => ∀ F' H', Stp [] F H F' H' → ∀ u, RD F' ((e_Picture K) r) u → Q u H') (fun c l => ∀ Fx Hx dx, Stp [] F H Fx Hx → ExD Fx l dx → E (.ref (He.ga K c.nm)) dx Hx))
theorem len_read_picture {K : PySem.W.Frag} : ∀ vs H Q E, sp_read_picture K vs H Q E → vs.length = ((["text"] : List Str)).length := fun vs H Q E h => by
  obtain ⟨_, rfl, _⟩ := h
  rfl
def t_read_picture (K : PySem.W.Frag) (E : XK) : TS :=
  (tSeq (tAsg (tCall (sp_split_rows K) [] E (tCons (tVar 0) tNil)) (gTupU K 2 (gCons (gName 1) (gCons (gName 2) gNil))))
  (tRet (tMake (He.ga K "Picture") (sp_Picture_init K) [] E (tCons (tVar 1) (tCons (tVar 2) tNil)))))
section
variable {P : Program} {w : World} {K : PySem.W.Frag} {mg : Str → Option Value} {base : Heap}
theorem pure_read_picture (T : TX K mg) (vs : List V) (H : Hp) (Q : VK) (E : XK) (h : sp_read_picture K vs H Q E) : t_read_picture K E { nx := fun _ H' => Q .non H', rt := Q } (start n_read_picture vs) H := by
  obtain ⟨v_text, rfl, h⟩ := h
  change t_read_picture K E _ [some v_text, none, none] H
  unfold t_read_picture
  obtain ⟨F, z_text, e0, rfl, h⟩ := h
  unfold m_read_picture at h
  dl_open
  refine ⟨_, rfl, F, z_text, by lcg_src, rfl, h.b.mono2 ?_ (fun c_ l_ hx_ Fx_ Hx_ dx_ sx_ ex_ => by exact hx_ Fx_ Hx_ dx_ (by kas_types) ex_)⟩
  clear h
  intro x1 h F1 H1 s1 u2 r1
  dl_open
  refine sm_g2 (F := F1) (by lcg_src) (by kqd_all) ?_
  intro u3 u4 r2 r3
  cases (show u3 = (V.int x1.1) from r2)
  have r3 : RD F1 ((eL (eL Dat.int)) x1.2) u4 := r3
  dl_open
  dl_open
  dl_open
  refine sm_make (F := F1) (by lcg_src) ?_
  intro L1 dx1 F2 H2 s2 n1 o1
  refine ⟨_, _, _, rfl, F2, false, false, L1, dx1, x1.1, x1.2, by lcg_src, rfl, by kat_tups, rfl, (show RD F2 ((eL (eL Dat.int)) x1.2) _ by kqd_all), h.b.mono2 ?_ (fun c_ l_ hx_ Fx_ Hx_ dx_ sx_ ex_ => by exact hx_ Fx_ Hx_ dx_ (by kas_types) ex_)⟩
  clear h
  intro x2 h w1 F3 H3 s3 o2 r4
  refine ⟨rfl, ?_⟩
  obtain ⟨F4, s4, r5⟩ := own_fzI (nms := fs_Picture) s3.inn o2 r4
  have r5 : RD F4 ((e_Picture K) x2) (V.ref L1) := r5
  dl_open
  exact h F4 H3 (by kas_types) _ (show RD F4 ((e_Picture K) x2) (V.ref L1) by kqd_all)
theorem ok_read_picture (T : TX K mg) (c_split_rows : CalOk P w K mg base "split_rows" 4 (["text"] : List Str) (sp_split_rows K)) (m_Picture : MakOk P w K mg base "Picture" 2 (["self", "most", "rows"] : List Str) (sp_Picture_init K)) : CalOk P w K mg base "read_picture" 5 (["text"] : List Str) (sp_read_picture K) :=
  T.cal 8 36 (d := d_read_picture) rfl rfl rfl rfl rfl sc_read_picture (len_read_picture) (fun _ _ _ _ _ _ _ us hl => match us, hl with | [_], _ => rfl) (fun cdv A outer s H vs Q E hr h => ⟨t_read_picture K E, (by exact (pss_cons (ps_asg (pe_callC c_split_rows (hr.mono (by decide)) rfl (L2N.passes_call (L2N.takes_of rfl rfl rfl rfl) (fun _ _ _ _ h => h)) (pa_cons (pv 0) pa_nil)) (pg_tupU (by rfl) (pgs_cons (pg_name (i := 1) sc_read_picture.nd rfl (by first | exact Or.inl rfl | exact Or.inr rfl)) (pgs_cons (pg_name (i := 2) sc_read_picture.nd rfl (by first | exact Or.inl rfl | exact Or.inr rfl)) pgs_nil))))
  (pss_one (ps_ret (pe_makeC m_Picture (hr.mono (by decide)) rfl (L2N.passes_call (L2N.takes_of rfl rfl rfl rfl) (fun _ _ _ _ h => h)) (pa_cons (pv 1) (pa_cons (pv 2) pa_nil))))))), pure_read_picture T vs H Q E h⟩)
end
end Dot
namespace Dot
open PySem PySem.Spec PyProof.Rows L2 DK
def m_Tile_init (z_count : Int) (z_rows : (List (List Int))) : Rs ((Int × (List (List Int)))) :=
(m_rows_kept z_rows 1 z_count).bnd fun x1 =>
Rs.bnd (if z_count < 1 then (.ok true) else (.ok (x1.isNone)) : Rs Bool) fun b1 =>
if b1 = true then (.exc .tile none) else (somR x1 fun y1 =>
.ok (z_count, y1))
def sp_Tile_init (K : PySem.W.Frag) : Sp := fun vs H Q E => ∃ (v_self v_count v_rows : V), vs = [v_self, v_count, v_rows] ∧ (∃ (F : Hp) (bq1 : Bool) (bq2 : Bool) (L0 dx0 : Addr) (z_count : Int) (z_rows : (List (List Int))), Same F H ∧ v_self = .ref L0 ∧ Own F H L0 (.ins (He.ga K "Tile") dx0 []) ∧ v_count = (V.int z_count) ∧ RD F ((eQ bq1 (eQ bq2 Dat.int)) z_rows) v_rows ∧ Post (m_Tile_init z_count z_rows) (fun r => ∀ ws F' H', Stp [L0] F H F' H' → Own F' H' L0 (.ins (He.ga K "Tile") dx0 (fs_Tile.zip ws)) → RDs F' [Dat.int r.1, (eT (eT Dat.int)) r.2] ws → Q .non H') (fun c l => ∀ Fx Hx dx, Stp [L0] F H Fx Hx → ExD Fx l dx → E (.ref (He.ga K c.nm)) dx Hx))
theorem len_Tile_init {K : PySem.W.Frag} : ∀ vs H Q E, sp_Tile_init K vs H Q E → vs.length = ((["self", "count", "rows"] : List Str)).length := fun vs H Q E h => by
  obtain ⟨_, _, _, rfl, _⟩ := h
  rfl
def t_Tile_init (K : PySem.W.Frag) (E : XK) : TS :=
  (tSeq (tAsg (tCall (sp_rows_kept K) [] E (tCons (tVar 2) (tCons (tC (.int 1)) (tCons (tVar 1) tNil)))) (gName 3))
  (tSeq (tIfS (tOr (tTest (tOp rLtI (tVar 1) (tC (.int 1)))) (tTest (tOp rIsN (tVar 3) (tC .non)))) (tRaiseC (He.ga K "NoTile") (fun cls d _ H => E cls d H)) tNext)
  (tSeq (sFld K (tVar 0) (tVar 1) "count")
  (sFld K (tVar 0) (tVar 3) "rows"))))
section
variable {P : Program} {w : World} {K : PySem.W.Frag} {mg : Str → Option Value} {base : Heap}
theorem pure_Tile_init (T : TX K mg) (vs : List V) (H : Hp) (Q : VK) (E : XK) (h : sp_Tile_init K vs H Q E) : t_Tile_init K E { nx := fun _ H' => Q .non H', rt := Q } (start n_Tile_init vs) H := by
  obtain ⟨v_self, v_count, v_rows, rfl, h⟩ := h
  change t_Tile_init K E _ [some v_self, some v_count, some v_rows, none] H
  unfold t_Tile_init
  obtain ⟨F, bq1, bq2, L0, dx0, z_count, z_rows, e0, rfl, o0, rfl, hr2, h⟩ := h
  unfold m_Tile_init at h
  dl_open
  refine ⟨_, _, _, rfl, F, bq1, bq2, z_rows, 1, z_count, by lcg_src, (show RD F ((eQ bq1 (eQ bq2 Dat.int)) z_rows) _ by kqd_all), rfl, rfl, h.b.mono2 ?_ (fun c_ l_ hx_ Fx_ Hx_ dx_ sx_ ex_ => by exact hx_ Fx_ Hx_ dx_ (by kas_types) ex_)⟩
  clear h
  intro x1 h F1 H1 s1 u2 r1
  dl_open
  dl_open
  with_reducible refine DK.st_if ?_
  dl_open
  dl_open
  (refine cutT F1 H1 h ?_ ?_) <;> clear h
  · intro Qkk1 kk1 h
    refine st_or ?_
    dl_open
    dl_open
    (refine brP h ?_ ?_) <;> clear h <;> intro c1 h
    · try dl_open
      exact kk1 _ F1 H1 (by kas_types) h
    · dl_open
      dl_open
      refine sm_isN (e := (eT (eT Dat.int))) (F := F1) (by kqd_all) (fun _ => rfl) ?_
      dl_open
      dl_open
      exact kk1 _ F1 H1 (by kas_types) h
  intro b1 F2 H2 s2 h
  dl_open
  (refine brB h ?_ ?_) <;> clear h <;> intro c2 h
  · dl_open
    dl_open
    exact h F2 H2 none (by kas_types) rfl
  · dl_open
    replace h := h.som
    obtain ⟨y1, hy1, h⟩ := h
    have r2 : RD F2 (eO (eT (eT Dat.int)) (some y1)) u2 := hy1 ▸ (by kqd_all : RD F2 (eO (eT (eT Dat.int)) x1) u2)
    have r2 : RD F2 ((eT (eT Dat.int)) y1) u2 := r2
    dl_open
    dl_open
    refine sm_sfld (fs' := [("count", (V.int z_count))]) (F := F2) (by lcg_src) (by kat_tups) (tx_cls_Tile T) (tx_noat_Tile_count T) (by simp) (by kernel_rfl) ?_
    intro F3 H3 s3 o1
    dl_open
    dl_open
    refine sm_sfld (fs' := [("count", (V.int z_count)), ("rows", u2)]) (F := F3) (by lcg_src) (by kat_tups) (tx_cls_Tile T) (tx_noat_Tile_rows T) (by simp) (by kernel_rfl) ?_
    intro F4 H4 s4 o2
    dl_open
    have oo_ : Own F4 H4 L0 (.ins (He.ga K "Tile") dx0 (fs_Tile.zip [(V.int z_count), u2])) := (by kat_tups : Own F4 H4 L0 (.ins (He.ga K "Tile") dx0 [("count", (V.int z_count)), ("rows", u2)]))
    exact h [(V.int z_count), u2] F4 H4 (by kas_types) oo_ (by nest_cls)
theorem mk_Tile (T : TX K mg) (c_rows_kept : CalOk P w K mg base "rows_kept" 1 (["rows", "low", "top"] : List Str) (sp_rows_kept K)) : MakOk P w K mg base "Tile" 2 (["self", "count", "rows"] : List Str) (sp_Tile_init K) :=
  T.mak 3 29 65 (d := d_Tile_init) rfl rfl rfl rfl rfl rfl sc_Tile_init (len_Tile_init) (fun _ _ _ _ _ _ _ us hl => match us, hl with | [_, _, _], _ => rfl) (fun cdv A outer s H vs Q E hr h => ⟨t_Tile_init K E, (by exact (pss_cons (ps_set (i := 3) sc_Tile_init.nd rfl (by first | exact Or.inl rfl | exact Or.inr rfl) (pe_callC c_rows_kept (hr.mono (by decide)) rfl (L2N.passes_call (L2N.takes_of rfl rfl rfl rfl) (fun _ _ _ _ h => h)) (pa_cons (pv 2) (pa_cons pe_int (pa_cons (pv 1) pa_nil)))))
  (pss_cons (ps_if (PW.pt (pw_or (pt_cmpR op_lt (pv 1) pe_int (nomark _)) (pw_or1 (pt_cmpR op_isN1 (pv 3) pe_non (nomark _))))) (pss_one (ps_raiseC rfl (L2N.takes_of rfl rfl rfl rfl) (T.exc 4) (T.glo 5))) pss_nil)
  (pss_cons (ps_fld (pv 0) (pv 1) rfl)
  (pss_one (ps_fld (pv 0) (pv 3) rfl)))))), pure_Tile_init T vs H Q E h⟩)
end
end Dot
namespace Dot
open PySem PySem.Spec PyProof.Rows L2 DK
def m_read_tile (z_text : Str) : Rs ((Int × (List (List Int)))) :=
(m_split_rows z_text).bnd fun x1 =>
(m_Tile_init x1.1 x1.2).bnd fun x2 =>
.ok (x2)
def sp_read_tile (K : PySem.W.Frag) : Sp := fun vs H Q E => ∃ (v_text : V), vs = [v_text] ∧ (∃ (F : Hp) (z_text : Str), Same F H ∧ v_text = (V.str z_text) ∧ Post (m_read_tile z_text) (fun r => ∀ F' H', Stp [] F H F' H' → ∀ u, RD F' ((e_Tile K) r) u → Q u H') (fun c l => ∀ Fx Hx dx, Stp [] F H Fx Hx → ExD Fx l dx → E (.ref (He.ga K c.nm)) dx Hx))
theorem len_read_tile {K : PySem.W.Frag} : ∀ vs H Q E, sp_read_tile K vs H Q E → vs.length = ((["text"] : List Str)).length := fun vs H Q E h => by
  obtain ⟨_, rfl, _⟩ := h
  rfl
def t_read_tile (K : PySem.W.Frag) (E : XK) : TS :=
  (tSeq (tAsg (tCall (sp_split_rows K) [] E (tCons (tVar 0) tNil)) (gTupU K 2 (gCons (gName 1) (gCons (gName 2) gNil))))
  (tRet (tMake (He.ga K "Tile") (sp_Tile_init K) [] E (tCons (tVar 1) (tCons (tVar 2) tNil)))))
section
variable {P : Program} {w : World} {K : PySem.W.Frag} {mg : Str → Option Value} {base : Heap}
theorem pure_read_tile (T : TX K mg) (vs : List V) (H : Hp) (Q : VK) (E : XK) (h : sp_read_tile K vs H Q E) : t_read_tile K E { nx := fun _ H' => Q .non H', rt := Q } (start n_read_tile vs) H := by
  obtain ⟨v_text, rfl, h⟩ := h
  change t_read_tile K E _ [some v_text, none, none] H
  unfold t_read_tile
  obtain ⟨F, z_text, e0, rfl, h⟩ := h
  unfold m_read_tile at h
  dl_open
  refine ⟨_, rfl, F, z_text, by lcg_src, rfl, h.b.mono2 ?_ (fun c_ l_ hx_ Fx_ Hx_ dx_ sx_ ex_ => by exact hx_ Fx_ Hx_ dx_ (by kas_types) ex_)⟩
  clear h
  intro x1 h F1 H1 s1 u2 r1
  dl_open
  refine sm_g2 (F := F1) (by lcg_src) (by kqd_all) ?_
  intro u3 u4 r2 r3
  cases (show u3 = (V.int x1.1) from r2)
  have r3 : RD F1 ((eL (eL Dat.int)) x1.2) u4 := r3
  dl_open
  dl_open
  dl_open
  refine sm_make (F := F1) (by lcg_src) ?_
  intro L1 dx1 F2 H2 s2 n1 o1
  refine ⟨_, _, _, rfl, F2, false, false, L1, dx1, x1.1, x1.2, by lcg_src, rfl, by kat_tups, rfl, (show RD F2 ((eL (eL Dat.int)) x1.2) _ by kqd_all), h.b.mono2 ?_ (fun c_ l_ hx_ Fx_ Hx_ dx_ sx_ ex_ => by exact hx_ Fx_ Hx_ dx_ (by kas_types) ex_)⟩
  clear h
  intro x2 h w1 F3 H3 s3 o2 r4
  refine ⟨rfl, ?_⟩
  obtain ⟨F4, s4, r5⟩ := own_fzI (nms := fs_Tile) s3.inn o2 r4
  have r5 : RD F4 ((e_Tile K) x2) (V.ref L1) := r5
  dl_open
  exact h F4 H3 (by kas_types) _ (show RD F4 ((e_Tile K) x2) (V.ref L1) by kqd_all)
theorem ok_read_tile (T : TX K mg) (c_split_rows : CalOk P w K mg base "split_rows" 4 (["text"] : List Str) (sp_split_rows K)) (m_Tile : MakOk P w K mg base "Tile" 2 (["self", "count", "rows"] : List Str) (sp_Tile_init K)) : CalOk P w K mg base "read_tile" 5 (["text"] : List Str) (sp_read_tile K) :=
  T.cal 9 37 (d := d_read_tile) rfl rfl rfl rfl rfl sc_read_tile (len_read_tile) (fun _ _ _ _ _ _ _ us hl => match us, hl with | [_], _ => rfl) (fun cdv A outer s H vs Q E hr h => ⟨t_read_tile K E, (by exact (pss_cons (ps_asg (pe_callC c_split_rows (hr.mono (by decide)) rfl (L2N.passes_call (L2N.takes_of rfl rfl rfl rfl) (fun _ _ _ _ h => h)) (pa_cons (pv 0) pa_nil)) (pg_tupU (by rfl) (pgs_cons (pg_name (i := 1) sc_read_tile.nd rfl (by first | exact Or.inl rfl | exact Or.inr rfl)) (pgs_cons (pg_name (i := 2) sc_read_tile.nd rfl (by first | exact Or.inl rfl | exact Or.inr rfl)) pgs_nil))))
  (pss_one (ps_ret (pe_makeC m_Tile (hr.mono (by decide)) rfl (L2N.passes_call (L2N.takes_of rfl rfl rfl rfl) (fun _ _ _ _ h => h)) (pa_cons (pv 1) (pa_cons (pv 2) pa_nil))))))), pure_read_tile T vs H Q E h⟩)
end
end Dot
namespace Dot
open PySem PySem.Spec PyProof.Rows L2 DK
def m_read_numbers (z_text : Str) : Rs ((List Int)) :=
grd (Str.length z_text ≤ 1000000) <| (ixR (Txt.split z_text "\n") 0).bnd fun x1 =>
(m_numbers_from x1).bnd fun x2 =>
if x2.isNone = true then (.exc .text (some 0)) else (somR x2 fun y1 =>
grd (Str.length z_text ≤ 1000000) <| if 1 < ((Txt.split z_text "\n").length : Int) then (.exc .text (some 1)) else (.ok (y1)))
def sp_read_numbers (K : PySem.W.Frag) : Sp := fun vs H Q E => ∃ (v_text : V), vs = [v_text] ∧ (∃ (F : Hp) (z_text : Str), Same F H ∧ v_text = (V.str z_text) ∧ Post (m_read_numbers z_text) (fun r => ∀ F' H', Stp [] F H F' H' → ∀ L vs, Fre H L → Own F' H' L (.lst vs) → RDs F' (List.map Dat.int r) vs → Q (.ref L) H') (fun c l => ∀ Fx Hx dx, Stp [] F H Fx Hx → ExD Fx l dx → E (.ref (He.ga K c.nm)) dx Hx))
theorem len_read_numbers {K : PySem.W.Frag} : ∀ vs H Q E, sp_read_numbers K vs H Q E → vs.length = ((["text"] : List Str)).length := fun vs H Q E h => by
  obtain ⟨_, rfl, _⟩ := h
  rfl
def t_read_numbers (K : PySem.W.Frag) (E : XK) : TS :=
  (tSeq (tAsg (tCall (sp_numbers_from K) [] E (tCons (tOp (rIxU K) (tM1 rSplitT (tVar 0) (tC (.str "\n"))) (tC (.int 0))) tNil)) (gName 1))
  (tSeq (tIfS (tTest (tOp rIsN (tVar 1) (tC .non))) (tRaiseI (He.ga K "NoText") (sp_NoText_init K) (fun cls d _ H => E cls d H) (tCons (tC (.int 0)) tNil)) tNext)
  (tSeq (tIfS (tTest (tOp rGtI (tCB (rLenU K) (tCons (tM1 rSplitT (tVar 0) (tC (.str "\n"))) tNil)) (tC (.int 1)))) (tRaiseI (He.ga K "NoText") (sp_NoText_init K) (fun cls d _ H => E cls d H) (tCons (tC (.int 1)) tNil)) tNext)
  (tRet (tVar 1)))))
section
variable {P : Program} {w : World} {K : PySem.W.Frag} {mg : Str → Option Value} {base : Heap}
theorem pure_read_numbers (T : TX K mg) (vs : List V) (H : Hp) (Q : VK) (E : XK) (h : sp_read_numbers K vs H Q E) : t_read_numbers K E { nx := fun _ H' => Q .non H', rt := Q } (start n_read_numbers vs) H := by
  obtain ⟨v_text, rfl, h⟩ := h
  change t_read_numbers K E _ [some v_text, none] H
  unfold t_read_numbers
  obtain ⟨F, z_text, e0, rfl, h⟩ := h
  unfold m_read_numbers at h
  dl_open
  refine st_m1 ?_
  dl_open
  dl_open
  refine sm_m1 ?_
  dl_open
  dl_open
  replace h := h.g
  obtain ⟨g1, h⟩ := h
  refine sm_split (F := F) (by lcg_src) (by decide) g1 ?_
  refine KOwn.fz ?_
  intro u1 F1 H1 s1 r1
  have r1 : RD F1 ((eL Dat.str) (Txt.split z_text "\n")) u1 := r1
  dl_open
  replace h := h.ix
  obtain ⟨x1, hx1, h⟩ := h
  refine sm_ixL (e := Dat.str) (F := F1) (by lcg_src) (by kqd_all) hx1 ?_
  intro u2 r2
  cases (show u2 = (V.str x1) from r2)
  dl_open
  refine ⟨_, rfl, F1, x1, by lcg_src, rfl, h.b.mono2 ?_ (fun c_ l_ hx_ Fx_ Hx_ dx_ sx_ ex_ => by exact hx_ Fx_ Hx_ dx_ (by kas_types) ex_)⟩
  clear h
  intro x2 h F2 H2 s2 u4 q1
  dl_open
  dl_open
  with_reducible refine DK.st_if ?_
  dl_open
  dl_open
  refine sm_isNO q1 ?_
  dl_open
  dl_open
  (refine brB h ?_ ?_) <;> clear h <;> intro c1 h
  · dl_open
    dl_open
    refine st_raiseI ?_
    dl_open
    dl_open
    refine sm_raiseI (σ := []) (W := fun cls d _ H => E cls d H) (C := He.ga K "NoText") (sp := sp_NoText_init K) (n := 0) (fun _ _ _ _ h_ => by obtain ⟨a_, n_, e_, h1_, h2_⟩ := h_; exact ⟨_, _, e_, a_, n_, rfl, rfl, h1_, h2_⟩) (F := F2) (by lcg_src) ?_
    intro F3 H3 dx1 s3 l_
    exact h F3 H3 dx1 (by kas_types) l_
  · dl_open
    replace h := h.som
    obtain ⟨y1, hy1, h⟩ := h
    obtain ⟨L1, w1, e_, n1, o1, r3⟩ := optO_some q1 hy1
    cases e_
    dl_open
    with_reducible refine DK.st_if ?_
    dl_open
    dl_open
    refine st_m1 ?_
    dl_open
    dl_open
    refine sm_m1 ?_
    dl_open
    dl_open
    replace h := h.g
    obtain ⟨g2, h⟩ := h
    refine sm_split (F := F2) (by lcg_src) (by decide) g2 ?_
    refine KOwn.fz ?_
    intro u5 F4 H4 s4 r4
    have r4 : RD F4 ((eL Dat.str) (Txt.split z_text "\n")) u5 := r4
    dl_open
    refine st_lenM (f := Dat.str) (F := F4) (by lcg_src) (by kqd_all) ?_
    dl_open
    dl_open
    (refine brP h ?_ ?_) <;> clear h <;> intro c2 h
    · dl_open
      dl_open
      refine st_raiseI ?_
      dl_open
      dl_open
      refine sm_raiseI (σ := []) (W := fun cls d _ H => E cls d H) (C := He.ga K "NoText") (sp := sp_NoText_init K) (n := 1) (fun _ _ _ _ h_ => by obtain ⟨a_, n_, e_, h1_, h2_⟩ := h_; exact ⟨_, _, e_, a_, n_, rfl, rfl, h1_, h2_⟩) (F := F4) (by lcg_src) ?_
      intro F5 H5 dx2 s5 l_
      exact h F5 H5 dx2 (by kas_types) l_
    · dl_open
      dl_open
      dl_open
      exact h F4 H4 (by kas_types) _ _ (by k_subL) (by kat_tups) (by nest_cls)
theorem ok_read_numbers (T : TX K mg) (c_numbers_from : CalOk P w K mg base "numbers_from" 2 (["row"] : List Str) (sp_numbers_from K)) (m_NoText : OexOk P w K mg base "NoText" 1 (["self", "line"] : List Str) (sp_NoText_init K)) : CalOk P w K mg base "read_numbers" 3 (["text"] : List Str) (sp_read_numbers K) :=
  T.cal 10 38 (d := d_read_numbers) rfl rfl rfl rfl rfl sc_read_numbers (len_read_numbers) (fun _ _ _ _ _ _ _ us hl => match us, hl with | [_], _ => rfl) (fun cdv A outer s H vs Q E hr h => ⟨t_read_numbers K E, (by exact (pss_cons (ps_set (i := 1) sc_read_numbers.nd rfl (by first | exact Or.inl rfl | exact Or.inr rfl) (pe_callC c_numbers_from (hr.mono (by decide)) rfl (L2N.passes_call (L2N.takes_of rfl rfl rfl rfl) (fun _ _ _ _ h => h)) (pa_cons (pe_ix ix_U (pe_m1 PySem.F.slot_str_split PySem.F.type_str_split mt_split (pv 0) pe_str) pe_int (fun _ _ => rfl)) pa_nil)))
  (pss_cons (ps_if (pt_cmpR op_isN1 (pv 1) pe_non (nomark _)) (pss_one (ps_raiseI m_NoText (hr.mono (by decide)) rfl (L2N.takes_of rfl rfl rfl rfl) rfl (pa_cons pe_int pa_nil))) pss_nil)
  (pss_cons (ps_if (pt_cmpR op_gt (pe_callB call_lenU (by rfl) (T.free 0) (by decide +kernel) (pa_cons (pe_m1 PySem.F.slot_str_split PySem.F.type_str_split mt_split (pv 0) pe_str) pa_nil)) pe_int (nomark _)) (pss_one (ps_raiseI m_NoText (hr.mono (by decide)) rfl (L2N.takes_of rfl rfl rfl rfl) rfl (pa_cons pe_int pa_nil))) pss_nil)
  (pss_one (ps_ret (pv 1))))))), pure_read_numbers T vs H Q E h⟩)
end
end Dot
namespace Dot
open PySem PySem.Spec PyProof.Rows L2 DK
def m_law_word (z_e : Xl) : Rs (Str) :=
grd (([(decide (z_e.1 = Xc.picture)), (decide (z_e.1 = Xc.out)), (decide (z_e.1 = Xc.meet)), (decide (z_e.1 = Xc.tile))] : List Bool).length + ([(decide (z_e.1 = Xc.inks)), (decide (z_e.1 = Xc.shares)), (decide (z_e.1 = Xc.shade))] : List Bool).length ≤ 1000000) <| grd ((([(decide (z_e.1 = Xc.picture)), (decide (z_e.1 = Xc.out)), (decide (z_e.1 = Xc.meet)), (decide (z_e.1 = Xc.tile))] : List Bool) ++ ([(decide (z_e.1 = Xc.inks)), (decide (z_e.1 = Xc.shares)), (decide (z_e.1 = Xc.shade))] : List Bool)).length + ([(decide (z_e.1 = Xc.stretches)), (decide (z_e.1 = Xc.way)), (decide (z_e.1 = Xc.text))] : List Bool).length ≤ 1000000) <| grd (rngOk 0 10 = true) <| grd (((10 : Int) - 0).toNat ≤ 1000000) <| (mapR (fun (y1 : Int) =>
 (ixR ((([(decide (z_e.1 = Xc.picture)), (decide (z_e.1 = Xc.out)), (decide (z_e.1 = Xc.meet)), (decide (z_e.1 = Xc.tile))] : List Bool) ++ ([(decide (z_e.1 = Xc.inks)), (decide (z_e.1 = Xc.shares)), (decide (z_e.1 = Xc.shade))] : List Bool)) ++ ([(decide (z_e.1 = Xc.stretches)), (decide (z_e.1 = Xc.way)), (decide (z_e.1 = Xc.text))] : List Bool)) y1).bnd fun x1 =>
if x1 = true then ((ixR (["picture", "out", "meet", "tile", "inks", "shares", "shade", "stretches", "way", "text"] : List Str) y1).bnd fun x2 =>
.ok (some x2)) else (.ok none)) (rngI 0 10)).bnd fun x1 =>
Rs.bnd (if (x1.length : Int) = 1 then (.ok (!true)) else (.ok true) : Rs Bool) fun b1 =>
if b1 = true then (.ok ("many")) else ((ixR x1 0).bnd fun x4 =>
.ok (x4))
def sp_law_word (K : PySem.W.Frag) : Sp := fun vs H Q E => ∃ (v_e : V), vs = [v_e] ∧ (∃ (F : Hp) (z_e : Xl), Same F H ∧ RD F ((eXl K) z_e) v_e ∧ Post (m_law_word z_e) (fun r => ∀ F' H', Stp [] F H F' H' → Q (V.str r) H') (fun c l => ∀ Fx Hx dx, Stp [] F H Fx Hx → ExD Fx l dx → E (.ref (He.ga K c.nm)) dx Hx))
theorem len_law_word {K : PySem.W.Frag} : ∀ vs H Q E, sp_law_word K vs H Q E → vs.length = ((["_law_e"] : List Str)).length := fun vs H Q E h => by
  obtain ⟨_, rfl, _⟩ := h
  rfl
def t_law_word (K : PySem.W.Frag) (E : XK) : TS :=
  (tSeq (tAsg (tLst (tCons (tCB (rIsL K) (tCons (tVar 0) (tCons (tC (.ref (He.ga K "NoPicture"))) tNil))) (tCons (tCB (rIsL K) (tCons (tVar 0) (tCons (tC (.ref (He.ga K "OutOfPicture"))) tNil))) (tCons (tCB (rIsL K) (tCons (tVar 0) (tCons (tC (.ref (He.ga K "NoMeet"))) tNil))) (tCons (tCB (rIsL K) (tCons (tVar 0) (tCons (tC (.ref (He.ga K "NoTile"))) tNil))) tNil))))) (gName 1))
  (tSeq (tAsg (tOp (rAddU K) (tVar 1) (tLst (tCons (tCB (rIsL K) (tCons (tVar 0) (tCons (tC (.ref (He.ga K "NoInks"))) tNil))) (tCons (tCB (rIsL K) (tCons (tVar 0) (tCons (tC (.ref (He.ga K "NoShares"))) tNil))) (tCons (tCB (rIsL K) (tCons (tVar 0) (tCons (tC (.ref (He.ga K "NoShade"))) tNil))) tNil))))) (gName 1))
  (tSeq (tAsg (tOp (rAddU K) (tVar 1) (tLst (tCons (tCB (rIsL K) (tCons (tVar 0) (tCons (tC (.ref (He.ga K "NoStretches"))) tNil))) (tCons (tCB (rIsL K) (tCons (tVar 0) (tCons (tC (.ref (He.ga K "NoWay"))) tNil))) (tCons (tCB (rIsL K) (tCons (tVar 0) (tCons (tC (.ref (He.ga K "NoText"))) tNil))) tNil))))) (gName 1))
  (tSeq (tAsg (tLst (tCons (tC (.str "picture")) (tCons (tC (.str "out")) (tCons (tC (.str "meet")) (tCons (tC (.str "tile")) (tCons (tC (.str "inks")) (tCons (tC (.str "shares")) (tCons (tC (.str "shade")) (tCons (tC (.str "stretches")) (tCons (tC (.str "way")) (tCons (tC (.str "text")) tNil))))))))))) (gName 2))
  (tSeq (tAsg (tLc (iRng1 (tCons (tC (.int 10)) tNil)) (gName 4) (tB (tOp (rIxU K) (tVar 1) (tVar 4))) (tOp (rIxU K) (tVar 2) (tVar 4)) [4]) (gName 3))
  (tSeq (tIfS (tOr (tTest (tOp (rNeU K) (tCB (rLenU K) (tCons (tVar 3) tNil)) (tC (.int 1)))) (tNot (tB (tCB (rIsL K) (tCons (tVar 0) (tCons (tC (.ty "ValueError")) tNil)))))) (tRet (tC (.str "many"))) tNext)
  (tRet (tOp (rIxU K) (tVar 3) (tC (.int 0))))))))))
section
variable {P : Program} {w : World} {K : PySem.W.Frag} {mg : Str → Option Value} {base : Heap}
theorem pure_law_word (T : TX K mg) (vs : List V) (H : Hp) (Q : VK) (E : XK) (h : sp_law_word K vs H Q E) : t_law_word K E { nx := fun _ H' => Q .non H', rt := Q } (start n_law_word vs) H := by
  obtain ⟨v_e, rfl, h⟩ := h
  change t_law_word K E _ [some v_e, none, none, none, none] H
  unfold t_law_word
  obtain ⟨F, z_e, e0, hr1, h⟩ := h
  unfold m_law_word at h
  dl_open
  refine sm_isL (F := F) (by lcg_src) (by kqd_all) (.own _) (tx_exi T _) (tx_isx_NoPicture T _) ?_
  dl_open
  refine sm_isL (F := F) (by lcg_src) (by kqd_all) (.own _) (tx_exi T _) (tx_isx_OutOfPicture T _) ?_
  dl_open
  refine sm_isL (F := F) (by lcg_src) (by kqd_all) (.own _) (tx_exi T _) (tx_isx_NoMeet T _) ?_
  dl_open
  refine sm_isL (F := F) (by lcg_src) (by kqd_all) (.own _) (tx_exi T _) (tx_isx_NoTile T _) ?_
  dl_open
  refine newO (by simp) (F := F) (by lcg_src) ?_
  intro L1 F1 H1 s1 n1 o1
  have r1 : RDs F1 (List.map Dat.bl ([(decide (z_e.1 = Xc.picture)), (decide (z_e.1 = Xc.out)), (decide (z_e.1 = Xc.meet)), (decide (z_e.1 = Xc.tile))] : List Bool)) [(V.bl (decide (z_e.1 = Xc.picture))), (V.bl (decide (z_e.1 = Xc.out))), (V.bl (decide (z_e.1 = Xc.meet))), (V.bl (decide (z_e.1 = Xc.tile)))] := (show RDs F1 [Dat.bl (decide (z_e.1 = Xc.picture)), Dat.bl (decide (z_e.1 = Xc.out)), Dat.bl (decide (z_e.1 = Xc.meet)), Dat.bl (decide (z_e.1 = Xc.tile))] [(V.bl (decide (z_e.1 = Xc.picture))), (V.bl (decide (z_e.1 = Xc.out))), (V.bl (decide (z_e.1 = Xc.meet))), (V.bl (decide (z_e.1 = Xc.tile)))] by nest_cls)
  obtain ⟨F2, s2, r2⟩ := own_fz (F := F1) (by lcg_src) (by kat_tups) (by nest_cls : RDs F1 (List.map Dat.bl ([(decide (z_e.1 = Xc.picture)), (decide (z_e.1 = Xc.out)), (decide (z_e.1 = Xc.meet)), (decide (z_e.1 = Xc.tile))] : List Bool)) [(V.bl (decide (z_e.1 = Xc.picture))), (V.bl (decide (z_e.1 = Xc.out))), (V.bl (decide (z_e.1 = Xc.meet))), (V.bl (decide (z_e.1 = Xc.tile)))])
  dl_open
  dl_open
  refine sm_isL (F := F2) (by lcg_src) (by kqd_all) (.own _) (tx_exi T _) (tx_isx_NoInks T _) ?_
  dl_open
  refine sm_isL (F := F2) (by lcg_src) (by kqd_all) (.own _) (tx_exi T _) (tx_isx_NoShares T _) ?_
  dl_open
  refine sm_isL (F := F2) (by lcg_src) (by kqd_all) (.own _) (tx_exi T _) (tx_isx_NoShade T _) ?_
  dl_open
  refine newL (by simp) (F := F2) (by lcg_src) (ds := [Dat.bl (decide (z_e.1 = Xc.inks)), Dat.bl (decide (z_e.1 = Xc.shares)), Dat.bl (decide (z_e.1 = Xc.shade))]) (by nest_cls) ?_
  intro u1 F3 H2 s3 r3
  have r3 : RD F3 ((eL Dat.bl) ([(decide (z_e.1 = Xc.inks)), (decide (z_e.1 = Xc.shares)), (decide (z_e.1 = Xc.shade))] : List Bool)) u1 := r3
  dl_open
  replace h := h.g
  obtain ⟨g1, h⟩ := h
  refine sm_catO (e := Dat.bl) (F := F3) (by lcg_src) (by kqd_all) (by kqd_all) g1 ?_
  intro L2 w1 F5 H4 s5 n2 o2 r5
  obtain ⟨F6, s6, r6⟩ := own_fz (F := F5) (by lcg_src) (by kat_tups) (by nest_cls : RDs F5 (List.map Dat.bl (([(decide (z_e.1 = Xc.picture)), (decide (z_e.1 = Xc.out)), (decide (z_e.1 = Xc.meet)), (decide (z_e.1 = Xc.tile))] : List Bool) ++ ([(decide (z_e.1 = Xc.inks)), (decide (z_e.1 = Xc.shares)), (decide (z_e.1 = Xc.shade))] : List Bool))) w1)
  dl_open
  dl_open
  refine sm_isL (F := F6) (by lcg_src) (by kqd_all) (.own _) (tx_exi T _) (tx_isx_NoStretches T _) ?_
  dl_open
  refine sm_isL (F := F6) (by lcg_src) (by kqd_all) (.own _) (tx_exi T _) (tx_isx_NoWay T _) ?_
  dl_open
  refine sm_isL (F := F6) (by lcg_src) (by kqd_all) (.own _) (tx_exi T _) (tx_isx_NoText T _) ?_
  dl_open
  refine newL (by simp) (F := F6) (by lcg_src) (ds := [Dat.bl (decide (z_e.1 = Xc.stretches)), Dat.bl (decide (z_e.1 = Xc.way)), Dat.bl (decide (z_e.1 = Xc.text))]) (by nest_cls) ?_
  intro u3 F7 H5 s7 r7
  have r7 : RD F7 ((eL Dat.bl) ([(decide (z_e.1 = Xc.stretches)), (decide (z_e.1 = Xc.way)), (decide (z_e.1 = Xc.text))] : List Bool)) u3 := r7
  dl_open
  replace h := h.g
  obtain ⟨g2, h⟩ := h
  refine sm_catO (e := Dat.bl) (F := F7) (by lcg_src) (by kqd_all) (by kqd_all) g2 ?_
  intro L3 w2 F9 H7 s9 n3 o3 r9
  obtain ⟨F10, s10, r10⟩ := own_fz (F := F9) (by lcg_src) (by kat_tups) (by nest_cls : RDs F9 (List.map Dat.bl ((([(decide (z_e.1 = Xc.picture)), (decide (z_e.1 = Xc.out)), (decide (z_e.1 = Xc.meet)), (decide (z_e.1 = Xc.tile))] : List Bool) ++ ([(decide (z_e.1 = Xc.inks)), (decide (z_e.1 = Xc.shares)), (decide (z_e.1 = Xc.shade))] : List Bool)) ++ ([(decide (z_e.1 = Xc.stretches)), (decide (z_e.1 = Xc.way)), (decide (z_e.1 = Xc.text))] : List Bool))) w2)
  dl_open
  dl_open
  refine newL (by simp) (F := F10) (by lcg_src) (ds := [Dat.str "picture", Dat.str "out", Dat.str "meet", Dat.str "tile", Dat.str "inks", Dat.str "shares", Dat.str "shade", Dat.str "stretches", Dat.str "way", Dat.str "text"]) (by nest_cls) ?_
  intro u5 F11 H8 s11 r11
  have r11 : RD F11 ((eL Dat.str) (["picture", "out", "meet", "tile", "inks", "shares", "shade", "stretches", "way", "text"] : List Str)) u5 := r11
  dl_open
  dl_open
  refine st_lc ?_
  dl_open
  dl_open
  replace h := h.g
  obtain ⟨g4, h⟩ := h
  replace h := h.g
  obtain ⟨g3, h⟩ := h
  (refine lc_R1 (e2 := Dat.str) (F := F11) g4 (by lcg_src) g3 h.b ?_ ?_) <;> clear h
  · intro y1 F12 H9 s12 PN1 NY1 NN1 kY1 kN1 h
    dl_open
    dl_open
    refine ⟨rfl, ?_⟩
    dl_open
    dl_open
    replace h := h.ix
    obtain ⟨x2, hx1, h⟩ := h
    refine sm_ixL (e := Dat.bl) (F := F12) (by lcg_src) (by kqd_all) hx1 ?_
    intro u7 r13
    cases (show u7 = (V.bl x2) from r13)
    dl_open
    dl_open
    (refine brB h ?_ ?_) <;> clear h <;> intro c1 h
    · dl_open
      dl_open
      replace h := h.ix
      obtain ⟨x3, hx2, h⟩ := h
      refine sm_ixL (e := Dat.str) (F := F12) (by lcg_src) (by kqd_all) hx2 ?_
      intro u8 r14
      cases (show u8 = (V.str x3) from r14)
      dl_open
      exact kY1 _ _ F12 H9 (by kas_types) (by kqd_all) h
    · exact kN1 F12 H9 (by kas_types) h
  intro L4 w3 x1 F13 H10 s13 n4 o4 r15 h
  obtain ⟨F14, s14, r16⟩ := own_fz (F := F13) s13.inn o4 r15
  dl_open
  dl_open
  have r17 : RD F14 ((eXl K) z_e) v_e := by kqd_all
  have r18 : RD F14 ((eL Dat.str) x1) (V.ref L4) := by kqd_all
  have s15 : Stp [] F H F14 H10 := by kas_types
  try clear r16; try clear s14; try clear r15; try clear o4; try clear n4; try clear s13; try clear r11; try clear s11; try clear r10; try clear s10; try clear r9; try clear o3
  try clear n3; try clear s9; try clear r8; try clear s8; try clear r7; try clear s7; try clear r6; try clear s6; try clear r5; try clear o2; try clear n2; try clear s5
  try clear r4; try clear s4; try clear r3; try clear s3; try clear r2; try clear s2; try clear r1; try clear o1; try clear n1; try clear s1
  dl_open
  with_reducible refine DK.st_if ?_
  dl_open
  dl_open
  (refine cutT F14 H10 h ?_ ?_) <;> clear h
  · intro Qkk1 kk1 h
    refine st_or ?_
    dl_open
    refine st_lenM (f := Dat.str) (F := F14) (by lcg_src) (by kqd_all) ?_
    dl_open
    dl_open
    (refine brN h ?_ ?_) <;> clear h <;> intro c2 h
    · try dl_open
      exact kk1 _ F14 H10 (by kas_types) h
    · dl_open
      dl_open
      dl_open
      refine sm_isL (F := F14) (by lcg_src) (by kqd_all) (.ty _) (tx_exi T _) (tx_isx_ValueError T _) ?_
      dl_open
      dl_open
      exact kk1 _ F14 H10 (by kas_types) h
  intro b1 F15 H11 s16 h
  dl_open
  (refine brB h ?_ ?_) <;> clear h <;> intro c3 h
  · dl_open
    dl_open
    dl_open
    exact h F15 H11 (by kas_types)
  · dl_open
    dl_open
    dl_open
    replace h := h.ix
    obtain ⟨x4, hx3, h⟩ := h
    refine sm_ixL (e := Dat.str) (F := F15) (by lcg_src) (by kqd_all) hx3 ?_
    intro u9 r19
    cases (show u9 = (V.str x4) from r19)
    dl_open
    exact h F15 H11 (by kas_types)
theorem ok_law_word (T : TX K mg)  : CalOk P w K mg base "_law_word" 1 (["_law_e"] : List Str) (sp_law_word K) :=
  T.cal 15 43 (d := d_law_word) rfl rfl rfl rfl rfl sc_law_word (len_law_word) (fun _ _ _ _ _ _ _ us hl => match us, hl with | [_], _ => rfl) (fun cdv A outer s H vs Q E hr h => ⟨t_law_word K E, (by exact (pss_cons (ps_set (i := 1) sc_law_word.nd rfl (by first | exact Or.inl rfl | exact Or.inr rfl) (pe_lst (pa_cons (pe_callB call_isL (by rfl) (T.free 12) (by decide +kernel) (pa_cons (pv 0) (pa_cons (pe_glob rfl (T.glo 3) rfl) pa_nil))) (pa_cons (pe_callB call_isL (by rfl) (T.free 12) (by decide +kernel) (pa_cons (pv 0) (pa_cons (pe_glob rfl (T.glo 18) rfl) pa_nil))) (pa_cons (pe_callB call_isL (by rfl) (T.free 12) (by decide +kernel) (pa_cons (pv 0) (pa_cons (pe_glob rfl (T.glo 19) rfl) pa_nil))) (pa_cons (pe_callB call_isL (by rfl) (T.free 12) (by decide +kernel) (pa_cons (pv 0) (pa_cons (pe_glob rfl (T.glo 5) rfl) pa_nil))) pa_nil))))))
  (pss_cons (ps_set (i := 1) sc_law_word.nd rfl (by first | exact Or.inl rfl | exact Or.inr rfl) (pe_op op_addU (pv 1) (pe_lst (pa_cons (pe_callB call_isL (by rfl) (T.free 12) (by decide +kernel) (pa_cons (pv 0) (pa_cons (pe_glob rfl (T.glo 20) rfl) pa_nil))) (pa_cons (pe_callB call_isL (by rfl) (T.free 12) (by decide +kernel) (pa_cons (pv 0) (pa_cons (pe_glob rfl (T.glo 21) rfl) pa_nil))) (pa_cons (pe_callB call_isL (by rfl) (T.free 12) (by decide +kernel) (pa_cons (pv 0) (pa_cons (pe_glob rfl (T.glo 22) rfl) pa_nil))) pa_nil))))))
  (pss_cons (ps_set (i := 1) sc_law_word.nd rfl (by first | exact Or.inl rfl | exact Or.inr rfl) (pe_op op_addU (pv 1) (pe_lst (pa_cons (pe_callB call_isL (by rfl) (T.free 12) (by decide +kernel) (pa_cons (pv 0) (pa_cons (pe_glob rfl (T.glo 23) rfl) pa_nil))) (pa_cons (pe_callB call_isL (by rfl) (T.free 12) (by decide +kernel) (pa_cons (pv 0) (pa_cons (pe_glob rfl (T.glo 24) rfl) pa_nil))) (pa_cons (pe_callB call_isL (by rfl) (T.free 12) (by decide +kernel) (pa_cons (pv 0) (pa_cons (pe_glob rfl (T.glo 25) rfl) pa_nil))) pa_nil))))))
  (pss_cons (ps_set (i := 2) sc_law_word.nd rfl (by first | exact Or.inl rfl | exact Or.inr rfl) (pe_lst (pa_cons pe_str (pa_cons pe_str (pa_cons pe_str (pa_cons pe_str (pa_cons pe_str (pa_cons pe_str (pa_cons pe_str (pa_cons pe_str (pa_cons pe_str (pa_cons pe_str pa_nil))))))))))))
  (pss_cons (ps_setLc (i := 3) (own := [("_law_k", 4)]) (g := (gName 4)) (tt := (tB (tOp (rIxU K) (tVar 1) (tVar 4)))) (te := (tOp (rIxU K) (tVar 2) (tVar 4)))  (by rfl) sc_law_word.nd rfl rfl (sw_true rfl rfl rfl (by decide +kernel)) (pi_range1 rfl (T.free 17) (pa_cons pe_int pa_nil)) (blkOk_by (own := [("_law_k", 4)]) (by rfl)) (fun _ _ _ _ _ => (pg_name (i := 4) sc_law_word.nd rfl (by first | exact Or.inl rfl | exact Or.inr rfl))) (fun _ _ _ _ _ => (pts_one (pt_val (pe_ix ix_U (pv 1) (pv 4) (fun _ _ => rfl))))) (fun _ _ _ _ _ => (pe_ix ix_U (pv 2) (pv 4) (fun _ _ => rfl))))
  (pss_cons (ps_if (PW.pt (pw_or (pt_cmpR (op_neU hr.units) (pe_callB call_lenU (by rfl) (T.free 0) (by decide +kernel) (pa_cons (pv 3) pa_nil)) pe_int (nomark _)) (pw_or1 (pt_not (pt_val (pe_callB call_isL (by rfl) (T.free 12) (by decide +kernel) (pa_cons (pv 0) (pa_cons (pe_bltn (v := .ty "ValueError") rfl (T.free 26) (by decide +kernel) rfl) pa_nil)))))))) (pss_one (ps_ret pe_str)) pss_nil)
  (pss_one (ps_ret (pe_ix ix_U (pv 3) pe_int (fun _ _ => rfl))))))))))), pure_law_word T vs H Q E h⟩)
end
end Dot
namespace Dot
open PySem PySem.Spec PyProof.Rows L2 DK
def m_law_told (z_which : Int) (z_text_here : Str) : Rs ((((Int × (List (List Int))) ⊕ (Int × (List (List Int))) ⊕ (List Int)) ⊕ Int ⊕ Str)) :=
Rs.thn ((tryR (Rs.thn ((if z_which = 0 then ((m_read_picture z_text_here).bnd fun x1 =>
.ok (.nx (some (.inl (.inl x1 : ((Int × (List (List Int))) ⊕ (Int × (List (List Int))) ⊕ (List Int))) : (((Int × (List (List Int))) ⊕ (Int × (List (List Int))) ⊕ (List Int)) ⊕ Xl))))) else (Rs.thn ((if z_which = 1 then ((m_read_tile z_text_here).bnd fun x2 =>
.ok (.nx (some (.inl (.inr <| .inl x2 : ((Int × (List (List Int))) ⊕ (Int × (List (List Int))) ⊕ (List Int))) : (((Int × (List (List Int))) ⊕ (Int × (List (List Int))) ⊕ (List Int)) ⊕ Xl))))) else ((m_read_numbers z_text_here).bnd fun x3 =>
.ok (.nx (some (.inl (.inr <| .inr x3 : ((Int × (List (List Int))) ⊕ (Int × (List (List Int))) ⊕ (List Int))) : (((Int × (List (List Int))) ⊕ (Int × (List (List Int))) ⊕ (List Int)) ⊕ Xl))))) : (Rs (Ctl ((Option (((Int × (List (List Int))) ⊕ (Int × (List (List Int))) ⊕ (List Int)) ⊕ Xl))) (((Int × (List (List Int))) ⊕ (Int × (List (List Int))) ⊕ (List Int)) ⊕ Int ⊕ Str))))) (fun x4 =>
.ok (.nx x4)) (fun r => .ok (.rt r))) : (Rs (Ctl ((Option (((Int × (List (List Int))) ⊕ (Int × (List (List Int))) ⊕ (List Int)) ⊕ Xl))) (((Int × (List (List Int))) ⊕ (Int × (List (List Int))) ⊕ (List Int)) ⊕ Int ⊕ Str))))) (fun x5 =>
.ok (.nx x5)) (fun r => .ok (.rt r))) (fun c1 l1 => .ok (.nx (some (.inr (c1, l1) : (((Int × (List (List Int))) ⊕ (Int × (List (List Int))) ⊕ (List Int)) ⊕ Xl))))) : (Rs (Ctl ((Option (((Int × (List (List Int))) ⊕ (Int × (List (List Int))) ⊕ (List Int)) ⊕ Xl))) (((Int × (List (List Int))) ⊕ (Int × (List (List Int))) ⊕ (List Int)) ⊕ Int ⊕ Str))))) (fun x6 =>
somR x6 fun y1 =>
if (eE0 "told" "no" y1) = "told" then (somR (eEl y1) fun y2 =>
.ok ((.inl y2 : (((Int × (List (List Int))) ⊕ (Int × (List (List Int))) ⊕ (List Int)) ⊕ Int ⊕ Str)))) else (somR (eEr y1) fun y3 =>
(m_law_word ("no", y3).2).bnd fun x7 =>
if x7 = "text" then (somR (eEr y1) fun y4 =>
lineR ("no", y4).2 fun n2 =>
.ok ((.inr <| .inl n2 : (((Int × (List (List Int))) ⊕ (Int × (List (List Int))) ⊕ (List Int)) ⊕ Int ⊕ Str)))) else (.ok ((.inr <| .inr x7 : (((Int × (List (List Int))) ⊕ (Int × (List (List Int))) ⊕ (List Int)) ⊕ Int ⊕ Str)))))) (fun r => .ok r)
def sp_law_told (K : PySem.W.Frag) : Sp := fun vs H Q E => ∃ (v_which v_text_here : V), vs = [v_which, v_text_here] ∧ (∃ (F : Hp) (z_which : Int) (z_text_here : Str), Same F H ∧ v_which = (V.int z_which) ∧ v_text_here = (V.str z_text_here) ∧ Post (m_law_told z_which z_text_here) (fun r => ∀ F' H', Stp [] F H F' H' → ∀ u, RD F' ((eE3 "told" (eU (e_Picture K) (e_Tile K) (eL Dat.int)) "text" Dat.int "no" Dat.str) r) u → Q u H') (fun c l => ∀ Fx Hx dx, Stp [] F H Fx Hx → ExD Fx l dx → E (.ref (He.ga K c.nm)) dx Hx))
theorem len_law_told {K : PySem.W.Frag} : ∀ vs H Q E, sp_law_told K vs H Q E → vs.length = ((["_law_which", "_law_text_here"] : List Str)).length := fun vs H Q E h => by
  obtain ⟨_, _, rfl, _⟩ := h
  rfl
def t_law_told (K : PySem.W.Frag) (E : XK) : TS :=
  (tSeq (tTryX K (.ref (He.ga K "DotError")) 3 (fun W => (tIfS (tTest (tOp (rEqU K) (tVar 0) (tC (.int 0)))) (tAsg (tTup (tCons (tC (.str "told")) (tCons (tCallSD (sp_read_picture K) [] (WE W) (tCons (tVar 1) tNil)) tNil))) (gName 2)) (tIfS (tTest (tOp (rEqU K) (tVar 0) (tC (.int 1)))) (tAsg (tTup (tCons (tC (.str "told")) (tCons (tCallSD (sp_read_tile K) [] (WE W) (tCons (tVar 1) tNil)) tNil))) (gName 2)) (tAsg (tTup (tCons (tC (.str "told")) (tCons (tCallSD (sp_read_numbers K) [] (WE W) (tCons (tVar 1) tNil)) tNil))) (gName 2))))) (fun _ => (tAsg (tTup (tCons (tC (.str "no")) (tCons (tVar 3) tNil))) (gName 2))) (fun cls d _ H => E cls d H))
  (tSeq (tIfS (tTest (tOp (rEqU K) (tOp (rIxU K) (tVar 2) (tC (.int 0))) (tC (.str "told")))) (tRet (tVar 2)) tNext)
  (tSeq (tAsg (tCall (sp_law_word K) [] E (tCons (tOp (rIxU K) (tVar 2) (tC (.int 1))) tNil)) (gName 4))
  (tSeq (tIfS (tTest (tOp (rEqU K) (tVar 4) (tC (.str "text")))) (tRet (tTup (tCons (tC (.str "text")) (tCons (tXl K (tOp (rIxU K) (tVar 2) (tC (.int 1))) "line") tNil)))) tNext)
  (tRet (tTup (tCons (tC (.str "no")) (tCons (tVar 4) tNil))))))))
section
variable {P : Program} {w : World} {K : PySem.W.Frag} {mg : Str → Option Value} {base : Heap}
theorem pure_law_told (T : TX K mg) (vs : List V) (H : Hp) (Q : VK) (E : XK) (h : sp_law_told K vs H Q E) : t_law_told K E { nx := fun _ H' => Q .non H', rt := Q } (start n_law_told vs) H := by
  obtain ⟨v_which, v_text_here, rfl, h⟩ := h
  change t_law_told K E _ [some v_which, some v_text_here, none, none, none] H
  unfold t_law_told
  obtain ⟨F, z_which, z_text_here, e0, rfl, rfl, h⟩ := h
  unfold m_law_told at h
  dl_open
  (with_reducible refine cutY h (fun (s : (Option (((Int × (List (List Int))) ⊕ (Int × (List (List Int))) ⊕ (List Int)) ⊕ Xl))) σ' H' => ∃ F', ∃ (oj_u0 : Option V), Stp [] F H F' H' ∧ RDo F' (eE "told" (eU (e_Picture K) (e_Tile K) (eL Dat.int)) "no" (eXl K)) s oj_u0 ∧ σ' = [some (V.int z_which), some (V.str z_text_here), oj_u0, none, none]) ?_ ?_) <;> clear h
  · intro nx1 kk1 h
    refine st_tryX h (fun (_ : Unit) F' σ' H' => ∃ (oj_0 : Option V), Stp [] F H F' H' ∧ σ' = [some (V.int z_which), some (V.str z_text_here), oj_0, none, none]) ?_ (tx_exm_DotError T) ?_ ?_
    · rintro F_ σ_ H_ ⟨_, t, _⟩; exact t.inn
    · rintro c1 l1 F1 σ_ H1 a1 F2 H2 ⟨o_1, s1, rfl⟩ s2 r1 h
      have r1 : RD F2 (eXl K (c1, l1)) (.ref a1) := r1
      dl_open
      dl_open
      refine newT (by simp) (F := F2) (by lcg_src) (ds := [Dat.str "no", (eXl K) (c1, l1)]) (by nest_cls) ?_
      intro u1 F3 H3 s3 r2
      have r2 : RD F3 ((eP Dat.str (eXl K)) ("no", (c1, l1))) u1 := r2
      have r3 : RD F3 ((eE "told" (eU (e_Picture K) (e_Tile K) (eL Dat.int)) "no" (eXl K)) (.inr (c1, l1) : (((Int × (List (List Int))) ⊕ (Int × (List (List Int))) ⊕ (List Int)) ⊕ Xl))) u1 := (by kqd_all : RD F3 ((eP Dat.str (eXl K)) ("no", (c1, l1))) u1)
      dl_open
      dl_open
      exact kk1 (some (.inr (c1, l1) : (((Int × (List (List Int))) ⊕ (Int × (List (List Int))) ⊕ (List Int)) ⊕ Xl))) _ _ ⟨F3, _, by kas_types, ⟨_, rfl, (show RD F3 ((eE "told" (eU (e_Picture K) (e_Tile K) (eL Dat.int)) "no" (eXl K)) (.inr (c1, l1) : (((Int × (List (List Int))) ⊕ (Int × (List (List Int))) ⊕ (List Int)) ⊕ Xl))) u1 by kqd_all)⟩, rfl⟩ h.onx
    · intro W1 hS1 h
      dl_open
      dl_open
      (with_reducible refine cutI h (fun (s : (Option (((Int × (List (List Int))) ⊕ (Int × (List (List Int))) ⊕ (List Int)) ⊕ Xl))) σ' H' => ∃ F', ∃ (oj_u0 : Option V), Stp [] F H F' H' ∧ RDo F' (eE "told" (eU (e_Picture K) (e_Tile K) (eL Dat.int)) "no" (eXl K)) s oj_u0 ∧ σ' = [some (V.int z_which), some (V.str z_text_here), oj_u0, none, none]) ?_ ?_) <;> clear h
      · intro nx2 kk2 h
        with_reducible refine DK.st_if ?_
        dl_open
        dl_open
        dl_open
        (refine brP h ?_ ?_) <;> clear h <;> intro c2 h
        · dl_open
          dl_open
          refine ⟨_, rfl, F, z_text_here, by lcg_src, rfl, h.b.mono2 ?_ (fun c_ l_ hx_ Fx_ Hx_ dx_ sx_ ex_ => by exact hS1 c_ l_ Fx_ _ Hx_ dx_ ⟨_, by kas_types, rfl⟩ ex_ hx_)⟩
          clear h
          intro x1 h F4 H4 s4 u3 r4
          dl_open
          refine newT (by simp) (F := F4) (by lcg_src) (ds := [Dat.str "told", (e_Picture K) x1]) (by nest_cls) ?_
          intro u4 F5 H5 s5 r5
          have r5 : RD F5 ((eP Dat.str (e_Picture K)) ("told", x1)) u4 := r5
          have r6 : RD F5 ((eE "told" (eU (e_Picture K) (e_Tile K) (eL Dat.int)) "no" (eXl K)) (.inl (.inl x1 : ((Int × (List (List Int))) ⊕ (Int × (List (List Int))) ⊕ (List Int))) : (((Int × (List (List Int))) ⊕ (Int × (List (List Int))) ⊕ (List Int)) ⊕ Xl))) u4 := (by kqd_all : RD F5 ((eP Dat.str (e_Picture K)) ("told", x1)) u4)
          dl_open
          dl_open
          exact kk2 (some (.inl (.inl x1 : ((Int × (List (List Int))) ⊕ (Int × (List (List Int))) ⊕ (List Int))) : (((Int × (List (List Int))) ⊕ (Int × (List (List Int))) ⊕ (List Int)) ⊕ Xl))) _ _ ⟨F5, _, by kas_types, ⟨_, rfl, (show RD F5 ((eE "told" (eU (e_Picture K) (e_Tile K) (eL Dat.int)) "no" (eXl K)) (.inl (.inl x1 : ((Int × (List (List Int))) ⊕ (Int × (List (List Int))) ⊕ (List Int))) : (((Int × (List (List Int))) ⊕ (Int × (List (List Int))) ⊕ (List Int)) ⊕ Xl))) u4 by kqd_all)⟩, rfl⟩ h.onx
        · dl_open
          dl_open
          (with_reducible refine cutI h (fun (s : (Option (((Int × (List (List Int))) ⊕ (Int × (List (List Int))) ⊕ (List Int)) ⊕ Xl))) σ' H' => ∃ F', ∃ (oj_u0 : Option V), Stp [] F H F' H' ∧ RDo F' (eE "told" (eU (e_Picture K) (e_Tile K) (eL Dat.int)) "no" (eXl K)) s oj_u0 ∧ σ' = [some (V.int z_which), some (V.str z_text_here), oj_u0, none, none]) ?_ ?_) <;> clear h
          · intro nx3 kk3 h
            with_reducible refine DK.st_if ?_
            dl_open
            dl_open
            dl_open
            (refine brP h ?_ ?_) <;> clear h <;> intro c3 h
            · dl_open
              dl_open
              refine ⟨_, rfl, F, z_text_here, by lcg_src, rfl, h.b.mono2 ?_ (fun c_ l_ hx_ Fx_ Hx_ dx_ sx_ ex_ => by exact hS1 c_ l_ Fx_ _ Hx_ dx_ ⟨_, by kas_types, rfl⟩ ex_ hx_)⟩
              clear h
              intro x2 h F6 H6 s6 u6 r7
              dl_open
              refine newT (by simp) (F := F6) (by lcg_src) (ds := [Dat.str "told", (e_Tile K) x2]) (by nest_cls) ?_
              intro u7 F7 H7 s7 r8
              have r8 : RD F7 ((eP Dat.str (e_Tile K)) ("told", x2)) u7 := r8
              have r9 : RD F7 ((eE "told" (eU (e_Picture K) (e_Tile K) (eL Dat.int)) "no" (eXl K)) (.inl (.inr <| .inl x2 : ((Int × (List (List Int))) ⊕ (Int × (List (List Int))) ⊕ (List Int))) : (((Int × (List (List Int))) ⊕ (Int × (List (List Int))) ⊕ (List Int)) ⊕ Xl))) u7 := (by kqd_all : RD F7 ((eP Dat.str (e_Tile K)) ("told", x2)) u7)
              dl_open
              dl_open
              exact kk3 (some (.inl (.inr <| .inl x2 : ((Int × (List (List Int))) ⊕ (Int × (List (List Int))) ⊕ (List Int))) : (((Int × (List (List Int))) ⊕ (Int × (List (List Int))) ⊕ (List Int)) ⊕ Xl))) _ _ ⟨F7, _, by kas_types, ⟨_, rfl, (show RD F7 ((eE "told" (eU (e_Picture K) (e_Tile K) (eL Dat.int)) "no" (eXl K)) (.inl (.inr <| .inl x2 : ((Int × (List (List Int))) ⊕ (Int × (List (List Int))) ⊕ (List Int))) : (((Int × (List (List Int))) ⊕ (Int × (List (List Int))) ⊕ (List Int)) ⊕ Xl))) u7 by kqd_all)⟩, rfl⟩ h.onx
            · dl_open
              dl_open
              refine ⟨_, rfl, F, z_text_here, by lcg_src, rfl, h.b.mono2 ?_ (fun c_ l_ hx_ Fx_ Hx_ dx_ sx_ ex_ => by exact hS1 c_ l_ Fx_ _ Hx_ dx_ ⟨_, by kas_types, rfl⟩ ex_ hx_)⟩
              clear h
              intro x3 h F8 H8 s8 L1 w1 n1 o1 r10
              obtain ⟨F9, s9, r11⟩ := own_fz (F := F8) s8.inn o1 r10
              dl_open
              refine newT (by simp) (F := F9) (by lcg_src) (ds := [Dat.str "told", (eL Dat.int) x3]) (by nest_cls) ?_
              intro u9 F10 H9 s10 r12
              have r12 : RD F10 ((eP Dat.str (eL Dat.int)) ("told", x3)) u9 := r12
              have r13 : RD F10 ((eE "told" (eU (e_Picture K) (e_Tile K) (eL Dat.int)) "no" (eXl K)) (.inl (.inr <| .inr x3 : ((Int × (List (List Int))) ⊕ (Int × (List (List Int))) ⊕ (List Int))) : (((Int × (List (List Int))) ⊕ (Int × (List (List Int))) ⊕ (List Int)) ⊕ Xl))) u9 := (by kqd_all : RD F10 ((eP Dat.str (eL Dat.int)) ("told", x3)) u9)
              dl_open
              dl_open
              exact kk3 (some (.inl (.inr <| .inr x3 : ((Int × (List (List Int))) ⊕ (Int × (List (List Int))) ⊕ (List Int))) : (((Int × (List (List Int))) ⊕ (Int × (List (List Int))) ⊕ (List Int)) ⊕ Xl))) _ _ ⟨F10, _, by kas_types, ⟨_, rfl, (show RD F10 ((eE "told" (eU (e_Picture K) (e_Tile K) (eL Dat.int)) "no" (eXl K)) (.inl (.inr <| .inr x3 : ((Int × (List (List Int))) ⊕ (Int × (List (List Int))) ⊕ (List Int))) : (((Int × (List (List Int))) ⊕ (Int × (List (List Int))) ⊕ (List Int)) ⊕ Xl))) u9 by kqd_all)⟩, rfl⟩ h.onx
          · rintro x4 σ_ H10 ⟨F11, o_2, s11, r14, rfl⟩ h
            try dsimp only at h
            dl_open
            exact kk2 x4 _ _ ⟨F11, _, by kas_types, (by k_places), rfl⟩ h.onx
      · rintro x5 σ_ H11 ⟨F12, o_3, s12, r15, rfl⟩ h
        try dsimp only at h
        dl_open
        exact kk1 x5 _ _ ⟨F12, _, by kas_types, (by k_places), rfl⟩ h.onx
  · rintro x6 σ_ H12 ⟨F13, o_4, s13, r16, rfl⟩ h
    try dsimp only at h
    dl_open
    with_reducible refine DK.st_if ?_
    dl_open
    replace h := h.som
    obtain ⟨y1, hy1, h⟩ := h
    rw [hy1] at r16; obtain ⟨u10, rfl, r17⟩ := r16
    have r17 : RD F13 ((eE "told" (eU (e_Picture K) (e_Tile K) (eL Dat.int)) "no" (eXl K)) y1) u10 := r17
    dl_open
    refine sm_ixE0 (s1 := "told") (e1 := (eU (e_Picture K) (e_Tile K) (eL Dat.int))) (s2 := "no") (e2 := (eXl K)) (t := y1) (F := F13) (by lcg_src) (by kqd_all) ?_
    dl_open
    refine st_eqS ?_
    dl_open
    (refine brP h ?_ ?_) <;> clear h <;> intro c4 h
    · dl_open
      dl_open
      replace h := h.som
      obtain ⟨y2, hy2, h⟩ := h
      have r18 : RD F13 ((eP Dat.str (eU (e_Picture K) (e_Tile K) (eL Dat.int))) ("told", y2)) u10 := rd_eEl hy2 (by kqd_all : RD F13 ((eE "told" (eU (e_Picture K) (e_Tile K) (eL Dat.int)) "no" (eXl K)) y1) u10)
      have r19 : RD F13 ((eE3 "told" (eU (e_Picture K) (e_Tile K) (eL Dat.int)) "text" Dat.int "no" Dat.str) (.inl y2 : (((Int × (List (List Int))) ⊕ (Int × (List (List Int))) ⊕ (List Int)) ⊕ Int ⊕ Str))) u10 := (by kqd_all : RD F13 ((eP Dat.str (eU (e_Picture K) (e_Tile K) (eL Dat.int))) ("told", y2)) u10)
      dl_open
      exact h F13 H12 (by kas_types) _ (show RD F13 ((eE3 "told" (eU (e_Picture K) (e_Tile K) (eL Dat.int)) "text" Dat.int "no" Dat.str) (.inl y2 : (((Int × (List (List Int))) ⊕ (Int × (List (List Int))) ⊕ (List Int)) ⊕ Int ⊕ Str))) u10 by kqd_all)
    · dl_open
      dl_open
      replace h := h.som
      obtain ⟨y3, hy3, h⟩ := h
      have r20 : RD F13 ((eP Dat.str (eXl K)) ("no", y3)) u10 := rd_eEr hy3 (by kqd_all : RD F13 ((eE "told" (eU (e_Picture K) (e_Tile K) (eL Dat.int)) "no" (eXl K)) y1) u10)
      dl_open
      refine st_ixT (F := F13) (by lcg_src) (by kqd_all) (d := (eXl K) ("no", y3).2) rfl ?_
      intro u11 r21
      have r21 : RD F13 ((eXl K) ("no", y3).2) u11 := r21
      dl_open
      refine ⟨_, rfl, F13, ("no", y3).2, by lcg_src, (by kqd_all), h.b.mono2 ?_ (fun c_ l_ hx_ Fx_ Hx_ dx_ sx_ ex_ => by exact hx_ Fx_ Hx_ dx_ (by kas_types) ex_)⟩
      clear h
      intro x7 h F14 H13 s14
      dl_open
      dl_open
      with_reducible refine DK.st_if ?_
      dl_open
      dl_open
      refine st_eqS ?_
      dl_open
      (refine brP h ?_ ?_) <;> clear h <;> intro c5 h
      · dl_open
        dl_open
        dl_open
        replace h := h.som
        obtain ⟨y4, hy4, h⟩ := h
        have r22 : RD F14 ((eP Dat.str (eXl K)) ("no", y4)) u10 := rd_eEr hy4 (by kqd_all : RD F14 ((eE "told" (eU (e_Picture K) (e_Tile K) (eL Dat.int)) "no" (eXl K)) y1) u10)
        dl_open
        refine st_ixT (F := F14) (by lcg_src) (by kqd_all) (d := (eXl K) ("no", y4).2) rfl ?_
        intro u13 r23
        have r23 : RD F14 ((eXl K) ("no", y4).2) u13 := r23
        dl_open
        replace h := h.line
        obtain ⟨n2, hn1, h⟩ := h
        refine sm_line (y := ("no", y4).2) hn1 (F := F14) (by lcg_src) (by kqd_all) (tx_exi T .text) (tx_oex_NoText T).l ?_
        dl_open
        refine newT (by simp) (F := F14) (by lcg_src) (ds := [Dat.str "text", Dat.int n2]) (by nest_cls) ?_
        intro u14 F15 H14 s15 r24
        have r24 : RD F15 ((eP Dat.str Dat.int) ("text", n2)) u14 := r24
        have r25 : RD F15 ((eE3 "told" (eU (e_Picture K) (e_Tile K) (eL Dat.int)) "text" Dat.int "no" Dat.str) (.inr <| .inl n2 : (((Int × (List (List Int))) ⊕ (Int × (List (List Int))) ⊕ (List Int)) ⊕ Int ⊕ Str))) u14 := (by kqd_all : RD F15 ((eP Dat.str Dat.int) ("text", n2)) u14)
        dl_open
        exact h F15 H14 (by kas_types) _ (show RD F15 ((eE3 "told" (eU (e_Picture K) (e_Tile K) (eL Dat.int)) "text" Dat.int "no" Dat.str) (.inr <| .inl n2 : (((Int × (List (List Int))) ⊕ (Int × (List (List Int))) ⊕ (List Int)) ⊕ Int ⊕ Str))) u14 by kqd_all)
      · dl_open
        dl_open
        dl_open
        refine newT (by simp) (F := F14) (by lcg_src) (ds := [Dat.str "no", Dat.str x7]) (by nest_cls) ?_
        intro u15 F16 H15 s16 r26
        have r26 : RD F16 ((eP Dat.str Dat.str) ("no", x7)) u15 := r26
        have r27 : RD F16 ((eE3 "told" (eU (e_Picture K) (e_Tile K) (eL Dat.int)) "text" Dat.int "no" Dat.str) (.inr <| .inr x7 : (((Int × (List (List Int))) ⊕ (Int × (List (List Int))) ⊕ (List Int)) ⊕ Int ⊕ Str))) u15 := (by kqd_all : RD F16 ((eP Dat.str Dat.str) ("no", x7)) u15)
        dl_open
        exact h F16 H15 (by kas_types) _ (show RD F16 ((eE3 "told" (eU (e_Picture K) (e_Tile K) (eL Dat.int)) "text" Dat.int "no" Dat.str) (.inr <| .inr x7 : (((Int × (List (List Int))) ⊕ (Int × (List (List Int))) ⊕ (List Int)) ⊕ Int ⊕ Str))) u15 by kqd_all)
theorem ok_law_told (T : TX K mg) (c_read_picture : CalOk P w K mg base "read_picture" 5 (["text"] : List Str) (sp_read_picture K)) (c_read_tile : CalOk P w K mg base "read_tile" 5 (["text"] : List Str) (sp_read_tile K)) (c_read_numbers : CalOk P w K mg base "read_numbers" 3 (["text"] : List Str) (sp_read_numbers K)) (c_law_word : CalOk P w K mg base "_law_word" 1 (["_law_e"] : List Str) (sp_law_word K)) : CalOk P w K mg base "_law_told" 6 (["_law_which", "_law_text_here"] : List Str) (sp_law_told K) :=
  T.cal 17 45 (d := d_law_told) rfl rfl rfl rfl rfl sc_law_told (len_law_told) (fun _ _ _ _ _ _ _ us hl => match us, hl with | [_, _], _ => rfl) (fun cdv A outer s H vs Q E hr h => ⟨t_law_told K E, (by exact (pss_cons (ps_tryX (i := 3) (tb := fun W => (tIfS (tTest (tOp (rEqU K) (tVar 0) (tC (.int 0)))) (tAsg (tTup (tCons (tC (.str "told")) (tCons (tCallSD (sp_read_picture K) [] (WE W) (tCons (tVar 1) tNil)) tNil))) (gName 2)) (tIfS (tTest (tOp (rEqU K) (tVar 0) (tC (.int 1)))) (tAsg (tTup (tCons (tC (.str "told")) (tCons (tCallSD (sp_read_tile K) [] (WE W) (tCons (tVar 1) tNil)) tNil))) (gName 2)) (tAsg (tTup (tCons (tC (.str "told")) (tCons (tCallSD (sp_read_numbers K) [] (WE W) (tCons (tVar 1) tNil)) tNil))) (gName 2))))) (ts := fun _ => (tAsg (tTup (tCons (tC (.str "no")) (tCons (tVar 3) tNil))) (gName 2))) (Wout := fun cls d _ H => E cls d H) rfl rfl sc_law_told.nd rfl rfl ⟨rfl, by decide, .inl (T.glo 27)⟩ (L2N.takes_of rfl rfl rfl rfl) (fun W pn xe tk _ => (pss_one (ps_if (pt_cmpR (op_eqU hr.units) (pv 0) pe_int (nomark _)) (pss_one (ps_set (i := 2) sc_law_told.nd rfl (by first | exact Or.inl rfl | exact Or.inr rfl) (pe_tup (pa_cons pe_str (pa_cons (pe_callCX c_read_picture (hr.mono (by decide)) rfl (fun _ => L2N.passAt tk _) (pa_cons (pv 1) pa_nil)) pa_nil))))) (pss_one (ps_if (pt_cmpR (op_eqU hr.units) (pv 0) pe_int (nomark _)) (pss_one (ps_set (i := 2) sc_law_told.nd rfl (by first | exact Or.inl rfl | exact Or.inr rfl) (pe_tup (pa_cons pe_str (pa_cons (pe_callCX c_read_tile (hr.mono (by decide)) rfl (fun _ => L2N.passAt tk _) (pa_cons (pv 1) pa_nil)) pa_nil))))) (pss_one (ps_set (i := 2) sc_law_told.nd rfl (by first | exact Or.inl rfl | exact Or.inr rfl) (pe_tup (pa_cons pe_str (pa_cons (pe_callCX c_read_numbers (hr.mono (by decide)) rfl (fun _ => L2N.passAt tk _) (pa_cons (pv 1) pa_nil)) pa_nil)))))))))) (fun a pn => (pss_one (ps_set (i := 2) sc_law_told.nd rfl (by first | exact Or.inl rfl | exact Or.inr rfl) (pe_tup (pa_cons pe_str (pa_cons (pv 3) pa_nil)))))))
  (pss_cons (ps_if (pt_cmpR (op_eqU hr.units) (pe_ix ix_U (pv 2) pe_int (fun _ _ => rfl)) pe_str (nomark _)) (pss_one (ps_ret (pv 2))) pss_nil)
  (pss_cons (ps_set (i := 4) sc_law_told.nd rfl (by first | exact Or.inl rfl | exact Or.inr rfl) (pe_callC c_law_word (hr.mono (by decide)) rfl (L2N.passes_call (L2N.takes_of rfl rfl rfl rfl) (fun _ _ _ _ h => h)) (pa_cons (pe_ix ix_U (pv 2) pe_int (fun _ _ => rfl)) pa_nil)))
  (pss_cons (ps_if (pt_cmpR (op_eqU hr.units) (pv 4) pe_str (nomark _)) (pss_one (ps_ret (pe_tup (pa_cons pe_str (pa_cons (pe_xl (pe_ix ix_U (pv 2) pe_int (fun _ _ => rfl)) rfl) pa_nil))))) pss_nil)
  (pss_one (ps_ret (pe_tup (pa_cons pe_str (pa_cons (pv 4) pa_nil)))))))))), pure_law_told T vs H Q E h⟩)
end
end Dot
namespace Dot
open PySem PySem.Spec PyProof.Rows L2 DK
def m_law_rows_bad (z_script : List Int) (z_at : (List Int)) (z_which : Int) (z_rows : (List Str)) : Rs (Bool × (List Int)) :=
(m_law_next z_script z_at).bnd fun x1 =>
grd ((0 : Int) < (z_rows.length : Int)) <| (ixR z_rows (x1.1 % (z_rows.length : Int))).bnd fun x2 =>
(m_law_bad z_script x1.2 x2).bnd fun x3 =>
setR z_rows (x1.1 % (z_rows.length : Int)) x3.1 fun x4 =>
(m_law_next z_script x3.2).bnd fun x5 =>
grd ((0 : Int) < (z_rows.length : Int)) <| Rs.thn ((if (x1.1 % (z_rows.length : Int)) < (x5.1 % (z_rows.length : Int)) then ((ixR z_rows (x5.1 % (z_rows.length : Int))).bnd fun x6 =>
(m_law_bad z_script x5.2 x6).bnd fun x7 =>
setR x4 (x5.1 % (z_rows.length : Int)) x7.1 fun x8 =>
.ok (.nx (x7.2, x8))) else (.ok (.nx (x5.2, x4))) : (Rs (Ctl ((List Int) × (List Str)) (Bool × (List Int)))))) (fun ⟨x9, x10⟩ =>
grd (joinOk "\n" x10 = true) <| (m_law_told z_which (Txt.join "\n" x10)).bnd fun x11 =>
somR (eE3b x11) fun y1 =>
grd (wid ((eP Dat.str Dat.int) ("text", y1)) ≤ 1000000) <| .ok (((sameD ((eP Dat.str Dat.int) ("text", y1)) ((eP Dat.str Dat.int) ("text", (x1.1 % (z_rows.length : Int))))), x9))) (fun r => .ok r)
def sp_law_rows_bad (K : PySem.W.Frag) : Sp := fun vs H Q E => ∃ (v_script v_at v_which v_rows : V), vs = [v_script, v_at, v_which, v_rows] ∧ (∃ (F : Hp) (z_script : List Int) (z_at : (List Int)) (z_which : Int) (z_rows : (List Str)), Same F H ∧ Scr K F v_script z_script ∧ (∃ (a : Addr) (ws : List V), v_at = .ref a ∧ Own F H a (.lst ws) ∧ RDs F (List.map Dat.int z_at) ws) ∧ v_which = (V.int z_which) ∧ RD F ((eL Dat.str) z_rows) v_rows ∧ Post (m_law_rows_bad z_script z_at z_which z_rows) (fun r => ∀ a, v_at = .ref a → ∀ F' H', Stp [a] F H F' H' → ∀ ws, Own F' H' a (.lst ws) → RDs F' (List.map Dat.int r.2) ws → Q (V.bl r.1) H') (fun c l => ∀ a, v_at = .ref a → ∀ Fx Hx dx, Stp [a] F H Fx Hx → ExD Fx l dx → E (.ref (He.ga K c.nm)) dx Hx))
theorem len_law_rows_bad {K : PySem.W.Frag} : ∀ vs H Q E, sp_law_rows_bad K vs H Q E → vs.length = ((["_law_script", "_law_at", "_law_which", "_law_rows"] : List Str)).length := fun vs H Q E h => by
  obtain ⟨_, _, _, _, rfl, _⟩ := h
  rfl
def t_law_rows_bad (K : PySem.W.Frag) (E : XK) : TS :=
  (tSeq (tAsg (tOp rModI (tCall (sp_law_next K) [] E (tCons (tVar 0) (tCons (tVar 1) tNil))) (tCB (rLenU K) (tCons (tVar 3) tNil))) (gName 4))
  (tSeq (tAsg (tCB (rListU K) (tCons (tVar 3) tNil)) (gName 5))
  (tSeq (tAsg (tCall (sp_law_bad K) [] E (tCons (tVar 0) (tCons (tVar 1) (tCons (tOp (rIxU K) (tVar 3) (tVar 4)) tNil)))) (gSub (tVar 5) (tVar 4) rSetL))
  (tSeq (tAsg (tOp rModI (tCall (sp_law_next K) [] E (tCons (tVar 0) (tCons (tVar 1) tNil))) (tCB (rLenU K) (tCons (tVar 3) tNil))) (gName 6))
  (tSeq (tIfS (tTest (tOp rGtI (tVar 6) (tVar 4))) (tAsg (tCall (sp_law_bad K) [] E (tCons (tVar 0) (tCons (tVar 1) (tCons (tOp (rIxU K) (tVar 3) (tVar 6)) tNil)))) (gSub (tVar 5) (tVar 6) rSetL)) tNext)
  (tRet (tCall (sp_law_same K) [] E (tCons (tCall (sp_law_told K) [] E (tCons (tVar 2) (tCons (tM1 (rJoinT K) (tC (.str "\n")) (tVar 5)) tNil))) (tCons (tTup (tCons (tC (.str "text")) (tCons (tVar 4) tNil))) tNil)))))))))
section
variable {P : Program} {w : World} {K : PySem.W.Frag} {mg : Str → Option Value} {base : Heap}
theorem pure_law_rows_bad (T : TX K mg) (vs : List V) (H : Hp) (Q : VK) (E : XK) (h : sp_law_rows_bad K vs H Q E) : t_law_rows_bad K E { nx := fun _ H' => Q .non H', rt := Q } (start n_law_rows_bad vs) H := by
  obtain ⟨v_script, v_at, v_which, v_rows, rfl, h⟩ := h
  change t_law_rows_bad K E _ [some v_script, some v_at, some v_which, some v_rows, none, none, none] H
  unfold t_law_rows_bad
  obtain ⟨F, z_script, z_at, z_which, z_rows, e0, hS1, ⟨a2, w_2, rfl, ho2, hr2⟩, rfl, hr4, h⟩ := h
  unfold m_law_rows_bad at h
  dl_open
  refine ⟨_, _, rfl, F, z_script, z_at, by lcg_src, (by ktu_offI), ⟨a2, w_2, rfl, (by kat_tups), (by nest_cls)⟩, h.b.mono2 ?_ (fun c_ l_ hx_ a_ ha_ Fx_ Hx_ dx_ sx_ ex_ => by cases ha_; exact hx_ a2 rfl Fx_ Hx_ dx_ (by kas_types) ex_)⟩
  clear h
  intro x1 h a_ ha_
  cases ha_
  intro F1 H1 s1 w1 o1 r1
  dl_open
  refine st_lenM (f := Dat.str) (F := F1) (by lcg_src) (by kqd_all) ?_
  dl_open
  replace h := h.g
  obtain ⟨g1, h⟩ := h
  refine st_mod g1 ?_
  dl_open
  dl_open
  refine sm_cpL (e := Dat.str) (F := F1) (by lcg_src) (show RD F1 ((eL Dat.str) z_rows) _ by kqd_all) ?_
  intro L1 w2 F2 H2 s2 n1 o2 r2
  dl_open
  dl_open
  replace h := h.ix
  obtain ⟨x2, hx1, h⟩ := h
  refine sm_ixL (e := Dat.str) (F := F2) (by lcg_src) (by kqd_all) hx1 ?_
  intro u2 r3
  cases (show u2 = (V.str x2) from r3)
  dl_open
  refine ⟨_, _, _, rfl, F2, z_script, x1.2, x2, by lcg_src, (by ktu_offI), ⟨a2, w1, rfl, (by kat_tups), (by nest_cls)⟩, rfl, h.b.mono2 ?_ (fun c_ l_ hx_ a_ ha_ Fx_ Hx_ dx_ sx_ ex_ => by cases ha_; exact hx_ a2 rfl Fx_ Hx_ dx_ (by kas_types) ex_)⟩
  clear h
  intro x3 h a_ ha_
  cases ha_
  intro F3 H3 s3 w3 o3 r4
  dl_open
  dl_open
  replace h := h.st
  obtain ⟨n2, hn1, h⟩ := h
  refine sm_set (e := Dat.str) (F := F3) (by lcg_src) (by kat_tups) (by nest_cls) (by kqd_all) hn1 ?_
  intro w4 F4 H4 s4 o4 r5
  generalize List.set z_rows n2 x3.1 = x4 at h r5
  dl_open
  dl_open
  refine ⟨_, _, rfl, F4, z_script, x3.2, by lcg_src, (by ktu_offI), ⟨a2, w3, rfl, (by kat_tups), (by nest_cls)⟩, h.b.mono2 ?_ (fun c_ l_ hx_ a_ ha_ Fx_ Hx_ dx_ sx_ ex_ => by cases ha_; exact hx_ a2 rfl Fx_ Hx_ dx_ (by kas_types) ex_)⟩
  clear h
  intro x5 h a_ ha_
  cases ha_
  intro F5 H5 s5 w5 o5 r6
  dl_open
  refine st_lenM (f := Dat.str) (F := F5) (by lcg_src) (by kqd_all) ?_
  dl_open
  replace h := h.g
  obtain ⟨g2, h⟩ := h
  refine st_mod g2 ?_
  dl_open
  dl_open
  (with_reducible refine cutI h (fun (s : (List Int) × (List Str)) σ' H' => ∃ F', ∃ (wj_0 : List V) (wj_1 : List V), Stp [a2, L1] F5 H5 F' H' ∧ Own F' H' a2 (.lst wj_0) ∧ RDs F' (List.map Dat.int s.1) wj_0 ∧ Own F' H' L1 (.lst wj_1) ∧ RDs F' (List.map Dat.str s.2) wj_1 ∧ σ' = [some v_script, some (V.ref a2), some (V.int z_which), some v_rows, some (V.int (x1.1 % (z_rows.length : Int))), some (V.ref L1), some (V.int (x5.1 % (z_rows.length : Int)))]) ?_ ?_) <;> clear h
  · intro nx1 kk1 h
    with_reducible refine DK.st_if ?_
    dl_open
    dl_open
    dl_open
    (refine brP h ?_ ?_) <;> clear h <;> intro c1 h
    · dl_open
      dl_open
      replace h := h.ix
      obtain ⟨x6, hx2, h⟩ := h
      refine sm_ixL (e := Dat.str) (F := F5) (by lcg_src) (by kqd_all) hx2 ?_
      intro u5 r7
      cases (show u5 = (V.str x6) from r7)
      dl_open
      refine ⟨_, _, _, rfl, F5, z_script, x5.2, x6, by lcg_src, (by ktu_offI), ⟨a2, w5, rfl, (by kat_tups), (by nest_cls)⟩, rfl, h.b.mono2 ?_ (fun c_ l_ hx_ a_ ha_ Fx_ Hx_ dx_ sx_ ex_ => by cases ha_; exact hx_ a2 rfl Fx_ Hx_ dx_ (by kas_types) ex_)⟩
      clear h
      intro x7 h a_ ha_
      cases ha_
      intro F6 H6 s6 w6 o6 r8
      dl_open
      dl_open
      replace h := h.st
      obtain ⟨n3, hn2, h⟩ := h
      refine sm_set (e := Dat.str) (F := F6) (by lcg_src) (by kat_tups) (by nest_cls) (by kqd_all) hn2 ?_
      intro w7 F7 H7 s7 o7 r9
      generalize List.set x4 n3 x7.1 = x8 at h r9
      dl_open
      dl_open
      exact kk1 (x7.2, x8) _ _ ⟨F7, _, _, by kas_types, by kat_tups, by nest_cls, by kat_tups, by nest_cls, rfl⟩ h.onx
    · dl_open
      dl_open
      exact kk1 (x5.2, x4) _ _ ⟨F5, _, _, Stp.refl (by lcg_src), by kat_tups, by nest_cls, by kat_tups, by nest_cls, rfl⟩ h.onx
  · rintro ⟨x9, x10⟩ σ_ H8 ⟨F8, w8, w9, s8, o8, r10, o9, r11, rfl⟩ h
    try dsimp only at h
    dl_open
    dl_open
    refine st_m1 ?_
    dl_open
    dl_open
    refine sm_m1 ?_
    dl_open
    obtain ⟨F9, s9, r12⟩ := own_fz (F := F8) (by lcg_src) (by kat_tups) (by nest_cls : RDs F8 (List.map Dat.str x10) w9)
    dl_open
    replace h := h.g
    obtain ⟨g3, h⟩ := h
    refine sm_joinL (F := F9) (by lcg_src) (show RD F9 ((eL Dat.str) x10) _ by kqd_all) g3 ?_
    dl_open
    refine ⟨_, _, rfl, F9, z_which, (Txt.join "\n" x10), by lcg_src, rfl, rfl, h.b.mono2 ?_ (fun c_ l_ hx_ Fx_ Hx_ dx_ sx_ ex_ => by exact hx_ a2 rfl Fx_ Hx_ dx_ (by kas_types) ex_)⟩
    clear h
    intro x11 h F10 H9 s10 u8 r13
    dl_open
    refine newT (by simp) (F := F10) (by lcg_src) (ds := [Dat.str "text", Dat.int (x1.1 % (z_rows.length : Int))]) (by nest_cls) ?_
    intro u9 F11 H10 s11 r14
    have r14 : RD F11 ((eP Dat.str Dat.int) ("text", (x1.1 % (z_rows.length : Int)))) u9 := r14
    dl_open
    replace h := h.som
    obtain ⟨y1, hy1, h⟩ := h
    have r15 : RD F11 ((eP Dat.str Dat.int) ("text", y1)) u8 := rd_eE3b hy1 (by kqd_all : RD F11 ((eE3 "told" (eU (e_Picture K) (e_Tile K) (eL Dat.int)) "text" Dat.int "no" Dat.str) x11) u8)
    replace h := h.g
    obtain ⟨g4, h⟩ := h
    refine ⟨_, _, rfl, F11, ((eP Dat.str Dat.int) ("text", y1)), ((eP Dat.str Dat.int) ("text", (x1.1 % (z_rows.length : Int)))), (by lcg_src), (by kqd_all), (by kqd_all), ((DeE.eP DeE.str DeE.int).le _ (by decide)), ((DeE.eP DeE.str DeE.int).le _ (by decide)), (by decide), g4, (NnE.eP NnE.str NnE.int) _, ?_⟩
    intro F12 H11 s12
    dl_open
    exact h a2 rfl F12 H11 (by kas_types) _ (by kat_tups) (by nest_cls)
theorem ok_law_rows_bad (T : TX K mg) (c_law_next : CalOk P w K mg base "_law_next" 1 (["_law_script", "_law_at"] : List Str) (sp_law_next K)) (c_law_bad : CalOk P w K mg base "_law_bad" 2 (["_law_script", "_law_at", "_law_row"] : List Str) (sp_law_bad K)) (c_law_same : CalOk P w K mg base "_law_same" 9 (["_law_found", "_law_due"] : List Str) (sp_law_same K)) (c_law_told : CalOk P w K mg base "_law_told" 6 (["_law_which", "_law_text_here"] : List Str) (sp_law_told K)) : CalOk P w K mg base "_law_rows_bad" 10 (["_law_script", "_law_at", "_law_which", "_law_rows"] : List Str) (sp_law_rows_bad K) :=
  T.cal 19 47 (d := d_law_rows_bad) rfl rfl rfl rfl rfl sc_law_rows_bad (len_law_rows_bad) (fun _ _ _ _ _ _ _ us hl => match us, hl with | [_, _, _, _], _ => rfl) (fun cdv A outer s H vs Q E hr h => ⟨t_law_rows_bad K E, (by exact (pss_cons (ps_set (i := 4) sc_law_rows_bad.nd rfl (by first | exact Or.inl rfl | exact Or.inr rfl) (pe_op op_mod (pe_callC c_law_next (hr.mono (by decide)) rfl (L2N.passes_call (L2N.takes_of rfl rfl rfl rfl) (fun _ _ _ _ h => h)) (pa_cons (pv 0) (pa_cons (pv 1) pa_nil))) (pe_callB call_lenU (by rfl) (T.free 0) (by decide +kernel) (pa_cons (pv 3) pa_nil))))
  (pss_cons (ps_set (i := 5) sc_law_rows_bad.nd rfl (by first | exact Or.inl rfl | exact Or.inr rfl) (pe_callTy call_listU (by rfl) (T.free 13) (by decide +kernel) (pa_cons (pv 3) pa_nil)))
  (pss_cons (ps_asg (pe_callC c_law_bad (hr.mono (by decide)) rfl (L2N.passes_call (L2N.takes_of rfl rfl rfl rfl) (fun _ _ _ _ h => h)) (pa_cons (pv 0) (pa_cons (pv 1) (pa_cons (pe_ix ix_U (pv 3) (pv 4) (fun _ _ => rfl)) pa_nil)))) (pg_sub (pv 5) (pv 4) set_list))
  (pss_cons (ps_set (i := 6) sc_law_rows_bad.nd rfl (by first | exact Or.inl rfl | exact Or.inr rfl) (pe_op op_mod (pe_callC c_law_next (hr.mono (by decide)) rfl (L2N.passes_call (L2N.takes_of rfl rfl rfl rfl) (fun _ _ _ _ h => h)) (pa_cons (pv 0) (pa_cons (pv 1) pa_nil))) (pe_callB call_lenU (by rfl) (T.free 0) (by decide +kernel) (pa_cons (pv 3) pa_nil))))
  (pss_cons (ps_if (pt_cmpR op_gt (pv 6) (pv 4) (nomark _)) (pss_one (ps_asg (pe_callC c_law_bad (hr.mono (by decide)) rfl (L2N.passes_call (L2N.takes_of rfl rfl rfl rfl) (fun _ _ _ _ h => h)) (pa_cons (pv 0) (pa_cons (pv 1) (pa_cons (pe_ix ix_U (pv 3) (pv 6) (fun _ _ => rfl)) pa_nil)))) (pg_sub (pv 5) (pv 6) set_list))) pss_nil)
  (pss_one (ps_ret (pe_callC c_law_same (hr.mono (by decide)) rfl (L2N.passes_call (L2N.takes_of rfl rfl rfl rfl) (fun _ _ _ _ h => h)) (pa_cons (pe_callC c_law_told (hr.mono (by decide)) rfl (L2N.passes_call (L2N.takes_of rfl rfl rfl rfl) (fun _ _ _ _ h => h)) (pa_cons (pv 2) (pa_cons (pe_m1 PySem.F.slot_str_join PySem.F.type_str_join mt_join pe_str (pv 5)) pa_nil))) (pa_cons (pe_tup (pa_cons pe_str (pa_cons (pv 4) pa_nil))) pa_nil))))))))))), pure_law_rows_bad T vs H Q E h⟩)
end
end Dot
namespace Dot
open PySem PySem.Spec PyProof.Rows L2 DK
def m_law_rows_more (z_script : List Int) (z_at : (List Int)) (z_which : Int) (z_rows : (List Str)) : Rs (Bool × (List Int)) :=
(m_law_next z_script z_at).bnd fun x1 =>
grd (joinOk "\n" z_rows = true) <| Rs.bnd (grd (Str.length (Txt.join "\n" z_rows) + Str.length "\n" ≤ 1000000) <| (m_law_told z_which ((Txt.join "\n" z_rows) ++ "\n")).bnd fun x2 =>
somR (eE3b x2) fun y1 =>
grd (wid ((eP Dat.str Dat.int) ("text", y1)) ≤ 1000000) <| if (sameD ((eP Dat.str Dat.int) ("text", y1)) ((eP Dat.str Dat.int) ("text", (z_rows.length : Int)))) = true then ((m_law_told z_which "").bnd fun x3 =>
somR (eE3b x3) fun y2 =>
.ok (!(wordEqI "text" y2 "text" 0))) else (.ok true) : Rs Bool) fun b1 =>
if b1 = true then (.ok ((false, x1.2))) else (if z_which = 2 then (grd (Str.length (Txt.join "\n" z_rows) + Str.length "\n" ≤ 1000000) <| (ixR ([(Txt.join "\n" z_rows), "0", "x"] : List Str) (x1.1 % 3)).bnd fun x4 =>
grd (Str.length ((Txt.join "\n" z_rows) ++ "\n") + Str.length x4 ≤ 1000000) <| (m_law_told 2 (((Txt.join "\n" z_rows) ++ "\n") ++ x4)).bnd fun x5 =>
somR (eE3b x5) fun y3 =>
grd (wid ((eP Dat.str Dat.int) ("text", y3)) ≤ 1000000) <| .ok (((sameD ((eP Dat.str Dat.int) ("text", y3)) ((eP Dat.str Dat.int) ("text", 1))), x1.2))) else ((ixR z_rows 0).bnd fun x6 =>
(m_law_told z_which x6).bnd fun x7 =>
somR (eE3b x7) fun y4 =>
grd (wid ((eP Dat.str Dat.int) ("text", y4)) ≤ 1000000) <| if (sameD ((eP Dat.str Dat.int) ("text", y4)) ((eP Dat.str Dat.int) ("text", 1))) = true then ((ixR z_rows 0).bnd fun x8 =>
grd (Str.length x8 + Str.length " 1" ≤ 1000000) <| (ixR ([(cutL z_rows (some 1) none), (["x"] : List Str), ([] : List Str)] : List (List Str)) (x1.1 % 3)).bnd fun x9 =>
grd (([(x8 ++ " 1")] : List Str).length + x9.length ≤ 1000000) <| grd (joinOk "\n" (([(x8 ++ " 1")] : List Str) ++ x9) = true) <| (m_law_told z_which (Txt.join "\n" (([(x8 ++ " 1")] : List Str) ++ x9))).bnd fun x10 =>
somR (eE3b x10) fun y5 =>
grd (wid ((eP Dat.str Dat.int) ("text", y5)) ≤ 1000000) <| .ok (((sameD ((eP Dat.str Dat.int) ("text", y5)) ((eP Dat.str Dat.int) ("text", 0))), x1.2))) else (.ok ((false, x1.2)))))
def sp_law_rows_more (K : PySem.W.Frag) : Sp := fun vs H Q E => ∃ (v_script v_at v_which v_rows : V), vs = [v_script, v_at, v_which, v_rows] ∧ (∃ (F : Hp) (z_script : List Int) (z_at : (List Int)) (z_which : Int) (z_rows : (List Str)), Same F H ∧ Scr K F v_script z_script ∧ (∃ (a : Addr) (ws : List V), v_at = .ref a ∧ Own F H a (.lst ws) ∧ RDs F (List.map Dat.int z_at) ws) ∧ v_which = (V.int z_which) ∧ RD F ((eL Dat.str) z_rows) v_rows ∧ Post (m_law_rows_more z_script z_at z_which z_rows) (fun r => ∀ a, v_at = .ref a → ∀ F' H', Stp [a] F H F' H' → ∀ ws, Own F' H' a (.lst ws) → RDs F' (List.map Dat.int r.2) ws → Q (V.bl r.1) H') (fun c l => ∀ a, v_at = .ref a → ∀ Fx Hx dx, Stp [a] F H Fx Hx → ExD Fx l dx → E (.ref (He.ga K c.nm)) dx Hx))
theorem len_law_rows_more {K : PySem.W.Frag} : ∀ vs H Q E, sp_law_rows_more K vs H Q E → vs.length = ((["_law_script", "_law_at", "_law_which", "_law_rows"] : List Str)).length := fun vs H Q E h => by
  obtain ⟨_, _, _, _, rfl, _⟩ := h
  rfl
def t_law_rows_more (K : PySem.W.Frag) (E : XK) : TS :=
  (tSeq (tAsg (tCall (sp_law_next K) [] E (tCons (tVar 0) (tCons (tVar 1) tNil))) (gName 4))
  (tSeq (tAsg (tM1 (rJoinT K) (tC (.str "\n")) (tVar 3)) (gName 5))
  (tSeq (tIfS (tOr (tNot (tB (tCall (sp_law_same K) [] E (tCons (tCall (sp_law_told K) [] E (tCons (tVar 2) (tCons (tOp (rAddU K) (tVar 5) (tC (.str "\n"))) tNil))) (tCons (tTup (tCons (tC (.str "text")) (tCons (tCB (rLenU K) (tCons (tVar 3) tNil)) tNil))) tNil))))) (tTest (tOp (rNeU K) (tCall (sp_law_told K) [] E (tCons (tVar 2) (tCons (tC (.str "")) tNil))) (tTup (tCons (tC (.str "text")) (tCons (tC (.int 0)) tNil)))))) (tRet (tC (.bl false))) tNext)
  (tSeq (tIfS (tTest (tOp (rEqU K) (tVar 2) (tC (.int 2)))) (tRet (tCall (sp_law_same K) [] E (tCons (tCall (sp_law_told K) [] E (tCons (tC (.int 2)) (tCons (tOp (rAddU K) (tOp (rAddU K) (tVar 5) (tC (.str "\n"))) (tOp (rIxU K) (tLst (tCons (tVar 5) (tCons (tC (.str "0")) (tCons (tC (.str "x")) tNil)))) (tOp rModI (tVar 4) (tC (.int 3))))) tNil))) (tCons (tTup (tCons (tC (.str "text")) (tCons (tC (.int 1)) tNil))) tNil)))) tNext)
  (tSeq (tIfS (tNot (tB (tCall (sp_law_same K) [] E (tCons (tCall (sp_law_told K) [] E (tCons (tVar 2) (tCons (tOp (rIxU K) (tVar 3) (tC (.int 0))) tNil))) (tCons (tTup (tCons (tC (.str "text")) (tCons (tC (.int 1)) tNil))) tNil))))) (tRet (tC (.bl false))) tNext)
  (tRet (tCall (sp_law_same K) [] E (tCons (tCall (sp_law_told K) [] E (tCons (tVar 2) (tCons (tM1 (rJoinT K) (tC (.str "\n")) (tOp (rAddU K) (tLst (tCons (tOp (rAddU K) (tOp (rIxU K) (tVar 3) (tC (.int 0))) (tC (.str " 1"))) tNil)) (tOp (rIxU K) (tLst (tCons (tSl (rSlU K) (tVar 3) (tPart (tC (.int 1))) tNoPart) (tCons (tLst (tCons (tC (.str "x")) tNil)) (tCons (tLst tNil) tNil)))) (tOp rModI (tVar 4) (tC (.int 3)))))) tNil))) (tCons (tTup (tCons (tC (.str "text")) (tCons (tC (.int 0)) tNil))) tNil)))))))))
section
variable {P : Program} {w : World} {K : PySem.W.Frag} {mg : Str → Option Value} {base : Heap}
theorem pure_law_rows_more (T : TX K mg) (vs : List V) (H : Hp) (Q : VK) (E : XK) (h : sp_law_rows_more K vs H Q E) : t_law_rows_more K E { nx := fun _ H' => Q .non H', rt := Q } (start n_law_rows_more vs) H := by
  obtain ⟨v_script, v_at, v_which, v_rows, rfl, h⟩ := h
  change t_law_rows_more K E _ [some v_script, some v_at, some v_which, some v_rows, none, none] H
  unfold t_law_rows_more
  obtain ⟨F, z_script, z_at, z_which, z_rows, e0, hS1, ⟨a2, w_2, rfl, ho2, hr2⟩, rfl, hr4, h⟩ := h
  unfold m_law_rows_more at h
  dl_open
  refine ⟨_, _, rfl, F, z_script, z_at, by lcg_src, (by ktu_offI), ⟨a2, w_2, rfl, (by kat_tups), (by nest_cls)⟩, h.b.mono2 ?_ (fun c_ l_ hx_ a_ ha_ Fx_ Hx_ dx_ sx_ ex_ => by cases ha_; exact hx_ a2 rfl Fx_ Hx_ dx_ (by kas_types) ex_)⟩
  clear h
  intro x1 h a_ ha_
  cases ha_
  intro F1 H1 s1 w1 o1 r1
  dl_open
  dl_open
  refine st_m1 ?_
  dl_open
  dl_open
  refine sm_m1 ?_
  dl_open
  dl_open
  replace h := h.g
  obtain ⟨g1, h⟩ := h
  refine sm_joinL (F := F1) (by lcg_src) (show RD F1 ((eL Dat.str) z_rows) _ by kqd_all) g1 ?_
  dl_open
  dl_open
  with_reducible refine DK.st_if ?_
  dl_open
  dl_open
  (refine cutT F1 H1 h ?_ ?_) <;> clear h
  · intro Qkk1 kk1 h
    refine st_or ?_
    dl_open
    dl_open
    replace h := h.g
    obtain ⟨g2, h⟩ := h
    refine sm_addS g2 ?_
    dl_open
    refine ⟨_, _, rfl, F1, z_which, ((Txt.join "\n" z_rows) ++ "\n"), by lcg_src, rfl, rfl, h.b.mono2 ?_ (fun c_ l_ hx_ Fx_ Hx_ dx_ sx_ ex_ => by exact hx_ a2 rfl Fx_ Hx_ dx_ (by kas_types) ex_)⟩
    clear h
    intro x2 h F3 H3 s3 u3 r2
    dl_open
    refine st_lenM (f := Dat.str) (F := F3) (by lcg_src) (by kqd_all) ?_
    dl_open
    refine newT (by simp) (F := F3) (by lcg_src) (ds := [Dat.str "text", Dat.int (z_rows.length : Int)]) (by nest_cls) ?_
    intro u4 F4 H4 s4 r3
    have r3 : RD F4 ((eP Dat.str Dat.int) ("text", (z_rows.length : Int))) u4 := r3
    dl_open
    replace h := h.som
    obtain ⟨y1, hy1, h⟩ := h
    have r4 : RD F4 ((eP Dat.str Dat.int) ("text", y1)) u3 := rd_eE3b hy1 (by kqd_all : RD F4 ((eE3 "told" (eU (e_Picture K) (e_Tile K) (eL Dat.int)) "text" Dat.int "no" Dat.str) x2) u3)
    replace h := h.g
    obtain ⟨g3, h⟩ := h
    refine ⟨_, _, rfl, F4, ((eP Dat.str Dat.int) ("text", y1)), ((eP Dat.str Dat.int) ("text", (z_rows.length : Int))), (by lcg_src), (by kqd_all), (by kqd_all), ((DeE.eP DeE.str DeE.int).le _ (by decide)), ((DeE.eP DeE.str DeE.int).le _ (by decide)), (by decide), g3, (NnE.eP NnE.str NnE.int) _, ?_⟩
    intro F5 H5 s5
    dl_open
    dl_open
    (refine brNB h ?_ ?_) <;> clear h <;> intro c1 h
    · try dl_open
      exact kk1 _ F5 H5 (by kas_types) h
    · dl_open
      dl_open
      refine ⟨_, _, rfl, F5, z_which, "", by lcg_src, rfl, rfl, h.b.mono2 ?_ (fun c_ l_ hx_ Fx_ Hx_ dx_ sx_ ex_ => by exact hx_ a2 rfl Fx_ Hx_ dx_ (by kas_types) ex_)⟩
      clear h
      intro x3 h F6 H6 s6 u6 r5
      dl_open
      refine newT (by simp) (F := F6) (by lcg_src) (ds := [Dat.str "text", Dat.int 0]) (by nest_cls) ?_
      intro u7 F7 H7 s7 r6
      have r6 : RD F7 ((eP Dat.str Dat.int) ("text", 0)) u7 := r6
      dl_open
      replace h := h.som
      obtain ⟨y2, hy2, h⟩ := h
      have r7 : RD F7 ((eP Dat.str Dat.int) ("text", y2)) u6 := rd_eE3b hy2 (by kqd_all : RD F7 ((eE3 "told" (eU (e_Picture K) (e_Tile K) (eL Dat.int)) "text" Dat.int "no" Dat.str) x3) u6)
      refine sm_neWI (a := "text") (n := y2) (c := "text") (m := 0) (F := F7) (by lcg_src) (by kqd_all) (by kqd_all) (by decide +kernel) (by decide +kernel) ?_
      dl_open
      exact kk1 _ F7 H7 (by kas_types) h
  intro b1 F2 H2 s2 h
  dl_open
  (refine brB h ?_ ?_) <;> clear h <;> intro c2 h
  · dl_open
    dl_open
    dl_open
    exact h a2 rfl F2 H2 (by kas_types) _ (by kat_tups) (by nest_cls)
  · dl_open
    dl_open
    with_reducible refine DK.st_if ?_
    dl_open
    dl_open
    dl_open
    (refine brP h ?_ ?_) <;> clear h <;> intro c3 h
    · dl_open
      dl_open
      dl_open
      replace h := h.g
      obtain ⟨g4, h⟩ := h
      refine sm_addS g4 ?_
      dl_open
      refine newL (by simp) (F := F2) (by lcg_src) (ds := [Dat.str (Txt.join "\n" z_rows), Dat.str "0", Dat.str "x"]) (by nest_cls) ?_
      intro u8 F8 H8 s8 r8
      have r8 : RD F8 ((eL Dat.str) ([(Txt.join "\n" z_rows), "0", "x"] : List Str)) u8 := r8
      dl_open
      refine st_mod (by decide) ?_
      dl_open
      replace h := h.ix
      obtain ⟨x4, hx1, h⟩ := h
      refine sm_ixL (e := Dat.str) (F := F8) (by lcg_src) (by kqd_all) hx1 ?_
      intro u9 r9
      cases (show u9 = (V.str x4) from r9)
      dl_open
      replace h := h.g
      obtain ⟨g6, h⟩ := h
      refine sm_addS g6 ?_
      dl_open
      refine ⟨_, _, rfl, F8, 2, (((Txt.join "\n" z_rows) ++ "\n") ++ x4), by lcg_src, rfl, rfl, h.b.mono2 ?_ (fun c_ l_ hx_ Fx_ Hx_ dx_ sx_ ex_ => by exact hx_ a2 rfl Fx_ Hx_ dx_ (by kas_types) ex_)⟩
      clear h
      intro x5 h F9 H9 s9 u11 r10
      dl_open
      refine newT (by simp) (F := F9) (by lcg_src) (ds := [Dat.str "text", Dat.int 1]) (by nest_cls) ?_
      intro u12 F10 H10 s10 r11
      have r11 : RD F10 ((eP Dat.str Dat.int) ("text", 1)) u12 := r11
      dl_open
      replace h := h.som
      obtain ⟨y3, hy3, h⟩ := h
      have r12 : RD F10 ((eP Dat.str Dat.int) ("text", y3)) u11 := rd_eE3b hy3 (by kqd_all : RD F10 ((eE3 "told" (eU (e_Picture K) (e_Tile K) (eL Dat.int)) "text" Dat.int "no" Dat.str) x5) u11)
      replace h := h.g
      obtain ⟨g7, h⟩ := h
      refine ⟨_, _, rfl, F10, ((eP Dat.str Dat.int) ("text", y3)), ((eP Dat.str Dat.int) ("text", 1)), (by lcg_src), (by kqd_all), (by kqd_all), ((DeE.eP DeE.str DeE.int).le _ (by decide)), ((DeE.eP DeE.str DeE.int).le _ (by decide)), (by decide), g7, (NnE.eP NnE.str NnE.int) _, ?_⟩
      intro F11 H11 s11
      dl_open
      exact h a2 rfl F11 H11 (by kas_types) _ (by kat_tups) (by nest_cls)
    · dl_open
      dl_open
      with_reducible refine DK.st_if ?_
      dl_open
      dl_open
      dl_open
      replace h := h.ix
      obtain ⟨x6, hx2, h⟩ := h
      refine sm_ixL (e := Dat.str) (F := F2) (by lcg_src) (by kqd_all) hx2 ?_
      intro u13 r13
      cases (show u13 = (V.str x6) from r13)
      dl_open
      refine ⟨_, _, rfl, F2, z_which, x6, by lcg_src, rfl, rfl, h.b.mono2 ?_ (fun c_ l_ hx_ Fx_ Hx_ dx_ sx_ ex_ => by exact hx_ a2 rfl Fx_ Hx_ dx_ (by kas_types) ex_)⟩
      clear h
      intro x7 h F12 H12 s12 u15 r14
      dl_open
      refine newT (by simp) (F := F12) (by lcg_src) (ds := [Dat.str "text", Dat.int 1]) (by nest_cls) ?_
      intro u16 F13 H13 s13 r15
      have r15 : RD F13 ((eP Dat.str Dat.int) ("text", 1)) u16 := r15
      dl_open
      replace h := h.som
      obtain ⟨y4, hy4, h⟩ := h
      have r16 : RD F13 ((eP Dat.str Dat.int) ("text", y4)) u15 := rd_eE3b hy4 (by kqd_all : RD F13 ((eE3 "told" (eU (e_Picture K) (e_Tile K) (eL Dat.int)) "text" Dat.int "no" Dat.str) x7) u15)
      replace h := h.g
      obtain ⟨g8, h⟩ := h
      refine ⟨_, _, rfl, F13, ((eP Dat.str Dat.int) ("text", y4)), ((eP Dat.str Dat.int) ("text", 1)), (by lcg_src), (by kqd_all), (by kqd_all), ((DeE.eP DeE.str DeE.int).le _ (by decide)), ((DeE.eP DeE.str DeE.int).le _ (by decide)), (by decide), g8, (NnE.eP NnE.str NnE.int) _, ?_⟩
      intro F14 H14 s14
      dl_open
      dl_open
      (refine brNB h ?_ ?_) <;> clear h <;> intro c4 h
      · dl_open
        dl_open
        dl_open
        exact h a2 rfl F14 H14 (by kas_types) _ (by kat_tups) (by nest_cls)
      · dl_open
        dl_open
        dl_open
        refine st_m1 ?_
        dl_open
        dl_open
        refine sm_m1 ?_
        dl_open
        dl_open
        replace h := h.ix
        obtain ⟨x8, hx3, h⟩ := h
        refine sm_ixL (e := Dat.str) (F := F14) (by lcg_src) (by kqd_all) hx3 ?_
        intro u17 r17
        cases (show u17 = (V.str x8) from r17)
        dl_open
        replace h := h.g
        obtain ⟨g9, h⟩ := h
        refine sm_addS g9 ?_
        dl_open
        refine newL (by simp) (F := F14) (by lcg_src) (ds := [Dat.str (x8 ++ " 1")]) (by nest_cls) ?_
        intro u18 F15 H15 s15 r18
        have r18 : RD F15 ((eL Dat.str) ([(x8 ++ " 1")] : List Str)) u18 := r18
        dl_open
        refine sm_slL (e := Dat.str) (F := F15) (by lcg_src) (by kqd_all) ?_
        intro u19 F16 H16 s16 r19
        dl_open
        refine newL (by simp) (F := F16) (by lcg_src) (ds := [Dat.str "x"]) (by nest_cls) ?_
        intro u20 F17 H17 s17 r20
        have r20 : RD F17 ((eL Dat.str) (["x"] : List Str)) u20 := r20
        dl_open
        refine newL (by simp) (F := F17) (by lcg_src) (ds := []) (by nest_cls) ?_
        intro u21 F18 H18 s18 r21
        have r21 : RD F18 ((eL Dat.str) ([] : List Str)) u21 := r21
        dl_open
        refine newL (by simp) (F := F18) (by lcg_src) (ds := [(eL Dat.str) (cutL z_rows (some 1) none), (eL Dat.str) (["x"] : List Str), (eL Dat.str) ([] : List Str)]) (by nest_cls) ?_
        intro u22 F19 H19 s19 r22
        have r22 : RD F19 ((eL (eL Dat.str)) ([(cutL z_rows (some 1) none), (["x"] : List Str), ([] : List Str)] : List (List Str))) u22 := r22
        dl_open
        refine st_mod (by decide) ?_
        dl_open
        replace h := h.ix
        obtain ⟨x9, hx4, h⟩ := h
        refine sm_ixL (e := (eL Dat.str)) (F := F19) (by lcg_src) (by kqd_all) hx4 ?_
        intro u23 r23
        have r23 : RD F19 ((eL Dat.str) x9) u23 := r23
        dl_open
        replace h := h.g
        obtain ⟨g11, h⟩ := h
        refine sm_cat (e := Dat.str) (F := F19) (by lcg_src) (by kqd_all) (by kqd_all) g11 ?_
        intro u24 F20 H20 s20 r24
        dl_open
        replace h := h.g
        obtain ⟨g12, h⟩ := h
        refine sm_joinL (F := F20) (by lcg_src) (show RD F20 ((eL Dat.str) (([(x8 ++ " 1")] : List Str) ++ x9)) _ by kqd_all) g12 ?_
        dl_open
        refine ⟨_, _, rfl, F20, z_which, (Txt.join "\n" (([(x8 ++ " 1")] : List Str) ++ x9)), by lcg_src, rfl, rfl, h.b.mono2 ?_ (fun c_ l_ hx_ Fx_ Hx_ dx_ sx_ ex_ => by exact hx_ a2 rfl Fx_ Hx_ dx_ (by kas_types) ex_)⟩
        clear h
        intro x10 h F21 H21 s21 u26 r25
        dl_open
        refine newT (by simp) (F := F21) (by lcg_src) (ds := [Dat.str "text", Dat.int 0]) (by nest_cls) ?_
        intro u27 F22 H22 s22 r26
        have r26 : RD F22 ((eP Dat.str Dat.int) ("text", 0)) u27 := r26
        dl_open
        replace h := h.som
        obtain ⟨y5, hy5, h⟩ := h
        have r27 : RD F22 ((eP Dat.str Dat.int) ("text", y5)) u26 := rd_eE3b hy5 (by kqd_all : RD F22 ((eE3 "told" (eU (e_Picture K) (e_Tile K) (eL Dat.int)) "text" Dat.int "no" Dat.str) x10) u26)
        replace h := h.g
        obtain ⟨g13, h⟩ := h
        refine ⟨_, _, rfl, F22, ((eP Dat.str Dat.int) ("text", y5)), ((eP Dat.str Dat.int) ("text", 0)), (by lcg_src), (by kqd_all), (by kqd_all), ((DeE.eP DeE.str DeE.int).le _ (by decide)), ((DeE.eP DeE.str DeE.int).le _ (by decide)), (by decide), g13, (NnE.eP NnE.str NnE.int) _, ?_⟩
        intro F23 H23 s23
        dl_open
        exact h a2 rfl F23 H23 (by kas_types) _ (by kat_tups) (by nest_cls)
theorem ok_law_rows_more (T : TX K mg) (c_law_next : CalOk P w K mg base "_law_next" 1 (["_law_script", "_law_at"] : List Str) (sp_law_next K)) (c_law_same : CalOk P w K mg base "_law_same" 9 (["_law_found", "_law_due"] : List Str) (sp_law_same K)) (c_law_told : CalOk P w K mg base "_law_told" 6 (["_law_which", "_law_text_here"] : List Str) (sp_law_told K)) : CalOk P w K mg base "_law_rows_more" 10 (["_law_script", "_law_at", "_law_which", "_law_rows"] : List Str) (sp_law_rows_more K) :=
  T.cal 20 48 (d := d_law_rows_more) rfl rfl rfl rfl rfl sc_law_rows_more (len_law_rows_more) (fun _ _ _ _ _ _ _ us hl => match us, hl with | [_, _, _, _], _ => rfl) (fun cdv A outer s H vs Q E hr h => ⟨t_law_rows_more K E, (by exact (pss_cons (ps_set (i := 4) sc_law_rows_more.nd rfl (by first | exact Or.inl rfl | exact Or.inr rfl) (pe_callC c_law_next (hr.mono (by decide)) rfl (L2N.passes_call (L2N.takes_of rfl rfl rfl rfl) (fun _ _ _ _ h => h)) (pa_cons (pv 0) (pa_cons (pv 1) pa_nil))))
  (pss_cons (ps_set (i := 5) sc_law_rows_more.nd rfl (by first | exact Or.inl rfl | exact Or.inr rfl) (pe_m1 PySem.F.slot_str_join PySem.F.type_str_join mt_join pe_str (pv 3)))
  (pss_cons (ps_if (PW.pt (pw_or (pt_not (pt_val (pe_callC c_law_same (hr.mono (by decide)) rfl (L2N.passes_call (L2N.takes_of rfl rfl rfl rfl) (fun _ _ _ _ h => h)) (pa_cons (pe_callC c_law_told (hr.mono (by decide)) rfl (L2N.passes_call (L2N.takes_of rfl rfl rfl rfl) (fun _ _ _ _ h => h)) (pa_cons (pv 2) (pa_cons (pe_op op_addU (pv 5) pe_str) pa_nil))) (pa_cons (pe_tup (pa_cons pe_str (pa_cons (pe_callB call_lenU (by rfl) (T.free 0) (by decide +kernel) (pa_cons (pv 3) pa_nil)) pa_nil))) pa_nil))))) (pw_or1 (pt_cmpR (op_neU hr.units) (pe_callC c_law_told (hr.mono (by decide)) rfl (L2N.passes_call (L2N.takes_of rfl rfl rfl rfl) (fun _ _ _ _ h => h)) (pa_cons (pv 2) (pa_cons pe_str pa_nil))) (pe_tup (pa_cons pe_str (pa_cons pe_int pa_nil))) (nomark _))))) (pss_one (ps_ret pe_bl)) pss_nil)
  (pss_cons (ps_if (pt_cmpR (op_eqU hr.units) (pv 2) pe_int (nomark _)) (pss_one (ps_ret (pe_callC c_law_same (hr.mono (by decide)) rfl (L2N.passes_call (L2N.takes_of rfl rfl rfl rfl) (fun _ _ _ _ h => h)) (pa_cons (pe_callC c_law_told (hr.mono (by decide)) rfl (L2N.passes_call (L2N.takes_of rfl rfl rfl rfl) (fun _ _ _ _ h => h)) (pa_cons pe_int (pa_cons (pe_op op_addU (pe_op op_addU (pv 5) pe_str) (pe_ix ix_U (pe_lst (pa_cons (pv 5) (pa_cons pe_str (pa_cons pe_str pa_nil)))) (pe_op op_mod (pv 4) pe_int) (fun _ _ => rfl))) pa_nil))) (pa_cons (pe_tup (pa_cons pe_str (pa_cons pe_int pa_nil))) pa_nil))))) pss_nil)
  (pss_cons (ps_if (pt_not (pt_val (pe_callC c_law_same (hr.mono (by decide)) rfl (L2N.passes_call (L2N.takes_of rfl rfl rfl rfl) (fun _ _ _ _ h => h)) (pa_cons (pe_callC c_law_told (hr.mono (by decide)) rfl (L2N.passes_call (L2N.takes_of rfl rfl rfl rfl) (fun _ _ _ _ h => h)) (pa_cons (pv 2) (pa_cons (pe_ix ix_U (pv 3) pe_int (fun _ _ => rfl)) pa_nil))) (pa_cons (pe_tup (pa_cons pe_str (pa_cons pe_int pa_nil))) pa_nil))))) (pss_one (ps_ret pe_bl)) pss_nil)
  (pss_one (ps_ret (pe_callC c_law_same (hr.mono (by decide)) rfl (L2N.passes_call (L2N.takes_of rfl rfl rfl rfl) (fun _ _ _ _ h => h)) (pa_cons (pe_callC c_law_told (hr.mono (by decide)) rfl (L2N.passes_call (L2N.takes_of rfl rfl rfl rfl) (fun _ _ _ _ h => h)) (pa_cons (pv 2) (pa_cons (pe_m1 PySem.F.slot_str_join PySem.F.type_str_join mt_join pe_str (pe_op op_addU (pe_lst (pa_cons (pe_op op_addU (pe_ix ix_U (pv 3) pe_int (fun _ _ => rfl)) pe_str) pa_nil)) (pe_ix ix_U (pe_lst (pa_cons (pe_slice sl_U (pv 3) (po_some pe_int) po_none) (pa_cons (pe_lst (pa_cons pe_str pa_nil)) (pa_cons (pe_lst pa_nil) pa_nil)))) (pe_op op_mod (pv 4) pe_int) (fun _ _ => rfl)))) pa_nil))) (pa_cons (pe_tup (pa_cons pe_str (pa_cons pe_int pa_nil))) pa_nil))))))))))), pure_law_rows_more T vs H Q E h⟩)
end
end Dot
namespace Dot
open PySem PySem.Spec PyProof.Rows L2 DK
def m_law_none (z_script : List Int) (z_at : (List Int)) (z_which : Int) (z_count : Int) (z_table : (List (List Int))) : Rs (Bool × (List Int)) :=
(m_law_next z_script z_at).bnd fun x1 =>
grd (z_table.length ≤ 1000000) <| (mapR (fun (y1 : (List Int)) =>
 .ok (some y1)) z_table).bnd fun x2 =>
grd ((0 : Int) < (x2.length : Int)) <| (ixR x2 0).bnd fun x3 =>
grd ((0 : Int) < (x3.length : Int)) <| Rs.thn ((if ((x1.1 / 64) % 4) = 0 then (.ok (.nx (0, x2))) else (Rs.thn ((Rs.bnd (if ((x1.1 / 64) % 4) = 1 then (.ok (decide (1 < (x2.length : Int)))) else (.ok false) : Rs Bool) fun b1 =>
if b1 = true then ((ixR x2 (x1.1 % (x2.length : Int))).bnd fun x4 =>
grd (x4.length < 1000000) <| .ok (.nx (rowSet x2 (x1.1 % (x2.length : Int)) (x4 ++ [1])))) else (Rs.thn ((Rs.bnd (if ((x1.1 / 64) % 4) = 2 then (.ok (decide (z_which = 1))) else (.ok false) : Rs Bool) fun b2 =>
if b2 = true then ((ixR x2 (x1.1 % (x2.length : Int))).bnd fun x5 =>
setR x5 ((x1.1 / 8) % (x3.length : Int)) 0 fun x6 =>
.ok (.nx (rowSet x2 (x1.1 % (x2.length : Int)) x6))) else ((ixR x2 (x1.1 % (x2.length : Int))).bnd fun x7 =>
setR x7 ((x1.1 / 8) % (x3.length : Int)) ((z_count + 1) + ((x1.1 / 256) % 9)) fun x8 =>
.ok (.nx (rowSet x2 (x1.1 % (x2.length : Int)) x8))) : (Rs (Ctl ((List (List Int))) (Bool × (List Int)))))) (fun x9 =>
.ok (.nx x9)) (fun r => .ok (.rt r))) : (Rs (Ctl ((List (List Int))) (Bool × (List Int)))))) (fun x10 =>
.ok (.nx (z_count, x10))) (fun r => .ok (.rt r))) : (Rs (Ctl (Int × (List (List Int))) (Bool × (List Int)))))) (fun ⟨x11, x12⟩ =>
(m_law_text x11 x12).bnd fun x13 =>
(m_law_told z_which x13).bnd fun x14 =>
(ixR (["picture", "tile"] : List Str) z_which).bnd fun x15 =>
somR (eE3c x14) fun y2 =>
grd (PyData.strOk y2 = true) <| grd (PyData.strOk x15 = true) <| if (wordEq "no" y2 "no" x15) = true then (grd (Str.length x13 + Str.length "\n" ≤ 1000000) <| (m_law_told z_which (x13 ++ "\n")).bnd fun x16 =>
somR (eE3b x16) fun y3 =>
grd (wid ((eP Dat.str Dat.int) ("text", y3)) ≤ 1000000) <| .ok (((sameD ((eP Dat.str Dat.int) ("text", y3)) ((eP Dat.str Dat.int) ("text", ((x12.length : Int) + 1)))), x1.2))) else (.ok ((false, x1.2)))) (fun r => .ok r)
def sp_law_none (K : PySem.W.Frag) : Sp := fun vs H Q E => ∃ (v_script v_at v_which v_count v_table : V), vs = [v_script, v_at, v_which, v_count, v_table] ∧ (∃ (F : Hp) (z_script : List Int) (z_at : (List Int)) (z_which : Int) (z_count : Int) (z_table : (List (List Int))), Same F H ∧ Scr K F v_script z_script ∧ (∃ (a : Addr) (ws : List V), v_at = .ref a ∧ Own F H a (.lst ws) ∧ RDs F (List.map Dat.int z_at) ws) ∧ v_which = (V.int z_which) ∧ v_count = (V.int z_count) ∧ RD F ((eL (eL Dat.int)) z_table) v_table ∧ Post (m_law_none z_script z_at z_which z_count z_table) (fun r => ∀ a, v_at = .ref a → ∀ F' H', Stp [a] F H F' H' → ∀ ws, Own F' H' a (.lst ws) → RDs F' (List.map Dat.int r.2) ws → Q (V.bl r.1) H') (fun c l => ∀ a, v_at = .ref a → ∀ Fx Hx dx, Stp [a] F H Fx Hx → ExD Fx l dx → E (.ref (He.ga K c.nm)) dx Hx))
theorem len_law_none {K : PySem.W.Frag} : ∀ vs H Q E, sp_law_none K vs H Q E → vs.length = ((["_law_script", "_law_at", "_law_which", "_law_count", "_law_table"] : List Str)).length := fun vs H Q E h => by
  obtain ⟨_, _, _, _, _, rfl, _⟩ := h
  rfl
def t_law_none (K : PySem.W.Frag) (E : XK) : TS :=
  (tSeq (tAsg (tCall (sp_law_next K) [] E (tCons (tVar 0) (tCons (tVar 1) tNil))) (gName 5))
  (tSeq (tAsg (tLc (iSeq K (tVar 4)) (gName 11) tYes (tCB (rListU K) (tCons (tVar 11) tNil)) [11]) (gName 6))
  (tSeq (tAsg (tOp rModI (tVar 5) (tCB (rLenU K) (tCons (tVar 6) tNil))) (gName 7))
  (tSeq (tAsg (tOp rModI (tOp rDivU (tVar 5) (tC (.int 8))) (tCB (rLenU K) (tCons (tOp (rIxU K) (tVar 6) (tC (.int 0))) tNil))) (gName 8))
  (tSeq (tAsg (tVar 3) (gName 9))
  (tSeq (tIfS (tTest (tOp (rEqU K) (tOp rModI (tOp rDivU (tVar 5) (tC (.int 64))) (tC (.int 4))) (tC (.int 0)))) (tAsg (tC (.int 0)) (gName 9)) (tIfS (tAnd (tTest (tOp (rEqU K) (tOp rModI (tOp rDivU (tVar 5) (tC (.int 64))) (tC (.int 4))) (tC (.int 1)))) (tTest (tOp rGtI (tCB (rLenU K) (tCons (tVar 6) tNil)) (tC (.int 1))))) (tDrop (tBM K "list" rAppend (tOp (rIxU K) (tVar 6) (tVar 7)) (tCons (tC (.int 1)) tNil))) (tIfS (tAnd (tTest (tOp (rEqU K) (tOp rModI (tOp rDivU (tVar 5) (tC (.int 64))) (tC (.int 4))) (tC (.int 2)))) (tTest (tOp (rEqU K) (tVar 2) (tC (.int 1))))) (tAsg (tC (.int 0)) (gSub (tOp (rIxU K) (tVar 6) (tVar 7)) (tVar 8) rSetL)) (tAsg (tOp (rAddU K) (tOp (rAddU K) (tVar 3) (tC (.int 1))) (tOp rModI (tOp rDivU (tVar 5) (tC (.int 256))) (tC (.int 9)))) (gSub (tOp (rIxU K) (tVar 6) (tVar 7)) (tVar 8) rSetL)))))
  (tSeq (tAsg (tCall (sp_law_text K) [] E (tCons (tVar 9) (tCons (tVar 6) tNil))) (gName 10))
  (tSeq (tIfS (tTest (tOp (rNeU K) (tCall (sp_law_told K) [] E (tCons (tVar 2) (tCons (tVar 10) tNil))) (tTup (tCons (tC (.str "no")) (tCons (tOp (rIxU K) (tLst (tCons (tC (.str "picture")) (tCons (tC (.str "tile")) tNil))) (tVar 2)) tNil))))) (tRet (tC (.bl false))) tNext)
  (tRet (tCall (sp_law_same K) [] E (tCons (tCall (sp_law_told K) [] E (tCons (tVar 2) (tCons (tOp (rAddU K) (tVar 10) (tC (.str "\n"))) tNil))) (tCons (tTup (tCons (tC (.str "text")) (tCons (tOp (rAddU K) (tCB (rLenU K) (tCons (tVar 6) tNil)) (tC (.int 1))) tNil))) tNil))))))))))))
section
variable {P : Program} {w : World} {K : PySem.W.Frag} {mg : Str → Option Value} {base : Heap}
theorem pure_law_none (T : TX K mg) (vs : List V) (H : Hp) (Q : VK) (E : XK) (h : sp_law_none K vs H Q E) : t_law_none K E { nx := fun _ H' => Q .non H', rt := Q } (start n_law_none vs) H := by
  obtain ⟨v_script, v_at, v_which, v_count, v_table, rfl, h⟩ := h
  change t_law_none K E _ [some v_script, some v_at, some v_which, some v_count, some v_table, none, none, none, none, none, none, none] H
  unfold t_law_none
  obtain ⟨F, z_script, z_at, z_which, z_count, z_table, e0, hS1, ⟨a2, w_2, rfl, ho2, hr2⟩, rfl, rfl, hr5, h⟩ := h
  unfold m_law_none at h
  dl_open
  refine ⟨_, _, rfl, F, z_script, z_at, by lcg_src, (by ktu_offI), ⟨a2, w_2, rfl, (by kat_tups), (by nest_cls)⟩, h.b.mono2 ?_ (fun c_ l_ hx_ a_ ha_ Fx_ Hx_ dx_ sx_ ex_ => by cases ha_; exact hx_ a2 rfl Fx_ Hx_ dx_ (by kas_types) ex_)⟩
  clear h
  intro x1 h a_ ha_
  cases ha_
  intro F1 H1 s1 w1 o1 r1
  dl_open
  dl_open
  refine st_lc ?_
  dl_open
  refine st_iseqL ?_
  dl_open
  dl_open
  replace h := h.g
  obtain ⟨g1, h⟩ := h
  (refine lcN_L (e := (eL Dat.int)) (e2 := Dat.int) (F := F1) (by kqd_all) (by lcg_src) g1 h.b ?_ ?_) <;> clear h
  · intro y1 u2 F2 H2 r2 s2 PN1 NY1 NN1 kY1 kN1 h
    have r2 : RD F2 ((eL Dat.int) y1) u2 := r2
    dl_open
    dl_open
    refine ⟨rfl, ?_⟩
    dl_open
    dl_open
    refine sm_cpL (e := Dat.int) (F := F2) (by lcg_src) (show RD F2 ((eL Dat.int) y1) _ by kqd_all) ?_
    intro L1 w2 F3 H3 s3 n1 o2 r3
    dl_open
    exact kY1 L1 _ _ F3 H3 (by kas_types) (by k_subL) (by kat_tups) (by nest_cls) h
  intro L2 rs1 x2 F4 H4 s4 n2 o3 h
  have n3 : FreN H (L2 :: rs1) := (show Stp [a2] F H F1 H1 by kas_types).backN n2
  have n2 := n2
  dl_open
  dl_open
  refine sm_lenN (by kbo_bools : OwnN F4 H4 L2 rs1 Dat.int x2) ?_
  dl_open
  replace h := h.g
  obtain ⟨g2, h⟩ := h
  refine st_mod g2 ?_
  dl_open
  dl_open
  refine st_div (divS (by decide)) ?_
  dl_open
  replace h := h.ix
  obtain ⟨x3, hx1, h⟩ := h
  refine sm_rowN (by kbo_bools : OwnN F4 H4 L2 rs1 Dat.int x2) hx1 ?_
  intro m1 L3 w3 hn1 hr1 o4 r4
  dl_open
  refine sm_lenO (e := Dat.int) (F := F4) (by kat_tups) (by nest_cls) ?_
  dl_open
  replace h := h.g
  obtain ⟨g4, h⟩ := h
  refine st_mod g4 ?_
  dl_open
  dl_open
  dl_open
  (with_reducible refine cutI h (fun (s : Int × (List (List Int))) σ' H' => ∃ F', Stp (L2 :: rs1) F4 H4 F' H' ∧ OwnN F' H' L2 rs1 Dat.int s.2 ∧ σ' = [some v_script, some (V.ref a2), some (V.int z_which), some (V.int z_count), some v_table, some (V.int x1.1), some (V.ref L2), some (V.int (x1.1 % (x2.length : Int))), some (V.int ((x1.1 / 8) % (x3.length : Int))), some (V.int s.1), none, none]) ?_ ?_) <;> clear h
  · intro nx1 kk1 h
    with_reducible refine DK.st_if ?_
    dl_open
    dl_open
    refine st_div (divS (by decide)) ?_
    dl_open
    refine st_mod (by decide) ?_
    dl_open
    dl_open
    (refine brP h ?_ ?_) <;> clear h <;> intro c1 h
    · dl_open
      dl_open
      dl_open
      exact kk1 (0, x2) _ _ ⟨F4, Stp.refl (by lcg_src), by kbo_bools, rfl⟩ h.onx
    · dl_open
      dl_open
      (with_reducible refine cutI h (fun (s : (List (List Int))) σ' H' => ∃ F', Stp (L2 :: rs1) F4 H4 F' H' ∧ OwnN F' H' L2 rs1 Dat.int s ∧ σ' = [some v_script, some (V.ref a2), some (V.int z_which), some (V.int z_count), some v_table, some (V.int x1.1), some (V.ref L2), some (V.int (x1.1 % (x2.length : Int))), some (V.int ((x1.1 / 8) % (x3.length : Int))), some (V.int z_count), none, none]) ?_ ?_) <;> clear h
      · intro nx2 kk2 h
        with_reducible refine DK.st_if ?_
        dl_open
        dl_open
        (refine cutT F4 H4 h ?_ ?_) <;> clear h
        · intro Qkk3 kk3 h
          refine st_and ?_
          dl_open
          refine st_div (divS (by decide)) ?_
          dl_open
          refine st_mod (by decide) ?_
          dl_open
          dl_open
          (refine brP h ?_ ?_) <;> clear h <;> intro c2 h
          · dl_open
            dl_open
            refine sm_lenN (by kbo_bools : OwnN F4 H4 L2 rs1 Dat.int x2) ?_
            dl_open
            dl_open
            exact kk3 _ F4 H4 (by kas_types) h
          · try dl_open
            exact kk3 _ F4 H4 (by kas_types) h
        intro b1 F5 H5 s5 h
        dl_open
        (refine brB h ?_ ?_) <;> clear h <;> intro c3 h
        · dl_open
          dl_open
          skip
          dl_open
          replace h := h.ix
          obtain ⟨x4, hx2, h⟩ := h
          refine sm_rowN (by kbo_bools : OwnN F5 H5 L2 rs1 Dat.int x2) hx2 ?_
          intro m2 L4 w4 hn2 hr2 o5 r5
          dl_open
          refine ⟨ty_own (by kat_tups : Own F5 H5 L4 _), ?_⟩
          dl_open
          replace h := h.g
          obtain ⟨g9, h⟩ := h
          refine sm_app (e := Dat.int) (x := 1) (F := F5) (by lcg_src) (by kat_tups) (by nest_cls) (by kqd_all) g9 ?_
          intro w5 F6 H6 s6 o6 r6
          obtain ⟨s7, o7⟩ := OwnN.chg (by kbo_bools : OwnN F5 H5 L2 rs1 Dat.int x2) hn2 hr2 s6 o6 r6
          clear s6 o6 r6
          dl_open
          dl_open
          exact kk2 (rowSet x2 (x1.1 % (x2.length : Int)) (x4 ++ [1])) _ _ ⟨F6, by kas_types, by kbo_bools, rfl⟩ h.onx
        · dl_open
          dl_open
          (with_reducible refine cutI h (fun (s : (List (List Int))) σ' H' => ∃ F', Stp (L2 :: rs1) F5 H5 F' H' ∧ OwnN F' H' L2 rs1 Dat.int s ∧ σ' = [some v_script, some (V.ref a2), some (V.int z_which), some (V.int z_count), some v_table, some (V.int x1.1), some (V.ref L2), some (V.int (x1.1 % (x2.length : Int))), some (V.int ((x1.1 / 8) % (x3.length : Int))), some (V.int z_count), none, none]) ?_ ?_) <;> clear h
          · intro nx3 kk4 h
            with_reducible refine DK.st_if ?_
            dl_open
            dl_open
            (refine cutT F5 H5 h ?_ ?_) <;> clear h
            · intro Qkk5 kk5 h
              refine st_and ?_
              dl_open
              refine st_div (divS (by decide)) ?_
              dl_open
              refine st_mod (by decide) ?_
              dl_open
              dl_open
              (refine brP h ?_ ?_) <;> clear h <;> intro c4 h
              · dl_open
                dl_open
                dl_open
                exact kk5 _ F5 H5 (by kas_types) h
              · try dl_open
                exact kk5 _ F5 H5 (by kas_types) h
            intro b2 F7 H7 s8 h
            dl_open
            (refine brB h ?_ ?_) <;> clear h <;> intro c5 h
            · dl_open
              dl_open
              dl_open
              replace h := h.ix
              obtain ⟨x5, hx3, h⟩ := h
              refine sm_rowN (by kbo_bools : OwnN F7 H7 L2 rs1 Dat.int x2) hx3 ?_
              intro m3 L5 w6 hn3 hr3 o8 r7
              dl_open
              dl_open
              replace h := h.st
              obtain ⟨m4, hn4, h⟩ := h
              refine sm_set (e := Dat.int) (F := F7) (by lcg_src) (by kat_tups) (by nest_cls) (by kqd_all) hn4 ?_
              intro w7 F8 H8 s9 o9 r8
              generalize List.set x5 m4 0 = x6 at h r8
              obtain ⟨s10, o10⟩ := OwnN.chg (by kbo_bools : OwnN F7 H7 L2 rs1 Dat.int x2) hn3 hr3 s9 o9 r8
              clear s9 o9 r8
              dl_open
              dl_open
              exact kk4 (rowSet x2 (x1.1 % (x2.length : Int)) x6) _ _ ⟨F8, by kas_types, by kbo_bools, rfl⟩ h.onx
            · dl_open
              dl_open
              dl_open
              refine st_div (divS (by decide)) ?_
              dl_open
              refine st_mod (by decide) ?_
              dl_open
              dl_open
              dl_open
              replace h := h.ix
              obtain ⟨x7, hx4, h⟩ := h
              refine sm_rowN (by kbo_bools : OwnN F7 H7 L2 rs1 Dat.int x2) hx4 ?_
              intro m5 L6 w8 hn5 hr4 o11 r9
              dl_open
              dl_open
              replace h := h.st
              obtain ⟨m6, hn6, h⟩ := h
              refine sm_set (e := Dat.int) (F := F7) (by lcg_src) (by kat_tups) (by nest_cls) (by kqd_all) hn6 ?_
              intro w9 F9 H9 s11 o12 r10
              generalize List.set x7 m6 ((z_count + 1) + ((x1.1 / 256) % 9)) = x8 at h r10
              obtain ⟨s12, o13⟩ := OwnN.chg (by kbo_bools : OwnN F7 H7 L2 rs1 Dat.int x2) hn5 hr4 s11 o12 r10
              clear s11 o12 r10
              dl_open
              dl_open
              exact kk4 (rowSet x2 (x1.1 % (x2.length : Int)) x8) _ _ ⟨F9, by kas_types, by kbo_bools, rfl⟩ h.onx
          · rintro x9 σ_ H10 ⟨F10, s13, o14, rfl⟩ h
            try dsimp only at h
            dl_open
            exact kk2 x9 _ _ ⟨F10, by kas_types, by kbo_bools, rfl⟩ h.onx
      · rintro x10 σ_ H11 ⟨F11, s14, o15, rfl⟩ h
        try dsimp only at h
        dl_open
        exact kk1 (z_count, x10) _ _ ⟨F11, by kas_types, by kbo_bools, rfl⟩ h.onx
  · rintro ⟨x11, x12⟩ σ_ H12 ⟨F12, s15, o16, rfl⟩ h
    try dsimp only at h
    dl_open
    obtain ⟨F13, l1, r11, ht1⟩ := lendN (by lcg_src : Same F12 H12) (by kbo_bools : OwnN F12 H12 L2 rs1 Dat.int x12)
    refine ⟨_, _, rfl, F13, x11, x12, l1.inn, rfl, r11, h.b.mono2 ?_ (fun c_ l_ hx_ Fx_ Hx_ dx_ sx_ ex_ => by obtain ⟨Fy_, sy_, ey_⟩ := l1.ebk sx_ ex_; exact hx_ a2 rfl Fy_ Hx_ dx_ (by kas_types) ey_)⟩
    clear h
    intro x13 h F14 H13 s16
    have s17 := l1.back s16
    generalize thaw F12 F14 = F15 at s17
    dl_open
    dl_open
    with_reducible refine DK.st_if ?_
    dl_open
    dl_open
    refine ⟨_, _, rfl, F15, z_which, x13, by lcg_src, rfl, rfl, h.b.mono2 ?_ (fun c_ l_ hx_ Fx_ Hx_ dx_ sx_ ex_ => by exact hx_ a2 rfl Fx_ Hx_ dx_ (by kas_types) ex_)⟩
    clear h
    intro x14 h F16 H14 s18 u5 r12
    dl_open
    refine newL (by simp) (F := F16) (by lcg_src) (ds := [Dat.str "picture", Dat.str "tile"]) (by nest_cls) ?_
    intro u6 F17 H15 s19 r13
    have r13 : RD F17 ((eL Dat.str) (["picture", "tile"] : List Str)) u6 := r13
    dl_open
    replace h := h.ix
    obtain ⟨x15, hx5, h⟩ := h
    refine sm_ixL (e := Dat.str) (F := F17) (by lcg_src) (by kqd_all) hx5 ?_
    intro u7 r14
    cases (show u7 = (V.str x15) from r14)
    dl_open
    refine newT (by simp) (F := F17) (by lcg_src) (ds := [Dat.str "no", Dat.str x15]) (by nest_cls) ?_
    intro u8 F18 H16 s20 r15
    have r15 : RD F18 ((eP Dat.str Dat.str) ("no", x15)) u8 := r15
    dl_open
    replace h := h.som
    obtain ⟨y2, hy1, h⟩ := h
    have r16 : RD F18 ((eP Dat.str Dat.str) ("no", y2)) u5 := rd_eE3c hy1 (by kqd_all : RD F18 ((eE3 "told" (eU (e_Picture K) (e_Tile K) (eL Dat.int)) "text" Dat.int "no" Dat.str) x14) u5)
    replace h := h.g
    obtain ⟨g14, h⟩ := h
    replace h := h.g
    obtain ⟨g15, h⟩ := h
    refine sm_neW (a := "no") (b := y2) (c := "no") (d := x15) (F := F18) (by lcg_src) (by kqd_all) (by kqd_all) (by decide +kernel) g14 (by decide +kernel) g15 ?_
    dl_open
    (refine brNB h ?_ ?_) <;> clear h <;> intro c6 h
    · dl_open
      dl_open
      dl_open
      exact h a2 rfl F18 H16 (by kas_types) _ (by kat_tups) (by nest_cls)
    · dl_open
      dl_open
      dl_open
      replace h := h.g
      obtain ⟨g16, h⟩ := h
      refine sm_addS g16 ?_
      dl_open
      refine ⟨_, _, rfl, F18, z_which, (x13 ++ "\n"), by lcg_src, rfl, rfl, h.b.mono2 ?_ (fun c_ l_ hx_ Fx_ Hx_ dx_ sx_ ex_ => by exact hx_ a2 rfl Fx_ Hx_ dx_ (by kas_types) ex_)⟩
      clear h
      intro x16 h F19 H17 s21 u10 r17
      dl_open
      refine sm_lenN (by kbo_bools : OwnN F19 H17 L2 rs1 Dat.int x12) ?_
      dl_open
      dl_open
      refine newT (by simp) (F := F19) (by lcg_src) (ds := [Dat.str "text", Dat.int ((x12.length : Int) + 1)]) (by nest_cls) ?_
      intro u11 F20 H18 s22 r18
      have r18 : RD F20 ((eP Dat.str Dat.int) ("text", ((x12.length : Int) + 1))) u11 := r18
      dl_open
      replace h := h.som
      obtain ⟨y3, hy2, h⟩ := h
      have r19 : RD F20 ((eP Dat.str Dat.int) ("text", y3)) u10 := rd_eE3b hy2 (by kqd_all : RD F20 ((eE3 "told" (eU (e_Picture K) (e_Tile K) (eL Dat.int)) "text" Dat.int "no" Dat.str) x16) u10)
      replace h := h.g
      obtain ⟨g17, h⟩ := h
      refine ⟨_, _, rfl, F20, ((eP Dat.str Dat.int) ("text", y3)), ((eP Dat.str Dat.int) ("text", ((x12.length : Int) + 1))), (by lcg_src), (by kqd_all), (by kqd_all), ((DeE.eP DeE.str DeE.int).le _ (by decide)), ((DeE.eP DeE.str DeE.int).le _ (by decide)), (by decide), g17, (NnE.eP NnE.str NnE.int) _, ?_⟩
      intro F21 H19 s23
      dl_open
      exact h a2 rfl F21 H19 (by kas_types) _ (by kat_tups) (by nest_cls)
theorem ok_law_none (T : TX K mg) (c_law_next : CalOk P w K mg base "_law_next" 1 (["_law_script", "_law_at"] : List Str) (sp_law_next K)) (c_law_text : CalOk P w K mg base "_law_text" 1 (["_law_first", "_law_rows"] : List Str) (sp_law_text K)) (c_law_told : CalOk P w K mg base "_law_told" 6 (["_law_which", "_law_text_here"] : List Str) (sp_law_told K)) (c_law_same : CalOk P w K mg base "_law_same" 9 (["_law_found", "_law_due"] : List Str) (sp_law_same K)) : CalOk P w K mg base "_law_none" 10 (["_law_script", "_law_at", "_law_which", "_law_count", "_law_table"] : List Str) (sp_law_none K) :=
  T.cal 21 49 (d := d_law_none) rfl rfl rfl rfl rfl sc_law_none (len_law_none) (fun _ _ _ _ _ _ _ us hl => match us, hl with | [_, _, _, _, _], _ => rfl) (fun cdv A outer s H vs Q E hr h => ⟨t_law_none K E, (by exact (pss_cons (ps_set (i := 5) sc_law_none.nd rfl (by first | exact Or.inl rfl | exact Or.inr rfl) (pe_callC c_law_next (hr.mono (by decide)) rfl (L2N.passes_call (L2N.takes_of rfl rfl rfl rfl) (fun _ _ _ _ h => h)) (pa_cons (pv 0) (pa_cons (pv 1) pa_nil))))
  (pss_cons (ps_setLc (i := 6) (own := [("_law_line", 11)]) (g := (gName 11)) (tt := tYes) (te := (tCB (rListU K) (tCons (tVar 11) tNil)))  (by rfl) sc_law_none.nd rfl rfl (sw_true rfl rfl rfl (by decide +kernel)) (pi_seq (pv 4)) (blkOk_by (own := [("_law_line", 11)]) (by rfl)) (fun _ _ _ _ _ => (pg_name (i := 11) sc_law_none.nd rfl (by first | exact Or.inl rfl | exact Or.inr rfl))) (fun _ _ _ _ _ => pts_nil) (fun _ _ _ _ _ => (pe_callTy call_listU (by rfl) (T.free 13) (by decide +kernel) (pa_cons (pv 11) pa_nil))))
  (pss_cons (ps_set (i := 7) sc_law_none.nd rfl (by first | exact Or.inl rfl | exact Or.inr rfl) (pe_op op_mod (pv 5) (pe_callB call_lenU (by rfl) (T.free 0) (by decide +kernel) (pa_cons (pv 6) pa_nil))))
  (pss_cons (ps_set (i := 8) sc_law_none.nd rfl (by first | exact Or.inl rfl | exact Or.inr rfl) (pe_op op_mod (pe_op op_divU (pv 5) pe_int) (pe_callB call_lenU (by rfl) (T.free 0) (by decide +kernel) (pa_cons (pe_ix ix_U (pv 6) pe_int (fun _ _ => rfl)) pa_nil))))
  (pss_cons (ps_set (i := 9) sc_law_none.nd rfl (by first | exact Or.inl rfl | exact Or.inr rfl) (pv 3))
  (pss_cons (ps_if (pt_cmpR (op_eqU hr.units) (pe_op op_mod (pe_op op_divU (pv 5) pe_int) pe_int) pe_int (nomark _)) (pss_one (ps_set (i := 9) sc_law_none.nd rfl (by first | exact Or.inl rfl | exact Or.inr rfl) pe_int)) (pss_one (ps_if (PW.pt (pw_and (pt_cmpR (op_eqU hr.units) (pe_op op_mod (pe_op op_divU (pv 5) pe_int) pe_int) pe_int (nomark _)) (pw_and1 (pt_cmpR op_gt (pe_callB call_lenU (by rfl) (T.free 0) (by decide +kernel) (pa_cons (pv 6) pa_nil)) pe_int (nomark _))))) (pss_one (ps_expr (pe_bm PySem.F.plainAttrs_list PySem.F.slot_list_append PySem.F.type_list_append mt_append (pe_ix ix_U (pv 6) (pv 7) (fun _ _ => rfl)) (pa_cons pe_int pa_nil)))) (pss_one (ps_if (PW.pt (pw_and (pt_cmpR (op_eqU hr.units) (pe_op op_mod (pe_op op_divU (pv 5) pe_int) pe_int) pe_int (nomark _)) (pw_and1 (pt_cmpR (op_eqU hr.units) (pv 2) pe_int (nomark _))))) (pss_one (ps_asg pe_int (pg_sub (pe_ix ix_U (pv 6) (pv 7) (fun _ _ => rfl)) (pv 8) set_list))) (pss_one (ps_asg (pe_op op_addU (pe_op op_addU (pv 3) pe_int) (pe_op op_mod (pe_op op_divU (pv 5) pe_int) pe_int)) (pg_sub (pe_ix ix_U (pv 6) (pv 7) (fun _ _ => rfl)) (pv 8) set_list))))))))
  (pss_cons (ps_set (i := 10) sc_law_none.nd rfl (by first | exact Or.inl rfl | exact Or.inr rfl) (pe_callC c_law_text (hr.mono (by decide)) rfl (L2N.passes_call (L2N.takes_of rfl rfl rfl rfl) (fun _ _ _ _ h => h)) (pa_cons (pv 9) (pa_cons (pv 6) pa_nil))))
  (pss_cons (ps_if (pt_cmpR (op_neU hr.units) (pe_callC c_law_told (hr.mono (by decide)) rfl (L2N.passes_call (L2N.takes_of rfl rfl rfl rfl) (fun _ _ _ _ h => h)) (pa_cons (pv 2) (pa_cons (pv 10) pa_nil))) (pe_tup (pa_cons pe_str (pa_cons (pe_ix ix_U (pe_lst (pa_cons pe_str (pa_cons pe_str pa_nil))) (pv 2) (fun _ _ => rfl)) pa_nil))) (nomark _)) (pss_one (ps_ret pe_bl)) pss_nil)
  (pss_one (ps_ret (pe_callC c_law_same (hr.mono (by decide)) rfl (L2N.passes_call (L2N.takes_of rfl rfl rfl rfl) (fun _ _ _ _ h => h)) (pa_cons (pe_callC c_law_told (hr.mono (by decide)) rfl (L2N.passes_call (L2N.takes_of rfl rfl rfl rfl) (fun _ _ _ _ h => h)) (pa_cons (pv 2) (pa_cons (pe_op op_addU (pv 10) pe_str) pa_nil))) (pa_cons (pe_tup (pa_cons pe_str (pa_cons (pe_op op_addU (pe_callB call_lenU (by rfl) (T.free 0) (by decide +kernel) (pa_cons (pv 6) pa_nil)) pe_int) pa_nil))) pa_nil)))))))))))))), pure_law_none T vs H Q E h⟩)
end
end Dot
namespace Dot
open PySem PySem.Spec PyProof.Rows L2 DK
def m_law_one (z_script : List Int) (z_at : (List Int)) : Rs (Bool × (List Int)) :=
(m_law_next z_script z_at).bnd fun x1 =>
(m_law_most z_script x1.2).bnd fun x2 =>
(m_law_tile_rows z_script x2.2 x2.1 (1 + ((x1.1 / 3) % 4)) (1 + ((x1.1 / 12) % 5))).bnd fun x3 =>
(m_law_text x2.1 x3.1).bnd fun x4 =>
Rs.thn ((if (x1.1 % 3) = 2 then (grd (Str.length x4 ≤ 1000000) <| (ixR (Txt.split x4 "\n") 1).bnd fun x5 =>
.ok (.nx x5)) else (.ok (.nx x4)) : (Rs (Ctl (Str) (Bool × (List Int)))))) (fun x6 =>
grd (Str.length x6 ≤ 1000000) <| Rs.thn (grd (rngOk 0 3 = true) <| forR (R := (Bool × (List Int))) (fun (x7 : (List Int)) (y1 : Int) =>
(m_law_rows_bad z_script x7 (x1.1 % 3) (Txt.split x6 "\n")).bnd fun x8 =>
if x8.1 = true then (.ok (.nx x8.2)) else (.ok (.rt (false, x8.2)))) (rngI 0 3) x3.2) (fun x9 =>
(m_law_rows_more z_script x9 (x1.1 % 3) (Txt.split x6 "\n")).bnd fun x10 =>
if x10.1 = true then (Rs.bnd (if (x1.1 % 3) < 2 then ((m_law_none z_script x10.2 (x1.1 % 3) x2.1 x3.1).bnd fun x12 =>
.ok ((!x12.1), x12.2)) else (.ok (false, x10.2)) : Rs (Bool × List Int)) fun p1 =>
if p1.1 = true then (.ok ((false, p1.2))) else ((m_law_told (x1.1 % 3) x6).bnd fun x13 =>
if (x1.1 % 3) = 2 then ((ixR x3.1 0).bnd fun x14 =>
somR (eE3a x13) fun y2 =>
somR (eE3c y2) fun y3 =>
grd (wid ((eP Dat.str (eL Dat.int)) ("told", y3)) ≤ 1000000) <| .ok (((sameD ((eP Dat.str (eL Dat.int)) ("told", y3)) ((eP Dat.str (eL Dat.int)) ("told", x14))), p1.2))) else (if (eE30 "told" "text" "no" x13) = "told" then (Rs.bnd (Rs.bnd (if (x1.1 % 3) = 0 then (somR (eE3a x13) fun y4 =>
somR (eE3a ("told", y4).2) fun y5 =>
.ok (!true)) else (.ok false) : Rs Bool) fun b3 =>
if b3 = true then (.ok true) else (Rs.bnd (if (x1.1 % 3) = 1 then (somR (eE3a x13) fun y6 =>
somR (eE3b ("told", y6).2) fun y7 =>
.ok (!true)) else (.ok false) : Rs Bool) fun b4 =>
.ok (b4)) : Rs Bool) fun b2 =>
if b2 = true then (.ok ((false, p1.2))) else (somR (eE3a x13) fun y8 =>
somR (fldU (α := (Int × (List (List Int)))) (β := (Int × (List (List Int)))) (fun p_ => p_.2) (fun p_ => p_.2) ("told", y8).2) fun x15 =>
grd (x3.1.length ≤ 1000000) <| (mapR (fun (y9 : (List Int)) =>
 .ok (some y9)) x3.1).bnd fun x16 =>
grd (wid ((eT (eT Dat.int)) x15) ≤ 1000000) <| .ok (((sameD ((eT (eT Dat.int)) x15) ((eT (eT Dat.int)) x16)), p1.2)))) else (.ok ((false, p1.2)))))) else (.ok ((false, x10.2)))) (fun r => .ok r)) (fun r => .ok r)
def sp_law_one (K : PySem.W.Frag) : Sp := fun vs H Q E => ∃ (v_script v_at : V), vs = [v_script, v_at] ∧ (∃ (F : Hp) (z_script : List Int) (z_at : (List Int)), Same F H ∧ Scr K F v_script z_script ∧ (∃ (a : Addr) (ws : List V), v_at = .ref a ∧ Own F H a (.lst ws) ∧ RDs F (List.map Dat.int z_at) ws) ∧ Post (m_law_one z_script z_at) (fun r => ∀ a, v_at = .ref a → ∀ F' H', Stp [a] F H F' H' → ∀ ws, Own F' H' a (.lst ws) → RDs F' (List.map Dat.int r.2) ws → Q (V.bl r.1) H') (fun c l => ∀ a, v_at = .ref a → ∀ Fx Hx dx, Stp [a] F H Fx Hx → ExD Fx l dx → E (.ref (He.ga K c.nm)) dx Hx))
theorem len_law_one {K : PySem.W.Frag} : ∀ vs H Q E, sp_law_one K vs H Q E → vs.length = ((["_law_script", "_law_at"] : List Str)).length := fun vs H Q E h => by
  obtain ⟨_, _, rfl, _⟩ := h
  rfl
def t_law_one (K : PySem.W.Frag) (E : XK) : TS :=
  (tSeq (tAsg (tCall (sp_law_next K) [] E (tCons (tVar 0) (tCons (tVar 1) tNil))) (gName 2))
  (tSeq (tAsg (tOp rModI (tVar 2) (tC (.int 3))) (gName 3))
  (tSeq (tAsg (tCall (sp_law_most K) [] E (tCons (tVar 0) (tCons (tVar 1) tNil))) (gName 4))
  (tSeq (tAsg (tCall (sp_law_tile_rows K) [] E (tCons (tVar 0) (tCons (tVar 1) (tCons (tVar 4) (tCons (tOp (rAddU K) (tC (.int 1)) (tOp rModI (tOp rDivU (tVar 2) (tC (.int 3))) (tC (.int 4)))) (tCons (tOp (rAddU K) (tC (.int 1)) (tOp rModI (tOp rDivU (tVar 2) (tC (.int 12))) (tC (.int 5)))) tNil)))))) (gName 5))
  (tSeq (tAsg (tCall (sp_law_text K) [] E (tCons (tVar 4) (tCons (tVar 5) tNil))) (gName 6))
  (tSeq (tIfS (tTest (tOp (rEqU K) (tVar 3) (tC (.int 2)))) (tAsg (tOp (rIxU K) (tM1 rSplitT (tVar 6) (tC (.str "\n"))) (tC (.int 1))) (gName 6)) tNext)
  (tSeq (tAsg (tM1 rSplitT (tVar 6) (tC (.str "\n"))) (gName 7))
  (tSeq (tFor (iRng1 (tCons (tC (.int 3)) tNil)) (gName 8) (tIfS (tNot (tB (tCall (sp_law_rows_bad K) [] E (tCons (tVar 0) (tCons (tVar 1) (tCons (tVar 3) (tCons (tVar 7) tNil))))))) (tRet (tC (.bl false))) tNext))
  (tSeq (tIfS (tNot (tB (tCall (sp_law_rows_more K) [] E (tCons (tVar 0) (tCons (tVar 1) (tCons (tVar 3) (tCons (tVar 7) tNil))))))) (tRet (tC (.bl false))) tNext)
  (tSeq (tIfS (tAnd (tTest (tOp rLtI (tVar 3) (tC (.int 2)))) (tNot (tB (tCall (sp_law_none K) [] E (tCons (tVar 0) (tCons (tVar 1) (tCons (tVar 3) (tCons (tVar 4) (tCons (tVar 5) tNil))))))))) (tRet (tC (.bl false))) tNext)
  (tSeq (tAsg (tCall (sp_law_told K) [] E (tCons (tVar 3) (tCons (tVar 6) tNil))) (gName 9))
  (tSeq (tIfS (tTest (tOp (rEqU K) (tVar 3) (tC (.int 2)))) (tRet (tCall (sp_law_same K) [] E (tCons (tVar 9) (tCons (tTup (tCons (tC (.str "told")) (tCons (tOp (rIxU K) (tVar 5) (tC (.int 0))) tNil))) tNil)))) tNext)
  (tSeq (tIfS (tTest (tOp (rNeU K) (tOp (rIxU K) (tVar 9) (tC (.int 0))) (tC (.str "told")))) (tRet (tC (.bl false))) tNext)
  (tSeq (tIfS (tOr (tAnd (tTest (tOp (rEqU K) (tVar 3) (tC (.int 0)))) (tNot (tB (tCB (rIsi K) (tCons (tOp (rIxU K) (tVar 9) (tC (.int 1))) (tCons (tC (.ref (He.ga K "Picture"))) tNil)))))) (tAnd (tTest (tOp (rEqU K) (tVar 3) (tC (.int 1)))) (tNot (tB (tCB (rIsi K) (tCons (tOp (rIxU K) (tVar 9) (tC (.int 1))) (tCons (tC (.ref (He.ga K "Tile"))) tNil))))))) (tRet (tC (.bl false))) tNext)
  (tRet (tCall (sp_law_same K) [] E (tCons (tFld K (tOp (rIxU K) (tVar 9) (tC (.int 1))) "rows") (tCons (tCB (rTupU K) (tCons (tLc (iSeq K (tVar 5)) (gName 10) tYes (tCB (rTupU K) (tCons (tVar 10) tNil)) [10]) tNil)) tNil))))))))))))))))))
section
variable {P : Program} {w : World} {K : PySem.W.Frag} {mg : Str → Option Value} {base : Heap}
theorem pure_law_one (T : TX K mg) (vs : List V) (H : Hp) (Q : VK) (E : XK) (h : sp_law_one K vs H Q E) : t_law_one K E { nx := fun _ H' => Q .non H', rt := Q } (start n_law_one vs) H := by
  obtain ⟨v_script, v_at, rfl, h⟩ := h
  change t_law_one K E _ [some v_script, some v_at, none, none, none, none, none, none, none, none, none] H
  unfold t_law_one
  obtain ⟨F, z_script, z_at, e0, hS1, ⟨a2, w_2, rfl, ho2, hr2⟩, h⟩ := h
  unfold m_law_one at h
  dl_open
  refine ⟨_, _, rfl, F, z_script, z_at, by lcg_src, (by ktu_offI), ⟨a2, w_2, rfl, (by kat_tups), (by nest_cls)⟩, h.b.mono2 ?_ (fun c_ l_ hx_ a_ ha_ Fx_ Hx_ dx_ sx_ ex_ => by cases ha_; exact hx_ a2 rfl Fx_ Hx_ dx_ (by kas_types) ex_)⟩
  clear h
  intro x1 h a_ ha_
  cases ha_
  intro F1 H1 s1 w1 o1 r1
  dl_open
  dl_open
  refine st_mod (by decide) ?_
  dl_open
  dl_open
  refine ⟨_, _, rfl, F1, z_script, x1.2, by lcg_src, (by ktu_offI), ⟨a2, w1, rfl, (by kat_tups), (by nest_cls)⟩, h.b.mono2 ?_ (fun c_ l_ hx_ a_ ha_ Fx_ Hx_ dx_ sx_ ex_ => by cases ha_; exact hx_ a2 rfl Fx_ Hx_ dx_ (by kas_types) ex_)⟩
  clear h
  intro x2 h a_ ha_
  cases ha_
  intro F2 H2 s2 w2 o2 r2
  dl_open
  dl_open
  refine st_div (divS (by decide)) ?_
  dl_open
  refine st_mod (by decide) ?_
  dl_open
  dl_open
  refine st_div (divS (by decide)) ?_
  dl_open
  refine st_mod (by decide) ?_
  dl_open
  dl_open
  refine ⟨_, _, _, _, _, rfl, F2, z_script, x2.2, x2.1, (1 + ((x1.1 / 3) % 4)), (1 + ((x1.1 / 12) % 5)), by lcg_src, (by ktu_offI), ⟨a2, w2, rfl, (by kat_tups), (by nest_cls)⟩, rfl, rfl, rfl, h.b.mono2 ?_ (fun c_ l_ hx_ a_ ha_ Fx_ Hx_ dx_ sx_ ex_ => by cases ha_; exact hx_ a2 rfl Fx_ Hx_ dx_ (by kas_types) ex_)⟩
  clear h
  intro x3 h a_ ha_
  cases ha_
  intro F3 H3 s3 w3 o3 r3 L1 w4 n1 o4 r4
  obtain ⟨F4, s4, r5⟩ := own_fz (F := F3) s3.inn o4 r4
  dl_open
  dl_open
  refine ⟨_, _, rfl, F4, x2.1, x3.1, by lcg_src, rfl, (by kqd_all), h.b.mono2 ?_ (fun c_ l_ hx_ Fx_ Hx_ dx_ sx_ ex_ => by exact hx_ a2 rfl Fx_ Hx_ dx_ (by kas_types) ex_)⟩
  clear h
  intro x4 h F5 H4 s5
  dl_open
  dl_open
  (with_reducible refine cutI h (fun (s : Str) σ' H' => ∃ F', Stp [] F5 H4 F' H' ∧ σ' = [some v_script, some (V.ref a2), some (V.int x1.1), some (V.int (x1.1 % 3)), some (V.int x2.1), some (V.ref L1), some (V.str s), none, none, none, none]) ?_ ?_) <;> clear h
  · intro nx1 kk1 h
    with_reducible refine DK.st_if ?_
    dl_open
    dl_open
    dl_open
    (refine brP h ?_ ?_) <;> clear h <;> intro c1 h
    · dl_open
      dl_open
      refine st_m1 ?_
      dl_open
      dl_open
      refine sm_m1 ?_
      dl_open
      dl_open
      replace h := h.g
      obtain ⟨g6, h⟩ := h
      refine sm_split (F := F5) (by lcg_src) (by decide) g6 ?_
      refine KOwn.fz ?_
      intro u5 F6 H5 s6 r6
      have r6 : RD F6 ((eL Dat.str) (Txt.split x4 "\n")) u5 := r6
      dl_open
      replace h := h.ix
      obtain ⟨x5, hx1, h⟩ := h
      refine sm_ixL (e := Dat.str) (F := F6) (by lcg_src) (by kqd_all) hx1 ?_
      intro u6 r7
      cases (show u6 = (V.str x5) from r7)
      dl_open
      dl_open
      exact kk1 x5 _ _ ⟨F6, by kas_types, rfl⟩ h.onx
    · dl_open
      dl_open
      exact kk1 x4 _ _ ⟨F5, Stp.refl (by lcg_src), rfl⟩ h.onx
  · rintro x6 σ_ H6 ⟨F7, s7, rfl⟩ h
    try dsimp only at h
    dl_open
    refine st_m1 ?_
    dl_open
    dl_open
    refine sm_m1 ?_
    dl_open
    dl_open
    replace h := h.g
    obtain ⟨g7, h⟩ := h
    refine sm_split (F := F7) (by lcg_src) (by decide) g7 ?_
    refine KOwn.fz ?_
    intro u7 F8 H7 s8 r8
    have r8 : RD F8 ((eL Dat.str) (Txt.split x6 "\n")) u7 := r8
    dl_open
    dl_open
    (with_reducible refine cutF h (fun (s : (List Int)) σ' H' => ∃ F', ∃ (oj_1 : Option V) (wj_0 : List V), Stp [a2] F8 H7 F' H' ∧ Own F' H' a2 (.lst wj_0) ∧ RDs F' (List.map Dat.int s) wj_0 ∧ σ' = [some v_script, some (V.ref a2), some (V.int x1.1), some (V.int (x1.1 % 3)), some (V.int x2.1), some (V.ref L1), some (V.str x6), some u7, oj_1, none, none]) ?_ ?_) <;> clear h
    · intro nx2 kk2 h
      refine st_for ?_
      dl_open
      dl_open
      replace h := h.g
      obtain ⟨g8, h⟩ := h
      refine fr_R1 g8 h (fun (s : (List Int)) σ' H' => ∃ F', ∃ (oj_1 : Option V) (wj_0 : List V), Stp [a2] F8 H7 F' H' ∧ Own F' H' a2 (.lst wj_0) ∧ RDs F' (List.map Dat.int s) wj_0 ∧ σ' = [some v_script, some (V.ref a2), some (V.int x1.1), some (V.int (x1.1 % 3)), some (V.int x2.1), some (V.ref L1), some (V.str x6), some u7, oj_1, none, none]) ⟨F8, _, _, Stp.refl (by lcg_src), by kat_tups, by nest_cls, rfl⟩ ?_ (by intro s_k σ_k H_k q_k p_k; replace p_k := Ctl.nx_of p_k; exact kk2 s_k σ_k H_k q_k p_k)
      clear h
      rintro y1 rest1 x7 σ_ H8 ⟨F9, o_1, w5, s9, o5, r10, rfl⟩ h
      try dsimp only at h
      dl_open
      dl_open
      with_reducible refine DK.st_if ?_
      dl_open
      dl_open
      dl_open
      refine ⟨_, _, _, _, rfl, F9, z_script, x7, (x1.1 % 3), (Txt.split x6 "\n"), by lcg_src, (by ktu_offI), ⟨a2, w5, rfl, (by kat_tups), (by nest_cls)⟩, rfl, (by kqd_all), h.b.mono2 ?_ (fun c_ l_ hx_ a_ ha_ Fx_ Hx_ dx_ sx_ ex_ => by cases ha_; exact hx_ a2 rfl Fx_ Hx_ dx_ (by kas_types) ex_)⟩
      clear h
      intro x8 h a_ ha_
      cases ha_
      intro F10 H9 s10 w6 o6 r11
      dl_open
      dl_open
      (refine brNB h ?_ ?_) <;> clear h <;> intro c2 h
      · dl_open
        dl_open
        dl_open
        exact h a2 rfl F10 H9 (by kas_types) _ (by kat_tups) (by nest_cls)
      · dl_open
        dl_open
        exact ⟨x8.2, ⟨F10, _, _, by kas_types, by kat_tups, by nest_cls, rfl⟩, h.onx⟩
    · rintro x9 σ_ H10 ⟨F11, o_2, w7, s11, o7, r12, rfl⟩ h
      try dsimp only at h
      dl_open
      with_reducible refine DK.st_if ?_
      dl_open
      dl_open
      dl_open
      refine ⟨_, _, _, _, rfl, F11, z_script, x9, (x1.1 % 3), (Txt.split x6 "\n"), by lcg_src, (by ktu_offI), ⟨a2, w7, rfl, (by kat_tups), (by nest_cls)⟩, rfl, (by kqd_all), h.b.mono2 ?_ (fun c_ l_ hx_ a_ ha_ Fx_ Hx_ dx_ sx_ ex_ => by cases ha_; exact hx_ a2 rfl Fx_ Hx_ dx_ (by kas_types) ex_)⟩
      clear h
      intro x10 h a_ ha_
      cases ha_
      intro F12 H11 s12 w8 o8 r13
      dl_open
      dl_open
      (refine brNB h ?_ ?_) <;> clear h <;> intro c3 h
      · dl_open
        dl_open
        dl_open
        exact h a2 rfl F12 H11 (by kas_types) _ (by kat_tups) (by nest_cls)
      · dl_open
        dl_open
        with_reducible refine DK.st_if ?_
        dl_open
        dl_open
        (refine cutTW  Dat.int F12 H11 a2 h ?_ ?_) <;> clear h
        · intro Qkk3 kk3 h
          refine st_and ?_
          dl_open
          dl_open
          (refine brP h ?_ ?_) <;> clear h <;> intro c4 h
          · dl_open
            dl_open
            dl_open
            refine ⟨_, _, _, _, _, rfl, F12, z_script, x10.2, (x1.1 % 3), x2.1, x3.1, by lcg_src, (by ktu_offI), ⟨a2, w8, rfl, (by kat_tups), (by nest_cls)⟩, rfl, rfl, (by kqd_all), h.b.mono2 ?_ (fun c_ l_ hx_ a_ ha_ Fx_ Hx_ dx_ sx_ ex_ => by cases ha_; exact hx_ a2 rfl Fx_ Hx_ dx_ (by kas_types) ex_)⟩
            clear h
            intro x12 h a_ ha_
            cases ha_
            intro F14 H13 s14 w10 o10 r15
            dl_open
            dl_open
            exact kk3 _ _ _ F14 H13 (by kas_types) (by kat_tups) (by nest_cls) h
          · try dl_open
            exact kk3 _ _ _ F12 H11 (by kas_types) (by kat_tups) (by nest_cls) h
        intro b1 x11 w9 F13 H12 s13  o9 r14 h
        obtain ⟨p1, e_p1⟩ : ∃ p1, p1 = (b1, x11) := ⟨_, rfl⟩
        rw [← e_p1] at h
        obtain rfl : b1 = p1.1 := by rw [e_p1]
        obtain rfl : x11 = p1.2 := by rw [e_p1]
        clear e_p1
        dl_open
        (refine brB h ?_ ?_) <;> clear h <;> intro c5 h
        · dl_open
          dl_open
          dl_open
          exact h a2 rfl F13 H12 (by kas_types) _ (by kat_tups) (by nest_cls)
        · dl_open
          dl_open
          refine ⟨_, _, rfl, F13, (x1.1 % 3), x6, by lcg_src, rfl, rfl, h.b.mono2 ?_ (fun c_ l_ hx_ Fx_ Hx_ dx_ sx_ ex_ => by exact hx_ a2 rfl Fx_ Hx_ dx_ (by kas_types) ex_)⟩
          clear h
          intro x13 h F15 H14 s15 u13 r16
          dl_open
          dl_open
          with_reducible refine DK.st_if ?_
          dl_open
          dl_open
          dl_open
          (refine brP h ?_ ?_) <;> clear h <;> intro c6 h
          · dl_open
            dl_open
            dl_open
            replace h := h.ix
            obtain ⟨x14, hx2, h⟩ := h
            refine sm_ixL (e := (eL Dat.int)) (F := F15) (by lcg_src) (by kqd_all) hx2 ?_
            intro u14 r17
            have r17 : RD F15 ((eL Dat.int) x14) u14 := r17
            dl_open
            refine newT (by simp) (F := F15) (by lcg_src) (ds := [Dat.str "told", (eL Dat.int) x14]) (by nest_cls) ?_
            intro u15 F16 H15 s16 r18
            have r18 : RD F16 ((eP Dat.str (eL Dat.int)) ("told", x14)) u15 := r18
            dl_open
            replace h := h.som
            obtain ⟨y2, hy1, h⟩ := h
            have r19 : RD F16 ((eP Dat.str (eU (e_Picture K) (e_Tile K) (eL Dat.int))) ("told", y2)) u13 := rd_eE3a hy1 (by kqd_all : RD F16 ((eE3 "told" (eU (e_Picture K) (e_Tile K) (eL Dat.int)) "text" Dat.int "no" Dat.str) x13) u13)
            replace h := h.som
            obtain ⟨y3, hy2, h⟩ := h
            have r20 : RD F16 ((eP Dat.str (eL Dat.int)) ("told", y3)) u13 := rd_ePUc hy2 (by kqd_all : RD F16 ((eP Dat.str (eU (e_Picture K) (e_Tile K) (eL Dat.int))) ("told", y2)) u13)
            replace h := h.g
            obtain ⟨g9, h⟩ := h
            refine ⟨_, _, rfl, F16, ((eP Dat.str (eL Dat.int)) ("told", y3)), ((eP Dat.str (eL Dat.int)) ("told", x14)), (by lcg_src), (by kqd_all), (by kqd_all), ((DeE.eP DeE.str (DeE.eL DeE.int)).le _ (by decide)), ((DeE.eP DeE.str (DeE.eL DeE.int)).le _ (by decide)), (by decide), g9, (NnE.eP NnE.str (NnE.eL NnE.int)) _, ?_⟩
            intro F17 H16 s17
            dl_open
            exact h a2 rfl F17 H16 (by kas_types) _ (by kat_tups) (by nest_cls)
          · dl_open
            dl_open
            with_reducible refine DK.st_if ?_
            dl_open
            dl_open
            refine sm_ixE30 (s1 := "told") (e1 := (eU (e_Picture K) (e_Tile K) (eL Dat.int))) (s2 := "text") (e2 := Dat.int) (s3 := "no") (e3 := Dat.str) (y := x13) (F := F15) (by lcg_src) (by kqd_all) ?_
            dl_open
            refine st_neS ?_
            dl_open
            (refine brN h ?_ ?_) <;> clear h <;> intro c7 h
            · dl_open
              dl_open
              dl_open
              exact h a2 rfl F15 H14 (by kas_types) _ (by kat_tups) (by nest_cls)
            · dl_open
              dl_open
              with_reducible refine DK.st_if ?_
              dl_open
              dl_open
              (refine cutT F15 H14 h ?_ ?_) <;> clear h
              · intro Qkk4 kk4 h
                refine st_or ?_
                dl_open
                (refine cutT F15 H14 h ?_ ?_) <;> clear h
                · intro Qkk5 kk5 h
                  refine st_and ?_
                  dl_open
                  dl_open
                  (refine brP h ?_ ?_) <;> clear h <;> intro c8 h
                  · dl_open
                    dl_open
                    dl_open
                    replace h := h.som
                    obtain ⟨y4, hy3, h⟩ := h
                    have r21 : RD F15 ((eP Dat.str (eU (e_Picture K) (e_Tile K) (eL Dat.int))) ("told", y4)) u13 := rd_eE3a hy3 (by kqd_all : RD F15 ((eE3 "told" (eU (e_Picture K) (e_Tile K) (eL Dat.int)) "text" Dat.int "no" Dat.str) x13) u13)
                    dl_open
                    refine st_ixT (F := F15) (by lcg_src) (by kqd_all) (d := (eU (e_Picture K) (e_Tile K) (eL Dat.int)) ("told", y4).2) rfl ?_
                    intro u16 r22
                    have r22 : RD F15 ((eU (e_Picture K) (e_Tile K) (eL Dat.int)) ("told", y4).2) u16 := r22
                    dl_open
                    replace h := h.som
                    obtain ⟨y5, hy4, h⟩ := h
                    have r23 : RD F15 ((e_Picture K) y5) u16 := rd_eUa hy4 (by kqd_all : RD F15 ((eU (e_Picture K) (e_Tile K) (eL Dat.int)) ("told", y4).2) u16)
                    refine sm_iso (F := F15) (by lcg_src) (by kqd_all) (tx_cls_Picture T) (tx_ins_Picture T) (tx_isi_Picture_Picture T) ?_
                    dl_open
                    dl_open
                    exact kk5 _ F15 H14 (by kas_types) h
                  · try dl_open
                    exact kk5 _ F15 H14 (by kas_types) h
                intro b3 F19 H18 s19 h
                dl_open
                (refine brB h ?_ ?_) <;> clear h <;> intro c9 h
                · try dl_open
                  exact kk4 _ F19 H18 (by kas_types) h
                · dl_open
                  dl_open
                  (refine cutT F19 H18 h ?_ ?_) <;> clear h
                  · intro Qkk6 kk6 h
                    refine st_and ?_
                    dl_open
                    dl_open
                    (refine brP h ?_ ?_) <;> clear h <;> intro c10 h
                    · dl_open
                      dl_open
                      dl_open
                      replace h := h.som
                      obtain ⟨y6, hy5, h⟩ := h
                      have r24 : RD F19 ((eP Dat.str (eU (e_Picture K) (e_Tile K) (eL Dat.int))) ("told", y6)) u13 := rd_eE3a hy5 (by kqd_all : RD F19 ((eE3 "told" (eU (e_Picture K) (e_Tile K) (eL Dat.int)) "text" Dat.int "no" Dat.str) x13) u13)
                      dl_open
                      refine st_ixT (F := F19) (by lcg_src) (by kqd_all) (d := (eU (e_Picture K) (e_Tile K) (eL Dat.int)) ("told", y6).2) rfl ?_
                      intro u17 r25
                      have r25 : RD F19 ((eU (e_Picture K) (e_Tile K) (eL Dat.int)) ("told", y6).2) u17 := r25
                      dl_open
                      replace h := h.som
                      obtain ⟨y7, hy6, h⟩ := h
                      have r26 : RD F19 ((e_Tile K) y7) u17 := rd_eUb hy6 (by kqd_all : RD F19 ((eU (e_Picture K) (e_Tile K) (eL Dat.int)) ("told", y6).2) u17)
                      refine sm_iso (F := F19) (by lcg_src) (by kqd_all) (tx_cls_Tile T) (tx_ins_Tile T) (tx_isi_Tile_Tile T) ?_
                      dl_open
                      dl_open
                      exact kk6 _ F19 H18 (by kas_types) h
                    · try dl_open
                      exact kk6 _ F19 H18 (by kas_types) h
                  intro b4 F20 H19 s20 h
                  dl_open
                  exact kk4 _ F20 H19 (by kas_types) h
              intro b2 F18 H17 s18 h
              dl_open
              (refine brB h ?_ ?_) <;> clear h <;> intro c11 h
              · dl_open
                dl_open
                dl_open
                exact h a2 rfl F18 H17 (by kas_types) _ (by kat_tups) (by nest_cls)
              · dl_open
                dl_open
                dl_open
                replace h := h.som
                obtain ⟨y8, hy7, h⟩ := h
                have r27 : RD F18 ((eP Dat.str (eU (e_Picture K) (e_Tile K) (eL Dat.int))) ("told", y8)) u13 := rd_eE3a hy7 (by kqd_all : RD F18 ((eE3 "told" (eU (e_Picture K) (e_Tile K) (eL Dat.int)) "text" Dat.int "no" Dat.str) x13) u13)
                dl_open
                refine st_ixT (F := F18) (by lcg_src) (by kqd_all) (d := (eU (e_Picture K) (e_Tile K) (eL Dat.int)) ("told", y8).2) rfl ?_
                intro u18 r28
                have r28 : RD F18 ((eU (e_Picture K) (e_Tile K) (eL Dat.int)) ("told", y8).2) u18 := r28
                dl_open
                replace h := h.som
                obtain ⟨x15, hx3, h⟩ := h
                refine st_fldU (C1 := He.ga K "Picture") (C2 := He.ga K "Tile") (ns1 := fs_Picture) (ns2 := fs_Tile) (d1 := (fun p_ => [Dat.int p_.1, (eT (eT Dat.int)) p_.2])) (d2 := (fun p_ => [Dat.int p_.1, (eT (eT Dat.int)) p_.2])) (n1 := 1) (n2 := 1) (e := (eT (eT Dat.int))) (F := F18) hx3 (by lcg_src) (by kqd_all) (fun _ => rfl) (fun _ => rfl) (tx_cls_Picture T) (tx_cls_Tile T) (tx_noat_Picture_rows T) (tx_noat_Tile_rows T) (by decide) (by decide) (by decide) (by decide) (fun _ => rfl) (fun _ => rfl) ?_
                intro u19 r29
                have r29 : RD F18 ((eT (eT Dat.int)) x15) u19 := r29
                dl_open
                refine st_lc ?_
                dl_open
                refine st_iseqL ?_
                dl_open
                dl_open
                replace h := h.g
                obtain ⟨g10, h⟩ := h
                (refine lc_L (e := (eL Dat.int)) (e2 := (eT Dat.int)) (F := F18) (by kqd_all) (by lcg_src) g10 h.b ?_ ?_) <;> clear h
                · intro y9 u20 F21 H20 r30 s21 PN1 NY1 NN1 kY1 kN1 h
                  have r30 : RD F21 ((eL Dat.int) y9) u20 := r30
                  dl_open
                  dl_open
                  refine ⟨rfl, ?_⟩
                  dl_open
                  dl_open
                  refine st_tupL (F := F21) (ds := List.map Dat.int y9) (by lcg_src) (by kqd_all) ?_
                  intro u21 F22 H21 s22 r31
                  have r31 : RD F22 ((eT Dat.int) y9) u21 := r31
                  dl_open
                  exact kY1 _ _ F22 H21 (by kas_types) (by kqd_all) h
                intro L2 w11 x16 F23 H22 s23 n2 o11 r32 h
                obtain ⟨F24, s24, r33⟩ := own_fz (F := F23) s23.inn o11 r32
                dl_open
                refine st_tupL (F := F24) (ds := List.map (eT Dat.int) x16) (by lcg_src) (by kqd_all) ?_
                intro u22 F25 H23 s25 r34
                have r34 : RD F25 ((eT (eT Dat.int)) x16) u22 := r34
                dl_open
                replace h := h.g
                obtain ⟨g11, h⟩ := h
                refine ⟨_, _, rfl, F25, ((eT (eT Dat.int)) x15), ((eT (eT Dat.int)) x16), (by lcg_src), (by kqd_all), (by kqd_all), ((DeE.eT (DeE.eT DeE.int)).le _ (by decide)), ((DeE.eT (DeE.eT DeE.int)).le _ (by decide)), (by decide), g11, (NnE.eT (NnE.eT NnE.int)) _, ?_⟩
                intro F26 H24 s26
                dl_open
                exact h a2 rfl F26 H24 (by kas_types) _ (by kat_tups) (by nest_cls)
theorem ok_law_one (T : TX K mg) (c_law_next : CalOk P w K mg base "_law_next" 1 (["_law_script", "_law_at"] : List Str) (sp_law_next K)) (c_law_most : CalOk P w K mg base "_law_most" 2 (["_law_script", "_law_at"] : List Str) (sp_law_most K)) (c_law_tile_rows : CalOk P w K mg base "_law_tile_rows" 2 (["_law_script", "_law_at", "_law_count", "_law_tall", "_law_broad"] : List Str) (sp_law_tile_rows K)) (c_law_text : CalOk P w K mg base "_law_text" 1 (["_law_first", "_law_rows"] : List Str) (sp_law_text K)) (c_law_rows_bad : CalOk P w K mg base "_law_rows_bad" 10 (["_law_script", "_law_at", "_law_which", "_law_rows"] : List Str) (sp_law_rows_bad K)) (c_law_rows_more : CalOk P w K mg base "_law_rows_more" 10 (["_law_script", "_law_at", "_law_which", "_law_rows"] : List Str) (sp_law_rows_more K)) (c_law_none : CalOk P w K mg base "_law_none" 10 (["_law_script", "_law_at", "_law_which", "_law_count", "_law_table"] : List Str) (sp_law_none K)) (c_law_told : CalOk P w K mg base "_law_told" 6 (["_law_which", "_law_text_here"] : List Str) (sp_law_told K)) (c_law_same : CalOk P w K mg base "_law_same" 9 (["_law_found", "_law_due"] : List Str) (sp_law_same K)) : CalOk P w K mg base "_law_one" 11 (["_law_script", "_law_at"] : List Str) (sp_law_one K) :=
  T.cal 22 50 (d := d_law_one) rfl rfl rfl rfl rfl sc_law_one (len_law_one) (fun _ _ _ _ _ _ _ us hl => match us, hl with | [_, _], _ => rfl) (fun cdv A outer s H vs Q E hr h => ⟨t_law_one K E, (by exact (pss_cons (ps_set (i := 2) sc_law_one.nd rfl (by first | exact Or.inl rfl | exact Or.inr rfl) (pe_callC c_law_next (hr.mono (by decide)) rfl (L2N.passes_call (L2N.takes_of rfl rfl rfl rfl) (fun _ _ _ _ h => h)) (pa_cons (pv 0) (pa_cons (pv 1) pa_nil))))
  (pss_cons (ps_set (i := 3) sc_law_one.nd rfl (by first | exact Or.inl rfl | exact Or.inr rfl) (pe_op op_mod (pv 2) pe_int))
  (pss_cons (ps_set (i := 4) sc_law_one.nd rfl (by first | exact Or.inl rfl | exact Or.inr rfl) (pe_callC c_law_most (hr.mono (by decide)) rfl (L2N.passes_call (L2N.takes_of rfl rfl rfl rfl) (fun _ _ _ _ h => h)) (pa_cons (pv 0) (pa_cons (pv 1) pa_nil))))
  (pss_cons (ps_set (i := 5) sc_law_one.nd rfl (by first | exact Or.inl rfl | exact Or.inr rfl) (pe_callC c_law_tile_rows (hr.mono (by decide)) rfl (L2N.passes_call (L2N.takes_of rfl rfl rfl rfl) (fun _ _ _ _ h => h)) (pa_cons (pv 0) (pa_cons (pv 1) (pa_cons (pv 4) (pa_cons (pe_op op_addU pe_int (pe_op op_mod (pe_op op_divU (pv 2) pe_int) pe_int)) (pa_cons (pe_op op_addU pe_int (pe_op op_mod (pe_op op_divU (pv 2) pe_int) pe_int)) pa_nil)))))))
  (pss_cons (ps_set (i := 6) sc_law_one.nd rfl (by first | exact Or.inl rfl | exact Or.inr rfl) (pe_callC c_law_text (hr.mono (by decide)) rfl (L2N.passes_call (L2N.takes_of rfl rfl rfl rfl) (fun _ _ _ _ h => h)) (pa_cons (pv 4) (pa_cons (pv 5) pa_nil))))
  (pss_cons (ps_if (pt_cmpR (op_eqU hr.units) (pv 3) pe_int (nomark _)) (pss_one (ps_set (i := 6) sc_law_one.nd rfl (by first | exact Or.inl rfl | exact Or.inr rfl) (pe_ix ix_U (pe_m1 PySem.F.slot_str_split PySem.F.type_str_split mt_split (pv 6) pe_str) pe_int (fun _ _ => rfl)))) pss_nil)
  (pss_cons (ps_set (i := 7) sc_law_one.nd rfl (by first | exact Or.inl rfl | exact Or.inr rfl) (pe_m1 PySem.F.slot_str_split PySem.F.type_str_split mt_split (pv 6) pe_str))
  (pss_cons (ps_for (passes_of rfl) rfl (pi_range1 rfl (T.free 17) (pa_cons pe_int pa_nil)) (pg_name (i := 8) sc_law_one.nd rfl (by first | exact Or.inl rfl | exact Or.inr rfl)) (pss_one (ps_if (pt_not (pt_val (pe_callC c_law_rows_bad (hr.mono (by decide)) rfl (L2N.passes_call (L2N.takes_of rfl rfl rfl rfl) (fun _ _ _ _ h => h)) (pa_cons (pv 0) (pa_cons (pv 1) (pa_cons (pv 3) (pa_cons (pv 7) pa_nil))))))) (pss_one (ps_ret pe_bl)) pss_nil)))
  (pss_cons (ps_if (pt_not (pt_val (pe_callC c_law_rows_more (hr.mono (by decide)) rfl (L2N.passes_call (L2N.takes_of rfl rfl rfl rfl) (fun _ _ _ _ h => h)) (pa_cons (pv 0) (pa_cons (pv 1) (pa_cons (pv 3) (pa_cons (pv 7) pa_nil))))))) (pss_one (ps_ret pe_bl)) pss_nil)
  (pss_cons (ps_if (PW.pt (pw_and (pt_cmpR op_lt (pv 3) pe_int (nomark _)) (pw_and1 (pt_not (pt_val (pe_callC c_law_none (hr.mono (by decide)) rfl (L2N.passes_call (L2N.takes_of rfl rfl rfl rfl) (fun _ _ _ _ h => h)) (pa_cons (pv 0) (pa_cons (pv 1) (pa_cons (pv 3) (pa_cons (pv 4) (pa_cons (pv 5) pa_nil))))))))))) (pss_one (ps_ret pe_bl)) pss_nil)
  (pss_cons (ps_set (i := 9) sc_law_one.nd rfl (by first | exact Or.inl rfl | exact Or.inr rfl) (pe_callC c_law_told (hr.mono (by decide)) rfl (L2N.passes_call (L2N.takes_of rfl rfl rfl rfl) (fun _ _ _ _ h => h)) (pa_cons (pv 3) (pa_cons (pv 6) pa_nil))))
  (pss_cons (ps_if (pt_cmpR (op_eqU hr.units) (pv 3) pe_int (nomark _)) (pss_one (ps_ret (pe_callC c_law_same (hr.mono (by decide)) rfl (L2N.passes_call (L2N.takes_of rfl rfl rfl rfl) (fun _ _ _ _ h => h)) (pa_cons (pv 9) (pa_cons (pe_tup (pa_cons pe_str (pa_cons (pe_ix ix_U (pv 5) pe_int (fun _ _ => rfl)) pa_nil))) pa_nil))))) pss_nil)
  (pss_cons (ps_if (pt_cmpR (op_neU hr.units) (pe_ix ix_U (pv 9) pe_int (fun _ _ => rfl)) pe_str (nomark _)) (pss_one (ps_ret pe_bl)) pss_nil)
  (pss_cons (ps_if (PW.pt (pw_or (PW.pt (pw_and (pt_cmpR (op_eqU hr.units) (pv 3) pe_int (nomark _)) (pw_and1 (pt_not (pt_val (pe_callB call_isi (by rfl) (T.free 12) (by decide +kernel) (pa_cons (pe_ix ix_U (pv 9) pe_int (fun _ _ => rfl)) (pa_cons (pe_glob rfl (T.glo 28) rfl) pa_nil)))))))) (pw_or1 (PW.pt (pw_and (pt_cmpR (op_eqU hr.units) (pv 3) pe_int (nomark _)) (pw_and1 (pt_not (pt_val (pe_callB call_isi (by rfl) (T.free 12) (by decide +kernel) (pa_cons (pe_ix ix_U (pv 9) pe_int (fun _ _ => rfl)) (pa_cons (pe_glob rfl (T.glo 29) rfl) pa_nil))))))))))) (pss_one (ps_ret pe_bl)) pss_nil)
  (pss_one (ps_ret (pe_callC c_law_same (hr.mono (by decide)) rfl (L2N.passes_call (L2N.takes_of rfl rfl rfl rfl) (fun _ _ _ _ h => h)) (pa_cons (pe_fld (pe_ix ix_U (pv 9) pe_int (fun _ _ => rfl)) rfl) (pa_cons (pe_callTy call_tupU (by rfl) (T.free 1) (by decide +kernel) (pa_cons (pe_lc (own := [("_law_line", 10)]) (g := (gName 10)) (tt := tYes) (te := (tCB (rTupU K) (tCons (tVar 10) tNil))) (by rfl) sc_law_one.nd (pi_seq (pv 5)) (blkOk_by (own := [("_law_line", 10)]) (by rfl)) (fun _ _ _ _ _ => (pg_name (i := 10) sc_law_one.nd rfl (by first | exact Or.inl rfl | exact Or.inr rfl))) (fun _ _ _ _ _ => pts_nil) (fun _ _ _ _ _ => (pe_callTy call_tupU (by rfl) (T.free 1) (by decide +kernel) (pa_cons (pv 10) pa_nil)))) pa_nil)) pa_nil)))))))))))))))))))), pure_law_one T vs H Q E h⟩)
end
end Dot
namespace Dot
open PySem PySem.Spec PyProof.Rows L2 DK
def m_law (z_script : List Int) : Rs (Bool) :=
Rs.thn (grd (rngOk 0 (1 + (min 3 ((z_script.length : Int) / 16))) = true) <| forR (R := Bool) (fun (x1 : (List Int)) (y1 : Int) =>
(m_law_one z_script x1).bnd fun x2 =>
if x2.1 = true then (.ok (.nx x2.2)) else (.ok (.rt false))) (rngI 0 (1 + (min 3 ((z_script.length : Int) / 16)))) ([0] : List Int)) (fun x3 =>
.ok (true)) (fun r => .ok r)
def sp_law (K : PySem.W.Frag) : Sp := fun vs H Q E => ∃ (v_script : V), vs = [v_script] ∧ (∃ (F : Hp) (z_script : List Int), Same F H ∧ Scr K F v_script z_script ∧ Post (m_law z_script) (fun r => ∀ F' H', Stp [] F H F' H' → Q (V.bl r) H') (fun c l => ∀ Fx Hx dx, Stp [] F H Fx Hx → ExD Fx l dx → E (.ref (He.ga K c.nm)) dx Hx))
theorem len_law {K : PySem.W.Frag} : ∀ vs H Q E, sp_law K vs H Q E → vs.length = ((["_law_script"] : List Str)).length := fun vs H Q E h => by
  obtain ⟨_, rfl, _⟩ := h
  rfl
def t_law (K : PySem.W.Frag) (E : XK) : TS :=
  (tSeq (tAsg (tLst (tCons (tC (.int 0)) tNil)) (gName 1))
  (tSeq (tFor (iRng1 (tCons (tOp (rAddU K) (tC (.int 1)) (tCB rMin2I (tCons (tC (.int 3)) (tCons (tOp rDivU (tCB (rLenU K) (tCons (tVar 0) tNil)) (tC (.int 16))) tNil)))) tNil)) (gName 2) (tIfS (tNot (tB (tCall (sp_law_one K) [] E (tCons (tVar 0) (tCons (tVar 1) tNil))))) (tRet (tC (.bl false))) tNext))
  (tRet (tC (.bl true)))))
section
variable {P : Program} {w : World} {K : PySem.W.Frag} {mg : Str → Option Value} {base : Heap}
theorem pure_law (T : TX K mg) (vs : List V) (H : Hp) (Q : VK) (E : XK) (h : sp_law K vs H Q E) : t_law K E { nx := fun _ H' => Q .non H', rt := Q } (start n_law vs) H := by
  obtain ⟨v_script, rfl, h⟩ := h
  change t_law K E _ [some v_script, none, none] H
  unfold t_law
  obtain ⟨F, z_script, e0, hS1, h⟩ := h
  unfold m_law at h
  dl_open
  refine newO (by simp) (F := F) (by lcg_src) ?_
  intro L1 F1 H1 s1 n1 o1
  have r1 : RDs F1 (List.map Dat.int ([0] : List Int)) [(V.int 0)] := (show RDs F1 [Dat.int 0] [(V.int 0)] by nest_cls)
  dl_open
  dl_open
  (with_reducible refine cutF h (fun (s : (List Int)) σ' H' => ∃ F', ∃ (oj_1 : Option V) (wj_0 : List V), Stp [L1] F1 H1 F' H' ∧ Own F' H' L1 (.lst wj_0) ∧ RDs F' (List.map Dat.int s) wj_0 ∧ σ' = [some v_script, some (V.ref L1), oj_1]) ?_ ?_) <;> clear h
  · intro nx1 kk1 h
    refine st_for ?_
    dl_open
    dl_open
    refine st_lenS (F := F1) (by lcg_src) (by ktu_offI) ?_
    dl_open
    refine st_div (divS (by decide)) ?_
    dl_open
    refine sm_min2 ?_
    dl_open
    dl_open
    replace h := h.g
    obtain ⟨g2, h⟩ := h
    refine fr_R1 g2 h (fun (s : (List Int)) σ' H' => ∃ F', ∃ (oj_1 : Option V) (wj_0 : List V), Stp [L1] F1 H1 F' H' ∧ Own F' H' L1 (.lst wj_0) ∧ RDs F' (List.map Dat.int s) wj_0 ∧ σ' = [some v_script, some (V.ref L1), oj_1]) ⟨F1, _, _, Stp.refl (by lcg_src), by kat_tups, by nest_cls, rfl⟩ ?_ (by intro s_k σ_k H_k q_k p_k; replace p_k := Ctl.nx_of p_k; exact kk1 s_k σ_k H_k q_k p_k)
    clear h
    rintro y1 rest1 x1 σ_ H2 ⟨F2, o_1, w1, s2, o2, r3, rfl⟩ h
    try dsimp only at h
    dl_open
    dl_open
    with_reducible refine DK.st_if ?_
    dl_open
    dl_open
    dl_open
    refine ⟨_, _, rfl, F2, z_script, x1, by lcg_src, (by ktu_offI), ⟨L1, w1, rfl, (by kat_tups), (by nest_cls)⟩, h.b.mono2 ?_ (fun c_ l_ hx_ a_ ha_ Fx_ Hx_ dx_ sx_ ex_ => by cases ha_; exact hx_ Fx_ Hx_ dx_ (by kas_types) ex_)⟩
    clear h
    intro x2 h a_ ha_
    cases ha_
    intro F3 H3 s3 w2 o3 r4
    dl_open
    dl_open
    (refine brNB h ?_ ?_) <;> clear h <;> intro c1 h
    · dl_open
      dl_open
      dl_open
      exact h F3 H3 (by kas_types)
    · dl_open
      dl_open
      exact ⟨x2.2, ⟨F3, _, _, by kas_types, by kat_tups, by nest_cls, rfl⟩, h.onx⟩
  · rintro x3 σ_ H4 ⟨F4, o_2, w3, s4, o4, r5, rfl⟩ h
    try dsimp only at h
    dl_open
    dl_open
    exact h F4 H4 (by kas_types)
theorem fn_law (T : TX K mg) {fd : FuncData} (F : FunD K d_law.name d_law.qual d_law.params d_law.body d_law.scope [] [] (He.ga K "law") fd) (c_law_one : CalOk P w K mg base "_law_one" 11 (["_law_script", "_law_at"] : List Str) (sp_law_one K)) : FnOk P w K mg base (L2N.CX P w) 12 (He.ga K "law") fd (["_law_script"] : List Str) (sp_law K) :=
  FunD.ok F sc_law (len_law) (fun cdv A outer s H vs Q E hr h => ⟨t_law K E, (by exact (pss_cons (ps_set (i := 1) sc_law.nd rfl (by first | exact Or.inl rfl | exact Or.inr rfl) (pe_lst (pa_cons pe_int pa_nil)))
  (pss_cons (ps_for (passes_of rfl) rfl (pi_range1 rfl (T.free 17) (pa_cons (pe_op op_addU pe_int (pe_callB (call_min2 (by rfl)) (by rfl) (T.free 30) (by decide +kernel) (pa_cons pe_int (pa_cons (pe_op op_divU (pe_callB call_lenU (by rfl) (T.free 0) (by decide +kernel) (pa_cons (pv 0) pa_nil)) pe_int) pa_nil)))) pa_nil)) (pg_name (i := 2) sc_law.nd rfl (by first | exact Or.inl rfl | exact Or.inr rfl)) (pss_one (ps_if (pt_not (pt_val (pe_callC c_law_one (hr.mono (by decide)) rfl (L2N.passes_call (L2N.takes_of rfl rfl rfl rfl) (fun _ _ _ _ h => h)) (pa_cons (pv 0) (pa_cons (pv 1) pa_nil))))) (pss_one (ps_ret pe_bl)) pss_nil)))
  (pss_one (ps_ret pe_bl))))), pure_law T vs H Q E h⟩)
end
end Dot
end
namespace Dot
open PySem PySem.Spec PyProof.Rows L2 DK
/-- a draw -/
theorem next_ok (ns : List Int) (n : Int) (h0 : 0 ≤ n) (h1 : n ≤ 1000000000) : ∃ m, m_law_next ns [n] = .ok (m, [n + 1]) ∧ 0 ≤ m ∧ m < 1999999973 := by
  unfold m_law_next
  simp only [ixR_zero, Rs.bnd_ok, setR_zero]
  have fin : ∀ c : Int, ∃ m, (grd (mulOk (n + 1) (n + 1) = true) <| grd (mulOk (((((c % 2147483647) + (((n + 1) * (n + 1)) * 7919)) + 11) * 48271) % 2147483647) (((((c % 2147483647) + (((n + 1) * (n + 1)) * 7919)) + 11) * 48271) % 2147483647) = true) <| .ok (((((((((c % 2147483647) + (((n + 1) * (n + 1)) * 7919)) + 11) * 48271) % 2147483647) * (((((c % 2147483647) + (((n + 1) * (n + 1)) * 7919)) + 11) * 48271) % 2147483647)) % 1999999973), [n + 1])) : Rs (Int × List Int)) = .ok (m, [n + 1]) ∧ 0 ≤ m ∧ m < 1999999973 := by
    intro c
    rw [grd_of (DK.mulOk_of (by omega) (by omega) (by omega) (by omega))]
    have a0 := Int.emod_nonneg (((((c % 2147483647) + (((n + 1) * (n + 1)) * 7919)) + 11) * 48271)) (b := 2147483647) (by decide)
    have a1 := Int.emod_lt_of_pos (((((c % 2147483647) + (((n + 1) * (n + 1)) * 7919)) + 11) * 48271)) (b := 2147483647) (by decide)
    generalize (((((c % 2147483647) + (((n + 1) * (n + 1)) * 7919)) + 11) * 48271)) % 2147483647 = x at *
    rw [grd_of (DK.mulOk_of (by omega) (by omega) (by omega) (by omega))]
    exact ⟨_, rfl, Int.emod_nonneg _ (by decide), Int.emod_lt_of_pos _ (by decide)⟩
  by_cases hl : 0 < (ns.length : Int)
  · rw [if_pos hl]
    rw [grd_of hl]
    obtain ⟨x, hx, _⟩ := ixR_in (xs := ns) (i := (n + 1) % (ns.length : Int)) (Int.emod_nonneg _ (by omega)) (Int.emod_lt_of_pos _ hl)
    rw [hx]
    exact fin x
  · rw [if_neg hl]
    exact fin 0

theorem w_pick {α β : Type} {xs : List α} {i : Int} {k : α → Rs β} {P : β → Prop} {X : Xc → Option Int → Prop} (h0 : 0 ≤ i) (h1 : i < (xs.length : Int)) (z : ∀ x ∈ xs, Post (k x) P X) : Post ((ixR xs i).bnd k) P X :=
  w_ix h0 h1 fun x hx => z x (List.mem_of_getElem? hx)

/-- rows that are kept: not empty, alike, within -/
theorem kept_ok (rows : List (List Int)) (lo hi : Int) (c : Nat) (h1 : 0 < rows.length) (hc : 0 < c) (hl : rows.length ≤ 100000) (hw : ∀ w ∈ rows, w.length = c ∧ ∀ x ∈ w, lo ≤ x ∧ x ≤ hi) : m_rows_kept rows lo hi = .ok (some rows) := by
  have key : Post (m_rows_kept rows lo hi) (fun r => r = some rows) fun _ _ => False := by
    unfold m_rows_kept
    obtain ⟨r0, t, rfl⟩ : ∃ r0 t, rows = r0 :: t := by
      cases rows with
      | nil => simp at h1
      | cons a b => exact ⟨a, b, rfl⟩
    have e0 := (hw r0 (by simp)).1
    rw [if_neg (by simp; omega)]
    rw [ixR_zero, Rs.bnd_ok, Rs.bnd_ok, if_neg (by simp only [decide_eq_true_eq]; omega)]
    refine w_thn (w_for (fun (rest : List (List Int)) (acc : List (List Int)) => r0 :: t = acc ++ rest) ?_ (fun s hs => by rw [List.append_nil] at hs; subst hs; rfl) _ _ rfl)
    intro w rest acc he
    have hwm : w ∈ r0 :: t := by rw [he]; simp
    obtain ⟨w1, w2⟩ := hw w hwm
    have al : acc.length + (rest.length + 1) = (r0 :: t).length := by rw [he]; simp
    rw [Rs.bnd_ok, if_pos (by omega)]
    refine w_thn (w_for (fun (rest2 : List Int) (_ : Unit) => ∀ x ∈ rest2, lo ≤ x ∧ x ≤ hi) ?_ (fun _ _ => ?_) _ _ w2)
    · intro x rest2 _ hx
      have xr := hx x (by simp)
      rw [if_pos xr.1, Rs.bnd_ok, if_pos (by simpa using xr.2)]
      exact fun y hy => hx y (List.mem_cons_of_mem _ hy)
    · refine w_grd (by omega) (w_ok ?_)
      show r0 :: t = (acc ++ [w]) ++ rest
      rw [he]; simp
  obtain ⟨a, ha, rfl⟩ := w_get key
  exact ha

theorem picture_ok (most : Int) (rows : List (List Int)) (c : Nat) (hm : 1 ≤ most) (h1 : 0 < rows.length) (hc : 0 < c) (hl : rows.length ≤ 100000) (hw : ∀ w ∈ rows, w.length = c ∧ ∀ x ∈ w, 0 ≤ x ∧ x ≤ most) : m_Picture_init most rows = .ok (most, rows) := by
  unfold m_Picture_init
  rw [kept_ok rows 0 most c h1 hc hl hw, Rs.bnd_ok, if_neg (by omega)]
  rfl

theorem tile_ok (count : Int) (rows : List (List Int)) (c : Nat) (hm : 1 ≤ count) (h1 : 0 < rows.length) (hc : 0 < c) (hl : rows.length ≤ 100000) (hw : ∀ w ∈ rows, w.length = c ∧ ∀ x ∈ w, 1 ≤ x ∧ x ≤ count) : m_Tile_init count rows = .ok (count, rows) := by
  unfold m_Tile_init
  rw [kept_ok rows 1 count c h1 hc hl hw, Rs.bnd_ok, if_neg (by omega)]
  rfl

/-! slices -/
theorem cutL_from {α : Type} {xs : List α} {i : Int} (h : 0 ≤ i) : cutL xs (some i) none = xs.drop i.toNat := by
  obtain ⟨k, rfl⟩ : ∃ k : Nat, i = (k : Int) := ⟨i.toNat, by omega⟩
  unfold cutL
  rw [HT.sIx_nat, HT.sIx_none, Int.toNat_natCast]
  by_cases z : k ≤ xs.length
  · rw [Nat.min_eq_left z, List.take_of_length_le (by rw [List.length_drop]; omega)]
  · rw [Nat.min_eq_right (by omega), List.drop_of_length_le (by omega), List.drop_of_length_le (by omega)]; simp
theorem cutL_to {α : Type} {xs : List α} {i : Int} (h : 0 ≤ i) : cutL xs none (some i) = xs.take i.toNat := by
  obtain ⟨k, rfl⟩ : ∃ k : Nat, i = (k : Int) := ⟨i.toNat, by omega⟩
  unfold cutL
  rw [HT.sIx_nat, HT.sIx_none, Int.toNat_natCast, List.drop_zero, Nat.sub_zero]
  by_cases z : k ≤ xs.length
  · rw [Nat.min_eq_left z]
  · rw [Nat.min_eq_right (by omega), List.take_of_length_le (by omega), List.take_of_length_le (by omega)]
theorem sIx_neg {n d : Nat} {i : Int} (h : i < 0) : HT.sIx n d (some i) = (i + (n : Int)).toNat := if_pos h
theorem cutL_init {α : Type} {xs : List α} : cutL xs none (some (-1)) = xs.take (xs.length - 1) := by
  unfold cutL
  rw [sIx_neg (by decide), HT.sIx_none, List.drop_zero, Nat.sub_zero]
  congr 1; omega
theorem cutL_end {α : Type} {xs : List α} : cutL xs (some (-1)) none = xs.drop (xs.length - 1) := by
  unfold cutL
  rw [sIx_neg (by decide), HT.sIx_none, show ((-1 : Int) + (xs.length : Int)).toNat = xs.length - 1 by omega]
  exact List.take_of_length_le (by rw [List.length_drop]; omega)
theorem ixR_end {α : Type} {xs : List α} {x : α} (h : xs[xs.length - 1]? = some x) : ixR xs (-1) = .ok x := by
  have hl := (List.getElem?_eq_some_iff.mp h).1
  have : atI xs (-1) = some x := by
    unfold atI ixN
    rw [if_neg (by decide), if_pos (by omega)]
    show xs[((-1 : Int) + (xs.length : Nat)).toNat]? = _
    rw [show ((-1 : Int) + (xs.length : Nat)).toNat = xs.length - 1 by omega]
    exact h
  unfold ixR; rw [this]
theorem cutL_mid {α : Type} {xs : List α} {i t : Nat} : cutL xs (some (i : Int)) (some ((i : Int) + (t : Int))) = (xs.drop i).take t := by
  unfold cutL
  rw [show (i : Int) + (t : Int) = ((i + t : Nat) : Int) by omega, HT.sIx_nat, HT.sIx_nat]
  by_cases z : i ≤ xs.length
  · rw [Nat.min_eq_left z]
    by_cases y : i + t ≤ xs.length
    · rw [Nat.min_eq_left y, Nat.add_sub_cancel_left]
    · rw [Nat.min_eq_right (by omega), List.take_of_length_le (by rw [List.length_drop]; omega), List.take_of_length_le (by rw [List.length_drop]; omega)]
  · rw [Nat.min_eq_right (by omega), List.drop_of_length_le (by omega), List.drop_of_length_le (by omega)]; simp
theorem acc_range {β : Type} {acc : List β} {n : Nat} {f : Nat → β} (hl : acc.length = n) (h : ∀ k b, acc[k]? = some b → b = f k) : acc = (List.range n).map f := by
  refine ext_at (by rw [hl, List.length_map, List.length_range]) fun i x y hx hy => ?_
  rw [h i x hx]
  rw [List.getElem?_map] at hy
  cases hr : (List.range n)[i]? with
  | none => rw [hr] at hy; cases hy
  | some z =>
    rw [hr] at hy
    cases hy
    obtain ⟨hh1, hh2⟩ := List.getElem?_eq_some_iff.mp hr
    rw [List.getElem_range] at hh2
    rw [hh2]

theorem mulOk_big {i j : Int} (h1 : i.natAbs < 2 ^ 1000) (h2 : j.natAbs < 2 ^ 1000) : mulOk i j = true := by
  have a : i.natAbs.log2 < 1000 := log2_lt h1 (by decide)
  have b : j.natAbs.log2 < 1000 := log2_lt h2 (by decide)
  simp only [mulOk, decide_eq_true_eq]; omega

/-! pictures -/
structure Pic (most : Int) (c : Nat) (rows : List (List Int)) : Prop where
  h0 : 0 < rows.length
  h1 : rows.length ≤ 1000
  c0 : 0 < c
  c1 : c ≤ 1000
  row : ∀ w ∈ rows, w.length = c ∧ ∀ x ∈ w, 0 ≤ x ∧ x ≤ most
theorem Pic.at {most : Int} {c : Nat} {rows : List (List Int)} (A : Pic most c rows) {i : Nat} {w : List Int} (h : rows[i]? = some w) : w.length = c ∧ ∀ x ∈ w, 0 ≤ x ∧ x ≤ most := A.row w (List.mem_of_getElem? h)
theorem Pic.top {most : Int} {c : Nat} {rows : List (List Int)} (A : Pic most c rows) : ∃ w0, ixR rows 0 = .ok w0 ∧ w0.length = c := by
  obtain ⟨w0, h0⟩ := at_of_lt (xs := rows) (i := 0) A.h0
  exact ⟨w0, ixR_of (i := 0) h0, (A.at h0).1⟩
theorem Pic.made {most : Int} {c : Nat} {rows : List (List Int)} (A : Pic most c rows) (h : 1 ≤ most) : m_Picture_init most rows = .ok (most, rows) := picture_ok most rows c h A.h0 A.c0 (by have := A.h1; omega) A.row
theorem Pic.wid {most : Int} {c : Nat} {rows : List (List Int)} (A : Pic most c rows) : wid (eT (eT Dat.int) rows) ≤ 1000000 := wid_eT (by have := A.h1; omega) fun w hw => wid_eT (by have := (A.row w hw).1; have := A.c1; omega) fun x _ => by rw [wid_int]; omega

theorem most61 (ns : List Int) (n : Int) (h0 : 0 ≤ n) (h1 : n ≤ 999999999) : Post (m_law_most ns [n]) (fun r => r.2 = [n + 1] ∧ 1 ≤ r.1 ∧ r.1 ≤ 999999999999999999999999999000) fun _ _ => False := by
  unfold m_law_most
  obtain ⟨m, hm, m0, m1⟩ := next_ok ns n h0 (by omega)
  rw [hm, Rs.bnd_ok]
  have key : ∀ b1 : Int, Post ((ixR ([1, 2, 3, 9, 255, ((b1 % 100000000000000000000000000000) + 1), ((1000000000000000000000000000000 - 1000) - (m % 999))] : List Int) (m % 7)).bnd fun x5 => .ok ((x5, [n + 1]))) (fun r => r.2 = [n + 1] ∧ 1 ≤ r.1 ∧ r.1 ≤ 999999999999999999999999999000) fun _ _ => False := by
    intro b1
    have z0 := Int.emod_nonneg b1 (b := 100000000000000000000000000000) (by decide)
    have z1 := Int.emod_lt_of_pos b1 (b := 100000000000000000000000000000) (by decide)
    have y0 := Int.emod_nonneg m (b := 999) (by decide)
    have y1 := Int.emod_lt_of_pos m (b := 999) (by decide)
    generalize b1 % 100000000000000000000000000000 = z at z0 z1
    refine w_pick (Int.emod_nonneg _ (by decide)) (Int.emod_lt_of_pos m (show (0 : Int) < 7 by decide)) fun x hx => w_ok ⟨rfl, ?_⟩
    generalize m % 999 = y at y0 y1 hx
    simp only [List.mem_cons, List.not_mem_nil, or_false] at hx
    rcases hx with rfl | rfl | rfl | rfl | rfl | rfl | rfl <;> dsimp only <;> omega
  refine w_thn (w_if (fun hl => ?_) fun _ => w_ok (key 0))
  rw [ixR_zero, Rs.bnd_ok]
  exact w_grd hl (w_ix (Int.emod_nonneg _ (by omega)) (Int.emod_lt_of_pos _ hl) fun x _ => w_ok (key x))

theorem trows_ok30 (ns : List Int) (n count tall broad : Int) (h0 : 0 ≤ n) (t0 : 0 ≤ tall) (t1 : tall ≤ 100) (b0 : 0 ≤ broad) (b1 : broad ≤ 100) (h1 : n ≤ 999900000) (hm1 : 1 ≤ count) :
    Post (m_law_tile_rows ns [n] count tall broad) (fun r => (∃ k, r.2 = [k] ∧ n ≤ k ∧ k ≤ n + 10000) ∧ (r.1.length : Int) = tall ∧ ∀ w ∈ r.1, (w.length : Int) = broad ∧ ∀ x ∈ w, 1 ≤ x ∧ x ≤ count) fun _ _ => False := by
  unfold m_law_tile_rows
  refine w_thn (w_grd (DK.rngOk_of (by omega) (by omega) (by omega) (by omega)) (w_drA _ n 100 (fun _ w => (w.length : Int) = broad ∧ ∀ x ∈ w, 1 ≤ x ∧ x ≤ count) (by omega) ?_ ?_))
  · intro i y k acc hy k0 k1 hl
    obtain ⟨rfl, yl⟩ := rng0_at hy
    refine w_thn (w_grd (DK.rngOk_of (by omega) (by omega) (by omega) (by omega)) (w_drA _ k 1 (fun _ x => 1 ≤ x ∧ x ≤ count) (by omega) ?_ ?_))
    · intro j y' k' acc' hy' k0' k1' hl'
      obtain ⟨rfl, yl'⟩ := rng0_at hy'
      obtain ⟨m, hm, m0, m1⟩ := next_ok ns k' (by omega) (by omega)
      show Post ((m_law_next ns [k']).bnd _) _ _
      rw [hm, Rs.bnd_ok]
      dsimp only
      refine w_grd (mulOk_big (by omega) (by decide)) (w_pick (Int.emod_nonneg _ (by decide)) (Int.emod_lt_of_pos m (show (0 : Int) < 4 by decide)) fun x _ => ?_)
      have e0 := Int.emod_nonneg x (b := count) (by omega)
      have e1 := Int.emod_lt_of_pos x (b := count) (by omega)
      exact w_grd (by omega) (w_grd (by omega) (w_ok ⟨⟨k' + 1, rfl, by omega, by omega⟩, 1 + x % count, rfl, by omega, by omega⟩))
    · intro k' acc' k0' k1' hl' hJ
      rw [rng0_len] at k1' hl'
      refine w_grd (by omega) (w_ok ⟨⟨k', rfl, k0', by omega⟩, acc', rfl, by omega, fun x hx => ?_⟩)
      obtain ⟨q, hq⟩ := List.getElem?_of_mem hx
      exact hJ q x hq
  · intro k acc k0 k1 hl hJ
    rw [rng0_len] at k1 hl
    refine ⟨⟨k, rfl, k0, by omega⟩, by dsimp only; omega, fun w hw => ?_⟩
    obtain ⟨q, hq⟩ := List.getElem?_of_mem hw
    exact hJ q w hq

/-! tables -/
/-- made of rows and columns, f tells its cells -/
structure Mat {α : Type} (m n : Nat) (a : List (List α)) (f : Nat → Nat → α) : Prop where
  l : a.length = m
  row : ∀ (i : Nat) (w : List α), a[i]? = some w → w.length = n ∧ ∀ (j : Nat) (x : α), w[j]? = some x → x = f i j
theorem Mat.at {α : Type} {m n : Nat} {a : List (List α)} {f : Nat → Nat → α} (M : Mat m n a f) {i j : Nat} (hi : i < m) (hj : j < n) : ∃ w, a[i]? = some w ∧ w[j]? = some (f i j) := by
  obtain ⟨w, hw⟩ := at_of_lt (xs := a) (i := i) (by rw [M.l]; exact hi)
  obtain ⟨wl, wx⟩ := M.row i w hw
  obtain ⟨x, hx⟩ := at_of_lt (xs := w) (i := j) (by omega)
  exact ⟨w, hw, by rw [hx, wx j x hx]⟩
theorem Mat.ext {α : Type} {m n : Nat} {a b : List (List α)} {f g : Nat → Nat → α} (M : Mat m n a f) (N : Mat m n b g) (h : ∀ i j, i < m → j < n → f i j = g i j) : a = b := by
  refine ext_at (by rw [M.l, N.l]) fun i x y hx hy => ?_
  obtain ⟨xl, xf⟩ := M.row i x hx
  obtain ⟨yl, yf⟩ := N.row i y hy
  have il := lt_of_at hx
  rw [M.l] at il
  refine ext_at (by omega) fun j u v hu hv => ?_
  have jl := lt_of_at hu
  rw [xf j u hu, yf j v hv, h i j il (by omega)]
theorem Mat.congr {α : Type} {m n : Nat} {a : List (List α)} {f g : Nat → Nat → α} (M : Mat m n a f) (h : ∀ i j, i < m → j < n → f i j = g i j) : Mat m n a g :=
  ⟨M.l, fun i w hw => ⟨(M.row i w hw).1, fun j x hx => by
    have il := lt_of_at hw
    rw [M.l] at il
    have jl := lt_of_at hx
    rw [(M.row i w hw).2 j x hx, h i j il (by rw [← (M.row i w hw).1]; exact jl)]⟩⟩
theorem ixN_nat {n k : Nat} (h : k < n) : ixN n (k : Int) = some k := by
  unfold ixN; rw [if_pos (by omega), if_pos (by omega), Int.toNat_natCast]
theorem Mat.set {α : Type} {m n : Nat} {a : List (List α)} {f : Nat → Nat → α} (M : Mat m n a f) {i0 j0 : Nat} (hi : i0 < m) (hj : j0 < n) (v : α) {w : List α} (hw : a[i0]? = some w) :
    Mat m n (rowSet a (i0 : Int) (w.set j0 v)) (fun i j => if i = i0 ∧ j = j0 then v else f i j) := by
  rw [rowSet_of (ixN_nat (by rw [M.l]; exact hi))]
  obtain ⟨wl, wx⟩ := M.row i0 w hw
  refine ⟨by rw [List.length_set]; exact M.l, fun i u hu => ?_⟩
  by_cases z : i = i0
  · subst z
    rw [List.getElem?_set_self (by rw [M.l]; exact hi)] at hu
    cases hu
    refine ⟨by rw [List.length_set]; exact wl, fun j x hx => ?_⟩
    by_cases y : j = j0
    · subst y
      rw [List.getElem?_set_self (by omega)] at hx
      cases hx
      rw [if_pos ⟨rfl, rfl⟩]
    · rw [List.getElem?_set_ne (Ne.symm y)] at hx
      rw [if_neg (fun q => y q.2), wx j x hx]
  · rw [List.getElem?_set_ne (Ne.symm z)] at hu
    obtain ⟨ul, ux⟩ := M.row i u hu
    exact ⟨ul, fun j x hx => by rw [if_neg (fun q => z q.1), ux j x hx]⟩
theorem allS_of {α : Type} : ∀ {xs : List (Option α)} {f : Nat → α}, (∀ (j : Nat) x, xs[j]? = some x → x = some (f j)) → ∃ ys, allS xs = some ys ∧ ys.length = xs.length ∧ ∀ (j : Nat) y, ys[j]? = some y → y = f j
  | [], f, _ => ⟨[], rfl, rfl, fun j y h => by simp at h⟩
  | x :: xs, f, h => by
    obtain ⟨ys, h1, h2, h3⟩ := allS_of (xs := xs) (f := fun j => f (j + 1)) fun j x hx => h (j + 1) x hx
    have := h 0 x rfl
    subst this
    refine ⟨f 0 :: ys, by unfold allS; rw [h1]; rfl, by rw [List.length_cons, List.length_cons, h2], fun j y hy => ?_⟩
    cases j with
    | zero => cases hy; rfl
    | succ j => exact h3 j y hy
theorem allSS_of {α : Type} {m n : Nat} {g : Nat → Nat → Option α} {f : Nat → Nat → α} : ∀ {a : List (List (Option α))}, Mat m n a g → (∀ i j, i < m → j < n → g i j = some (f i j)) → ∃ b, allSS a = some b ∧ Mat m n b f := by
  intro a
  induction a generalizing m g f with
  | nil =>
    intro M _
    have := M.l
    exact ⟨[], rfl, ⟨this, fun i w h => by simp at h⟩⟩
  | cons w a ih =>
    intro M h
    have ml := M.l
    rw [List.length_cons] at ml
    obtain ⟨wl, wx⟩ := M.row 0 w rfl
    obtain ⟨y, h1, h2, h3⟩ := allS_of (xs := w) (f := f 0) fun j x hx => by
      rw [wx j x hx]
      exact h 0 j (by omega) (by have := lt_of_at hx; omega)
    obtain ⟨b, h4, N⟩ := ih (m := m - 1) (g := fun i j => g (i + 1) j) (f := fun i j => f (i + 1) j) ⟨by omega, fun i u hu => M.row (i + 1) u hu⟩ fun i j hi hj => h (i + 1) j (by omega) hj
    refine ⟨y :: b, by unfold allSS; rw [h1, h4]; rfl, ⟨by rw [List.length_cons, N.l]; omega, fun i u hu => ?_⟩⟩
    cases i with
    | zero => cases hu; exact ⟨by omega, h3⟩
    | succ i => exact N.row i u hu
/-- a picture's rows as a table -/
def cellAt (rows : List (List Int)) (i j : Nat) : Int := ((rows[i]?.getD [])[j]?).getD 0
theorem cellAt_of {rows : List (List Int)} {i j : Nat} {w : List Int} {x : Int} (hw : rows[i]? = some w) (hx : w[j]? = some x) : cellAt rows i j = x := by
  unfold cellAt; rw [hw, Option.getD_some, hx, Option.getD_some]
theorem Pic.mat {most : Int} {c : Nat} {rows : List (List Int)} (A : Pic most c rows) : Mat rows.length c rows (cellAt rows) :=
  ⟨rfl, fun i w hw => ⟨(A.at hw).1, fun j x hx => (cellAt_of hw hx).symm⟩⟩
theorem Mat.pic {most : Int} {m n : Nat} {a : List (List Int)} {f : Nat → Nat → Int} (M : Mat m n a f) (m0 : 0 < m) (m1 : m ≤ 1000) (n0 : 0 < n) (n1 : n ≤ 1000) (h : ∀ i j, i < m → j < n → 0 ≤ f i j ∧ f i j ≤ most) : Pic most n a := by
  refine ⟨by rw [M.l]; exact m0, by rw [M.l]; exact m1, n0, n1, fun w hw => ?_⟩
  obtain ⟨i, hi⟩ := List.getElem?_of_mem hw
  obtain ⟨wl, wx⟩ := M.row i w hi
  refine ⟨wl, fun x hx => ?_⟩
  obtain ⟨j, hj⟩ := List.getElem?_of_mem hx
  rw [wx j x hj]
  exact h i j (by have := lt_of_at hi; rw [M.l] at this; exact this) (by have := lt_of_at hj; omega)
theorem Pic.cell {most : Int} {c : Nat} {rows : List (List Int)} (A : Pic most c rows) {i j : Nat} (hi : i < rows.length) (hj : j < c) : 0 ≤ cellAt rows i j ∧ cellAt rows i j ≤ most := by
  obtain ⟨w, hw, hx⟩ := A.mat.at hi hj
  exact (A.at hw).2 _ (List.mem_of_getElem? hx)

/-! rows that are not kept -/
def KeptG (rows : List (List Int)) (lo hi : Int) : Prop := ∃ c, 0 < rows.length ∧ 0 < c ∧ ∀ w ∈ rows, w.length = c ∧ ∀ x ∈ w, lo ≤ x ∧ x ≤ hi
theorem kept_no (rows : List (List Int)) (lo hi : Int) (hl : rows.length ≤ 100000) (h : ¬ KeptG rows lo hi) : m_rows_kept rows lo hi = .ok none := by
  have key : Post (m_rows_kept rows lo hi) (fun r => r = none) fun _ _ => False := by
    unfold m_rows_kept
    cases rows with
    | nil => exact rfl
    | cons r0 t =>
      rw [if_neg (by simp; omega), ixR_zero, Rs.bnd_ok, Rs.bnd_ok]
      by_cases z : (r0.length : Int) = 0
      · rw [if_pos (by simpa using z)]; exact rfl
      · rw [if_neg (by simpa using z)]
        refine w_thn (w_forI (r0 :: t) (fun i acc => acc.length = i ∧ ∀ (k : Nat) w, k < i → (r0 :: t)[k]? = some w → w.length = r0.length ∧ ∀ x ∈ w, lo ≤ x ∧ x ≤ hi) ⟨rfl, fun k w h => by omega⟩ ?_ ?_)
        · rintro i w acc hw ⟨al, hI⟩
          have il := lt_of_at hw
          rw [Rs.bnd_ok]
          refine w_if (fun e => ?_) fun _ => rfl
          refine w_thn (w_forI w (fun j _ => ∀ (k : Nat) x, k < j → w[k]? = some x → lo ≤ x ∧ x ≤ hi) (fun k x h => by omega) ?_ ?_)
          · intro j x _ hx hJ
            by_cases h1 : lo ≤ x
            · rw [if_pos h1, Rs.bnd_ok]
              by_cases h2 : x ≤ hi
              · rw [if_pos (by rw [decide_eq_true h2])]
                intro k y hk hy
                by_cases q : k = j
                · subst q; rw [hx] at hy; cases hy; exact ⟨h1, h2⟩
                · exact hJ k y (by omega) hy
              · rw [if_neg (by rw [decide_eq_false h2]; decide)]; exact rfl
            · rw [if_neg h1, Rs.bnd_ok, if_neg (by decide)]; exact rfl
          · intro _ hJ
            refine w_grd (by omega) (w_ok ⟨by rw [List.length_append, al]; rfl, fun k v hk hv => ?_⟩)
            by_cases q : k = i
            · subst q; rw [hw] at hv; cases hv
              refine ⟨by omega, fun x hx => ?_⟩
              obtain ⟨j, hj⟩ := List.getElem?_of_mem hx
              exact hJ j x (lt_of_at hj) hj
            · exact hI k v (by omega) hv
        · rintro acc ⟨_, hI⟩
          exact (h ⟨r0.length, by simp, by omega, fun w hw => by
            obtain ⟨k, hk⟩ := List.getElem?_of_mem hw
            exact hI k w (lt_of_at hk) hk⟩).elim
  obtain ⟨a, ha, rfl⟩ := w_get key
  exact ha
theorem KeptG.ok {rows : List (List Int)} {lo hi : Int} (h : KeptG rows lo hi) (hl : rows.length ≤ 100000) : m_rows_kept rows lo hi = .ok (some rows) := by
  obtain ⟨c, h1, h2, h3⟩ := h
  exact kept_ok rows lo hi c h1 h2 hl h3
theorem KeptG.alike {rows : List (List Int)} {lo hi : Int} (h : KeptG rows lo hi) {v w : List Int} (hv : v ∈ rows) (hw : w ∈ rows) : v.length = w.length := by
  obtain ⟨c, _, _, h⟩ := h
  rw [(h v hv).1, (h w hw).1]
theorem KeptG.in {rows : List (List Int)} {lo hi : Int} (h : KeptG rows lo hi) {v : List Int} {x : Int} (hv : v ∈ rows) (hx : x ∈ v) : lo ≤ x ∧ x ≤ hi := by
  obtain ⟨c, _, _, h⟩ := h
  exact (h v hv).2 x hx
theorem KeptG.full {rows : List (List Int)} {lo hi : Int} (h : KeptG rows lo hi) : 0 < rows.length ∧ ∀ v ∈ rows, 0 < v.length := by
  obtain ⟨c, h1, h2, h⟩ := h
  exact ⟨h1, fun v hv => by rw [(h v hv).1]; exact h2⟩
theorem set_mem {α : Type} {xs : List α} {i : Nat} {x : α} (h : i < xs.length) : x ∈ xs.set i x := List.mem_of_getElem? (List.getElem?_set_self h)
theorem set_mem_ne {α : Type} {xs : List α} {i j : Nat} {x y : α} (h : xs[j]? = some y) (n : i ≠ j) : y ∈ xs.set i x := List.mem_of_getElem? (i := j) (by rw [List.getElem?_set_ne n]; exact h)

theorem picture_no (most : Int) (rows : List (List Int)) (hl : rows.length ≤ 100000) (h : ¬ (1 ≤ most ∧ KeptG rows 0 most)) : m_Picture_init most rows = .exc .picture none := by
  unfold m_Picture_init
  by_cases z : most < 1
  · by_cases k : KeptG rows 0 most
    · rw [k.ok hl, Rs.bnd_ok, if_pos z, Rs.bnd_ok, if_pos rfl]
    · rw [kept_no rows 0 most hl k, Rs.bnd_ok, if_pos z, Rs.bnd_ok, if_pos rfl]
  · rw [kept_no rows 0 most hl fun k => h ⟨by omega, k⟩, Rs.bnd_ok, if_neg z, Rs.bnd_ok]
    rfl

theorem tile_no (count : Int) (rows : List (List Int)) (hl : rows.length ≤ 100000) (h : ¬ (1 ≤ count ∧ KeptG rows 1 count)) : m_Tile_init count rows = .exc .tile none := by
  unfold m_Tile_init
  by_cases z : count < 1
  · by_cases k : KeptG rows 1 count
    · rw [k.ok hl, Rs.bnd_ok, if_pos z, Rs.bnd_ok, if_pos rfl]
    · rw [kept_no rows 1 count hl k, Rs.bnd_ok, if_pos z, Rs.bnd_ok, if_pos rfl]
  · rw [kept_no rows 1 count hl fun k => h ⟨by omega, k⟩, Rs.bnd_ok, if_neg z, Rs.bnd_ok]
    rfl

/-! texts of numbers -/
theorem drop_while (p : Nat → Bool) : ∀ l : List Nat, l.drop (l.takeWhile p).length = [] ∧ (∀ c ∈ l, p c = true) ∨ ∃ c r, l.drop (l.takeWhile p).length = c :: r ∧ p c = false ∧ c ∈ l
  | [] => .inl ⟨rfl, fun c h => by cases h⟩
  | a :: l => by
    cases h : p a with
    | true =>
      rw [List.takeWhile_cons, h, if_pos rfl, List.length_cons, List.drop_succ_cons]
      rcases drop_while p l with ⟨e, g⟩ | ⟨c, r, e, g, m⟩
      · refine .inl ⟨e, fun c hc => ?_⟩
        rcases List.mem_cons.mp hc with rfl | hc
        · exact h
        · exact g c hc
      · exact .inr ⟨c, r, e, g, List.mem_cons_of_mem _ m⟩
    | false =>
      rw [List.takeWhile_cons, h, if_neg (by simp)]
      exact .inr ⟨a, l, rfl, h, List.mem_cons_self⟩
theorem take_while_lt (p : Nat → Bool) : ∀ l : List Nat, (∃ c ∈ l, p c = false) → (l.takeWhile p).length < l.length
  | [], h => by obtain ⟨c, hc, _⟩ := h; cases hc
  | a :: l, h => by
    cases e : p a with
    | true =>
      rw [List.takeWhile_cons, e, if_pos rfl, List.length_cons, List.length_cons]
      obtain ⟨c, hc, hf⟩ := h
      rcases List.mem_cons.mp hc with rfl | hc
      · rw [e] at hf; cases hf
      · have := take_while_lt p l ⟨c, hc, hf⟩
        omega
    | false => rw [List.takeWhile_cons, e, if_neg (by simp)]; simp
theorem strip_none {x y : Str} : Txt.stripChars x y = "" ↔ ∀ c ∈ TL.tl x, c ∈ TL.tl y := by
  have g : ∀ c, y.cps.contains c = true ↔ c ∈ TL.tl y := fun c => by simp [TL.tl]
  have e0 : (Txt.stripChars x y = "") ↔ TL.tl (Txt.stripChars x y) = [] := ⟨fun h => by rw [h]; rfl, fun h => TL.ext_tl h⟩
  have e1 : TL.tl (Txt.stripChars x y) = ((TL.tl x).drop ((TL.tl x).takeWhile y.cps.contains).length).take (x.length - (((TL.tl x).drop ((TL.tl x).takeWhile y.cps.contains).length).reverse.takeWhile y.cps.contains).length - ((TL.tl x).takeWhile y.cps.contains).length) := by
    rw [Txt.stripChars, PySem.W.stripBy_eq]
    exact StrLaws.strSub_toList ..
  rw [e0, e1, TL.len_tl]
  rcases drop_while y.cps.contains (TL.tl x) with ⟨e, h⟩ | ⟨c, r, e, h, m⟩
  · rw [e]
    exact ⟨fun _ c hc => (g c).mp (h c hc), fun _ => List.take_nil⟩
  · have l1 := List.length_drop (i := ((TL.tl x).takeWhile y.cps.contains).length) (l := TL.tl x)
    rw [e] at l1
    have l2 := take_while_lt y.cps.contains (c :: r).reverse ⟨c, by simp, h⟩
    rw [List.length_reverse] at l2
    rw [e]
    constructor
    · intro z
      obtain ⟨n, hn⟩ : ∃ n, (TL.tl x).length - ((c :: r).reverse.takeWhile y.cps.contains).length - ((TL.tl x).takeWhile y.cps.contains).length = n + 1 := ⟨_, (Nat.succ_pred_eq_of_pos (by omega)).symm⟩
      rw [hn, List.take_succ_cons] at z
      cases z
    · intro z
      have := (g c).mpr (z c m)
      rw [h] at this; cases this
theorem starts_zero {x : Str} : Txt.startswith x "0" = decide ((TL.tl x).head? = some 48) := by
  have z : TL.tl "0" = [48] := rfl
  unfold Txt.startswith
  rw [StrLaws.subAt_eq]
  show (decide (0 + 1 ≤ x.length) && ((TL.tl x).drop 0).take 1 == [48]) = _
  rw [TL.len_tl]
  cases TL.tl x with
  | nil => rfl
  | cons a l =>
    show (decide (0 + 1 ≤ l.length + 1) && ([a] == [48])) = decide (some a = some 48)
    rw [decide_eq_true (by omega), Bool.true_and, Bool.eq_iff_iff]
    simp
/-- whether a piece writes a number -/
def isNum (p : Str) : Bool := (decide (1 ≤ (TL.tl p).length) && decide ((TL.tl p).length ≤ 30)) && ((TL.tl p).all (fun c => decide (48 ≤ c ∧ c ≤ 57)) && (decide (TL.tl p = [48]) || !decide ((TL.tl p).head? = some 48)))
theorem digit_mem {c : Nat} : c ∈ TL.tl "0123456789" ↔ 48 ≤ c ∧ c ≤ 57 := by
  rw [show TL.tl "0123456789" = [48, 49, 50, 51, 52, 53, 54, 55, 56, 57] from rfl]
  simp only [List.mem_cons, List.not_mem_nil, or_false]
  omega
theorem is_number_ok {p : Str} (h : p.length ≤ 1000000) : m_is_number p = .ok (isNum p) := by
  unfold m_is_number isNum
  have e : p.length = (TL.tl p).length := TL.len_tl p
  have z : p = "0" ↔ TL.tl p = [48] := ⟨fun h => by rw [h]; rfl, fun h => TL.ext_tl h⟩
  have s : (Txt.stripChars p "0123456789" = "") ↔ (TL.tl p).all (fun c => decide (48 ≤ c ∧ c ≤ 57)) = true := by
    rw [strip_none, List.all_eq_true]
    exact ⟨fun h c hc => decide_eq_true (digit_mem.mp (h c hc)), fun h c hc => digit_mem.mpr (of_decide_eq_true (h c hc))⟩
  rw [grd_of h, grd_of h]
  by_cases a : 1 ≤ (TL.tl p).length
  · rw [if_pos (by omega), Rs.bnd_ok, decide_eq_true a, Bool.true_and]
    by_cases b : (TL.tl p).length ≤ 30
    · rw [decide_eq_true (show ((p.length : Nat) : Int) ≤ 30 by omega), if_pos rfl, decide_eq_true b, Bool.true_and]
      cases d : (TL.tl p).all (fun c => decide (48 ≤ c ∧ c ≤ 57)) with
      | false =>
        rw [decide_eq_false (fun q => by rw [s.mp q] at d; cases d)]
        rfl
      | true =>
        rw [decide_eq_true (s.mpr d)]
        show Rs.bnd (if p = "0" then (.ok true) else (.ok (!(Txt.startswith p "0"))) : Rs Bool) _ = _
        by_cases q : p = "0"
        · rw [if_pos q, decide_eq_true (z.mp q)]; rfl
        · rw [if_neg q, decide_eq_false (fun w => q (z.mpr w)), starts_zero]; rfl
    · rw [decide_eq_false (show ¬ ((p.length : Nat) : Int) ≤ 30 by omega), if_neg (by decide), decide_eq_false b]
      rfl
  · rw [if_neg (by omega), Rs.bnd_ok, if_neg (by decide), decide_eq_false a]
    rfl
/-! numbers written -/
def NumOk (n : Int) : Prop := 0 ≤ n ∧ n < 1000000000000000000000000000000
theorem tl_strI (n : Nat) : TL.tl (strI (n : Int)) = TL.numL n := TL.tl_num n
theorem numL_head : ∀ n : Nat, 0 < n → ∃ c r, TL.numL n = c :: r ∧ c ≠ 48 := by
  intro n
  induction n using Nat.strongRecOn with
  | _ n ih =>
    intro h
    by_cases z : n < 10
    · exact ⟨48 + n, [], TL.numL_lt z, by omega⟩
    · obtain ⟨c, r, e, hc⟩ := ih (n / 10) (by omega) (by omega)
      exact ⟨c, r ++ [48 + n % 10], by rw [TL.numL_step (by omega), e]; rfl, hc⟩
theorem numL_30 {n : Nat} (h : (n : Int) < 1000000000000000000000000000000) : (TL.numL n).length ≤ 30 := by
  refine TL.numL_len (by decide) ?_
  have e : (10 : Nat) ^ 30 = 1000000000000000000000000000000 := by decide +kernel
  rw [e]
  omega
theorem NumOk.nat {n : Int} (h : NumOk n) : ∃ k : Nat, n = (k : Int) := ⟨n.toNat, by have := h.1; omega⟩
theorem strI_num {n : Int} (h : NumOk n) : isNum (strI n) = true := by
  obtain ⟨k, rfl⟩ := h.nat
  unfold isNum
  rw [tl_strI]
  have l := numL_30 h.2
  have ne : 1 ≤ (TL.numL k).length := List.length_pos_iff.mpr (TL.numL_ne k)
  have d : (TL.numL k).all (fun c => decide (48 ≤ c ∧ c ≤ 57)) = true := List.all_eq_true.mpr fun c hc => decide_eq_true (TL.numL_digits k c hc)
  rw [decide_eq_true ne, decide_eq_true l, d]
  rcases Nat.eq_zero_or_pos k with rfl | p
  · rfl
  · obtain ⟨c, r, e, hc⟩ := numL_head k p
    rw [e]
    have : ¬ ((c :: r).head? = some 48) := fun z => hc (Option.some.inj z)
    rw [decide_eq_false this]
    simp
theorem strI_len {n : Int} (h : NumOk n) : (strI n).length ≤ 30 := by
  obtain ⟨k, rfl⟩ := h.nat
  rw [TL.len_tl, tl_strI]
  exact numL_30 h.2
theorem strI_int {n : Int} (h : NumOk n) : PySem.intText? (strI n) = some n := by
  obtain ⟨k, rfl⟩ := h.nat
  exact TL.int_num (Nat.le_trans (numL_30 h.2) (by decide))
theorem strI_free {n : Int} (h : NumOk n) {c : Nat} (hc : c < 48 ∨ 57 < c) : c ∉ TL.tl (strI n) := by
  obtain ⟨k, rfl⟩ := h.nat
  rw [tl_strI]
  exact TL.numL_free hc
theorem strI_log {n : Int} (h : NumOk n) : n.natAbs.log2 < 1920 := by
  have h0 := h.1
  have h1 := h.2
  exact Nat.lt_of_lt_of_le (log2_lt (k := 100) (by omega) (by decide)) (by decide)
/-! joined -/
theorem joinL_len (S : List Nat) : ∀ ps : List (List Nat), (TL.joinL S ps).length ≤ (ps.map (·.length)).sum + ps.length * S.length
  | [] => Nat.zero_le _
  | [p] => by
    show p.length ≤ _
    simp only [List.map_cons, List.map_nil, List.sum_cons, List.sum_nil, List.length_cons, List.length_nil]
    omega
  | p :: q :: r => by
    have := joinL_len S (q :: r)
    show (p ++ (S ++ TL.joinL S (q :: r))).length ≤ _
    rw [List.length_append, List.length_append, List.map_cons, List.sum_cons, List.length_cons, Nat.succ_mul]
    omega
theorem joinL_mem {S : List Nat} {c : Nat} : ∀ {ps : List (List Nat)}, c ∈ TL.joinL S ps → c ∈ S ∨ ∃ p ∈ ps, c ∈ p
  | [], h => by cases h
  | [p], h => .inr ⟨p, List.mem_cons_self, h⟩
  | p :: q :: r, h => by
    have h : c ∈ p ++ (S ++ TL.joinL S (q :: r)) := h
    rcases List.mem_append.mp h with h | h
    · exact .inr ⟨p, List.mem_cons_self, h⟩
    · rcases List.mem_append.mp h with h | h
      · exact .inl h
      · rcases joinL_mem h with h | ⟨x, hx, h⟩
        · exact .inl h
        · exact .inr ⟨x, List.mem_cons_of_mem _ hx, h⟩
theorem tl_join (y : Str) (ps : List Str) : TL.tl (Txt.join y ps) = TL.joinL (TL.tl y) (ps.map TL.tl) := by rw [TL.join_eq, TL.tl_join]
theorem join_len (y : Str) (ps : List Str) : (Txt.join y ps).length ≤ (ps.map (·.length)).sum + ps.length * y.length := by
  have := joinL_len (TL.tl y) (ps.map TL.tl)
  rw [TL.len_tl, tl_join]
  rw [List.map_map, List.length_map] at this
  have e : ps.map ((fun p : List Nat => p.length) ∘ TL.tl) = ps.map (·.length) := List.map_congr_left fun p _ => (TL.len_tl p).symm
  rw [e, ← TL.len_tl y] at this
  exact this
theorem join_one (y p : Str) : Txt.join y [p] = p := TL.ext_tl (by rw [tl_join]; rfl)
theorem join_mem {y : Str} {ps : List Str} {c : Nat} (h : c ∈ TL.tl (Txt.join y ps)) : c ∈ TL.tl y ∨ ∃ p ∈ ps, c ∈ TL.tl p := by
  rw [tl_join] at h
  rcases joinL_mem h with h | ⟨p, hp, h⟩
  · exact .inl h
  · obtain ⟨q, hq, rfl⟩ := List.mem_map.mp hp
    exact .inr ⟨q, hq, h⟩
theorem sum_le {α : Type} {f : α → Nat} {n : Nat} : ∀ {xs : List α}, (∀ x ∈ xs, f x ≤ n) → (xs.map f).sum ≤ xs.length * n
  | [], _ => Nat.zero_le _
  | x :: xs, h => by
    have := sum_le (xs := xs) fun y hy => h y (List.mem_cons_of_mem _ hy)
    have := h x List.mem_cons_self
    rw [List.map_cons, List.sum_cons, List.length_cons, Nat.succ_mul]
    omega
theorem split_blank {ps : List Str} (ne : ps ≠ []) (h : ∀ p ∈ ps, 32 ∉ TL.tl p) : Txt.split (Txt.join " " ps) " " = ps := TL.split_join (y := " ") (s := 32) (S := []) rfl (by decide +kernel) ne h
theorem split_line {ps : List Str} (ne : ps ≠ []) (h : ∀ p ∈ ps, 10 ∉ TL.tl p) : Txt.split (Txt.join "\n" ps) "\n" = ps := TL.split_join (y := "\n") (s := 10) (S := []) rfl (by decide +kernel) ne h
/-! rows of numbers -/
def RowOk (ns : List Int) : Prop := ns ≠ [] ∧ ns.length ≤ 100 ∧ ∀ n ∈ ns, NumOk n
def txtN (ns : List Int) : Str := Txt.join " " (ns.map strI)
theorem len_one : Str.length " " = 1 ∧ Str.length "\n" = 1 := ⟨rfl, rfl⟩
theorem strs_len {ns : List Int} (h : ∀ n ∈ ns, NumOk n) : ((ns.map strI).map (·.length)).sum ≤ ns.length * 30 := by
  have := sum_le (xs := ns.map strI) (f := (·.length)) (n := 30) fun x hx => by
    obtain ⟨n, hn, rfl⟩ := List.mem_map.mp hx
    exact strI_len (h n hn)
  rw [List.length_map] at this
  exact this
theorem txtN_len {ns : List Int} (h : ∀ n ∈ ns, NumOk n) : (txtN ns).length ≤ ns.length * 31 := by
  have a := join_len " " (ns.map strI)
  have b := strs_len h
  rw [List.length_map, len_one.1] at a
  unfold txtN
  omega
theorem txtN_join {ns : List Int} (h : ∀ n ∈ ns, NumOk n) (hl : ns.length ≤ 1000) : joinOk " " (ns.map strI) = true := by
  have b := strs_len h
  refine decide_eq_true ?_
  rw [List.length_map, len_one.1]
  omega
theorem txtN_one (n : Int) : txtN [n] = strI n := join_one _ _
theorem txtN_free {ns : List Int} (h : ∀ n ∈ ns, NumOk n) {c : Nat} (hc : c < 32 ∨ 32 < c ∧ c < 48 ∨ 57 < c) : c ∉ TL.tl (txtN ns) := by
  intro m
  rcases join_mem m with m | ⟨p, hp, m⟩
  · have : c = 32 := by simpa [show TL.tl " " = [32] from rfl] using m
    omega
  · obtain ⟨n, hn, rfl⟩ := List.mem_map.mp hp
    exact strI_free (h n hn) (by omega) m
theorem all_map_id {α : Type} (f : α → Bool) (xs : List α) : (xs.map f).all id = xs.all f := by
  induction xs with
  | nil => rfl
  | cons x xs ih => rw [List.map_cons, List.all_cons, List.all_cons, ih]; rfl
/-- of any row: its pieces -/
theorem numbers_from_of {row : Str} (hl : row.length ≤ 1000000) (hn : (Txt.split row " ").length ≤ 1000000) (hp : ∀ p ∈ Txt.split row " ", p.length ≤ 1000000) : (Txt.split row " ").all isNum = false → m_numbers_from row = .ok none := by
  intro z
  unfold m_numbers_from
  rw [grd_of hl, grd_of hn, mapR_map isNum _ fun p h => by rw [is_number_ok (hp p h)]; rfl, Rs.bnd_ok, all_map_id, z, if_neg (by decide)]
theorem numbers_from_ok {ns : List Int} (h : RowOk ns) : m_numbers_from (txtN ns) = .ok (some ns) := by
  obtain ⟨ne, hl, hn⟩ := h
  have e : Txt.split (txtN ns) " " = ns.map strI := split_blank (fun z => ne (List.map_eq_nil_iff.mp z)) fun p hp => by
    obtain ⟨n, hn', rfl⟩ := List.mem_map.mp hp
    exact strI_free (hn n hn') (by omega)
  have l := txtN_len hn
  unfold m_numbers_from
  rw [grd_of (by omega), e, grd_of (by rw [List.length_map]; omega), mapR_map isNum _ fun p h => by
    obtain ⟨n, hn', rfl⟩ := List.mem_map.mp h
    rw [is_number_ok (Nat.le_trans (strI_len (hn n hn')) (by decide))]; rfl]
  rw [Rs.bnd_ok, all_map_id, show (ns.map strI).all isNum = true from List.all_eq_true.mpr fun p h => by
    obtain ⟨n, hn', rfl⟩ := List.mem_map.mp h
    exact strI_num (hn n hn'), if_pos rfl, grd_of (by rw [List.length_map]; omega)]
  have m : mapR (fun (y2 : Str) => somR (PySem.intText? y2) fun y3 => grd (Str.length y2 ≤ 640) <| .ok (some y3)) (ns.map strI) = .ok ns := by
    clear e l ne hl
    induction ns with
    | nil => rfl
    | cons n ns ih =>
      rw [List.map_cons]
      unfold mapR
      have k := hn n List.mem_cons_self
      rw [strI_int k, show somR (some n) (fun y3 : Int => grd (Str.length (strI n) ≤ 640) <| .ok (some y3)) = grd (Str.length (strI n) ≤ 640) (.ok (some n)) from rfl, grd_of (Nat.le_trans (strI_len k) (by decide)), Rs.bnd_ok, ih fun x hx => hn x (List.mem_cons_of_mem _ hx)]
      rfl
  rw [m, Rs.bnd_ok]
/-! tables -/
def TabOk (t : List (List Int)) : Prop := t ≠ [] ∧ t.length ≤ 1000 ∧ ∀ w ∈ t, RowOk w
def txtT (t : List (List Int)) : Str := Txt.join "\n" (t.map txtN)
theorem txtT_sum {t : List (List Int)} (h : ∀ w ∈ t, RowOk w) : ((t.map txtN).map (·.length)).sum ≤ t.length * 3100 := by
  have := sum_le (xs := t.map txtN) (f := (·.length)) (n := 3100) fun x hx => by
    obtain ⟨w, hw, rfl⟩ := List.mem_map.mp hx
    obtain ⟨_, a, b⟩ := h w hw
    have := txtN_len b
    omega
  rw [List.length_map] at this
  exact this
theorem txtT_len {t : List (List Int)} (h : ∀ w ∈ t, RowOk w) : (txtT t).length ≤ t.length * 3101 := by
  have a := join_len "\n" (t.map txtN)
  have b := txtT_sum h
  rw [List.length_map, len_one.2] at a
  unfold txtT
  omega
theorem txtT_join {t : List (List Int)} (h : ∀ w ∈ t, RowOk w) (hl : t.length ≤ 500) : joinOk "\n" (t.map txtN) = true := by
  have b := txtT_sum h
  refine decide_eq_true ?_
  rw [List.length_map, len_one.2]
  omega
theorem txtT_split {t : List (List Int)} (h : TabOk t) : Txt.split (txtT t) "\n" = t.map txtN := split_line (fun z => h.1 (List.map_eq_nil_iff.mp z)) fun p hp => by
  obtain ⟨w, hw, rfl⟩ := List.mem_map.mp hp
  exact txtN_free (h.2.2 w hw).2.2 (by omega)
theorem rows_from_ok {t : List (List Int)} (h : TabOk t) (hl : t.length ≤ 300) : m_rows_from (txtT t) = .ok t := by
  have tl := txtT_len h.2.2
  refine Post.okD ?_
  unfold m_rows_from
  rw [grd_of (by omega), txtT_split h]
  refine w_thn (w_forI (enumI (t.map txtN)) (fun i (s : List (List Int)) => s = t.take i) rfl ?_ ?_)
  · rintro i y _ hy rfl
    obtain ⟨h1, h2⟩ := enumI_at hy
    rw [List.getElem?_map] at h1
    obtain ⟨w, hw, e⟩ := Option.map_eq_some_iff.mp h1
    have il := lt_of_at hw
    rw [← e, numbers_from_ok (h.2.2 w (List.mem_of_getElem? hw)), Rs.bnd_ok]
    show Post (if false = true then _ else somR (some w) _) _ _
    rw [if_neg (by decide)]
    refine w_grd (by rw [List.length_take]; omega) (w_ok ?_)
    show _ = _
    rw [List.take_succ, hw]; rfl
  · rintro _ rfl
    rw [enumI_len, List.length_map, List.take_length]
    exact rfl
theorem split_rows_ok {first : Int} {t : List (List Int)} (hf : NumOk first) (h : TabOk t) (hl : t.length ≤ 299) : m_split_rows (txtT ([first] :: t)) = .ok (first, t) := by
  have H : TabOk ([first] :: t) := ⟨by simp, by simp; omega, fun w hw => by
    rcases List.mem_cons.mp hw with rfl | hw
    · exact ⟨by simp, by simp, fun n hn => by rw [List.mem_singleton.mp hn]; exact hf⟩
    · exact h.2.2 w hw⟩
  have tl := txtT_len H.2.2
  rw [List.length_cons] at tl
  unfold m_split_rows
  rw [grd_of (by omega), txtT_split H, List.map_cons, ixR_zero, Rs.bnd_ok, numbers_from_ok (H.2.2 _ List.mem_cons_self), Rs.bnd_ok]
  show Rs.bnd (if false = true then _ else somR (some [first]) fun y1 => .ok (!decide ((y1.length : Int) = 1)) : Rs Bool) _ = _
  rw [if_neg (by decide)]
  show (somR (some [first]) fun y2 => (m_rows_from (txtT ([first] :: t))).bnd _) = _
  show (m_rows_from (txtT ([first] :: t))).bnd _ = _
  have tp : 0 < t.length := List.length_pos_iff.mpr h.1
  rw [rows_from_ok H (by rw [List.length_cons]; omega), Rs.bnd_ok, if_neg (by rw [List.length_cons]; omega)]
  rw [ixR_zero, Rs.bnd_ok, cutL_from (by decide)]
  rfl
theorem read_numbers_ok {ns : List Int} (h : RowOk ns) : m_read_numbers (txtN ns) = .ok ns := by
  have l := txtN_len h.2.2
  have hl := h.2.1
  have e : Txt.split (txtN ns) "\n" = [txtN ns] := by
    have := split_line (ps := [txtN ns]) (by simp) fun p hp => by
      rw [List.mem_singleton.mp hp]
      exact txtN_free h.2.2 (by omega)
    rw [join_one] at this
    exact this
  unfold m_read_numbers
  rw [grd_of (by omega), e, ixR_zero, Rs.bnd_ok, numbers_from_ok h, Rs.bnd_ok]
  show (if false = true then _ else somR (some ns) _) = _
  rw [if_neg (by decide)]
  show (grd ((txtN ns).length ≤ 1000000) _) = _
  rw [grd_of (by omega), if_neg (by simp)]
theorem law_text_ok {first : Int} {t : List (List Int)} (hf : NumOk first) (h : ∀ w ∈ t, RowOk w) (hl : t.length ≤ 400) : m_law_text first t = .ok (txtT ([first] :: t)) := by
  unfold m_law_text
  have j := txtT_join (t := [first] :: t) (fun w hw => by
    rcases List.mem_cons.mp hw with rfl | hw
    · exact ⟨by simp, by simp, fun n hn => by rw [List.mem_singleton.mp hn]; exact hf⟩
    · exact h w hw) (by rw [List.length_cons]; omega)
  rw [List.map_cons, txtN_one] at j
  rw [grd_of (strI_log hf), grd_of (by omega), mapR_map txtN _ fun w hw => by
    obtain ⟨_, a, b⟩ := h w hw
    rw [grd_of (by omega), mapR_map strI _ fun n hn => by rw [grd_of (strI_log (b n hn))], Rs.bnd_ok, grd_of (txtN_join b (by omega))]; rfl]
  rw [Rs.bnd_ok, grd_of (by rw [List.length_map]; simp; omega)]
  show grd (joinOk "\n" (strI first :: t.map txtN) = true) _ = _
  rw [grd_of j]
  unfold txtT
  rw [List.map_cons, txtN_one]; rfl
theorem read_picture_ok {first : Int} {t : List (List Int)} {r : Int × List (List Int)} (hf : NumOk first) (h : TabOk t) (hl : t.length ≤ 299) (e : m_Picture_init first t = .ok r) : m_read_picture (txtT ([first] :: t)) = .ok r := by
  unfold m_read_picture
  rw [split_rows_ok hf h hl, Rs.bnd_ok, e]; rfl
theorem read_tile_ok {first : Int} {t : List (List Int)} {r : Int × List (List Int)} (hf : NumOk first) (h : TabOk t) (hl : t.length ≤ 299) (e : m_Tile_init first t = .ok r) : m_read_tile (txtT ([first] :: t)) = .ok r := by
  unfold m_read_tile
  rw [split_rows_ok hf h hl, Rs.bnd_ok, e]; rfl

/-! texts with a row that is not as told -/
structure Piece (p : Str) : Prop where
  b : 32 ∉ TL.tl p
  l : 10 ∉ TL.tl p
  n : p.length ≤ 1000
structure BadRow (row : Str) : Prop where
  ex : ∃ ps : List Str, ps ≠ [] ∧ row = Txt.join " " ps ∧ (∀ p ∈ ps, Piece p) ∧ ps.length ≤ 200 ∧ ∃ p ∈ ps, isNum p = false
theorem BadRow.len {row : Str} (h : BadRow row) : row.length ≤ 300000 := by
  obtain ⟨ps, _, rfl, hp, hl, _⟩ := h.ex
  have a := join_len " " ps
  have b := sum_le (xs := ps) (f := (·.length)) (n := 1000) fun p h => (hp p h).n
  rw [len_one.1] at a
  omega
theorem BadRow.line {row : Str} (h : BadRow row) : 10 ∉ TL.tl row := by
  obtain ⟨ps, _, rfl, hp, hl, _⟩ := h.ex
  intro z
  rcases join_mem z with z | ⟨p, h, z⟩
  · exact absurd z (by decide +kernel)
  · exact (hp p h).l z
theorem numbers_from_bad {row : Str} (h : BadRow row) : m_numbers_from row = .ok none := by
  have l := h.len
  obtain ⟨ps, ne, rfl, hp, hl, p, hpm, hn⟩ := h.ex
  have e := split_blank ne fun p h => (hp p h).b
  refine numbers_from_of (by omega) (by rw [e]; omega) (by rw [e]; exact fun p h => Nat.le_trans (hp p h).n (by decide)) ?_
  rw [e, List.all_eq_false]
  exact ⟨p, hpm, by rw [hn]; decide⟩
theorem strI_piece {n : Int} (h : NumOk n) : Piece (strI n) := ⟨strI_free h (by omega), strI_free h (by omega), Nat.le_trans (strI_len h) (by decide)⟩
theorem piece_lit {p : Str} (h : (TL.tl p).all (fun c => decide (c ≠ 32 ∧ c ≠ 10)) = true) (n : p.length ≤ 1000) : Piece p := by
  have := List.all_eq_true.mp h
  refine ⟨fun z => ?_, fun z => ?_, n⟩
  · have := of_decide_eq_true (this _ z); omega
  · have := of_decide_eq_true (this _ z); omega
/-- rows of texts: as told, or not -/
def GoodRow (row : Str) : Prop := ∃ ns, RowOk ns ∧ row = txtN ns
theorem GoodRow.line {row : Str} (h : GoodRow row) : 10 ∉ TL.tl row := by
  obtain ⟨ns, h, rfl⟩ := h
  exact txtN_free h.2.2 (by omega)
theorem GoodRow.len {row : Str} (h : GoodRow row) : row.length ≤ 300000 := by
  obtain ⟨ns, h, rfl⟩ := h
  have := txtN_len h.2.2
  have := h.2.1
  omega
theorem rows_len {rs : List Str} (hl : rs.length ≤ 3) (h : ∀ r ∈ rs, r.length ≤ 300000) : (Txt.join "\n" rs).length ≤ 1000000 := by
  have a := join_len "\n" rs
  have b := sum_le (xs := rs) (f := (·.length)) (n := 300000) h
  rw [len_one.2] at a
  have : rs.length * 300000 ≤ 3 * 300000 := Nat.mul_le_mul_right _ hl
  omega
/-- the first row that is not as told -/
structure RowsBad (rs : List Str) (k : Nat) : Prop where
  len : (Txt.join "\n" rs).length ≤ 1000000
  all : ∀ r ∈ rs, 10 ∉ TL.tl r
  bad : ∃ r, rs[k]? = some r ∧ BadRow r
  good : ∀ i < k, ∃ r, rs[i]? = some r ∧ GoodRow r
  k1 : k ≤ 1000
section
variable {rs : List Str} {k : Nat}
theorem RowsBad.split (B : RowsBad rs k) : Txt.split (Txt.join "\n" rs) "\n" = rs :=
  split_line (fun z => by obtain ⟨r, h, _⟩ := B.bad; rw [z] at h; simp at h) B.all
theorem rows_from_bad (B : RowsBad rs k) : m_rows_from (Txt.join "\n" rs) = .exc .text (some (k : Int)) := by
  obtain ⟨b, hb, hB⟩ := B.bad
  have kl := lt_of_at hb
  have k1 := B.k1
  have key : Post (m_rows_from (Txt.join "\n" rs)) (fun _ => False) fun c l => c = .text ∧ l = some (k : Int) := by
    unfold m_rows_from
    refine w_thn (w_grd B.len ?_)
    rw [B.split]
    refine w_forI (enumI rs) (fun i s => s.length = i ∧ i ≤ k) ⟨rfl, Nat.zero_le _⟩ ?_ ?_
    · rintro i ⟨y1, r⟩ s hy ⟨sl, ik⟩
      obtain ⟨h1, h2⟩ := enumI_at hy
      dsimp only at h1 h2 ⊢
      subst h2
      by_cases z : i = k
      · subst z
        rw [hb] at h1; cases h1
        rw [numbers_from_bad hB, Rs.bnd_ok]
        exact ⟨rfl, rfl⟩
      · obtain ⟨g, hg, ns, hns, rfl⟩ := B.good i (by omega)
        rw [hg] at h1; cases h1
        rw [numbers_from_ok hns, Rs.bnd_ok]
        show Post (if false = true then _ else somR (some ns) _) _ _
        rw [if_neg (by decide)]
        refine w_grd (by omega) (w_ok ⟨?_, by omega⟩)
        rw [List.length_append]; simp; omega
    · rintro s ⟨sl, ik⟩
      rw [enumI_len] at sl ik
      omega
  cases e : m_rows_from (Txt.join "\n" rs) with
  | ok r => rw [e] at key; exact key.elim
  | exc c l => rw [e] at key; obtain ⟨rfl, rfl⟩ := (key : c = .text ∧ l = some (k : Int)); rfl
  | bad => rw [e] at key; exact key.elim
/-- the first row is one number, or the row that is not as told -/
theorem split_rows_bad (B : RowsBad rs k) (one : 0 < k → ∃ f, NumOk f ∧ rs[0]? = some (txtN [f])) : m_split_rows (Txt.join "\n" rs) = .exc .text (some (k : Int)) := by
  unfold m_split_rows
  rw [grd_of B.len, B.split]
  obtain ⟨b, hb, hB⟩ := B.bad
  by_cases z : k = 0
  · subst z
    rw [show ixR rs 0 = .ok b from ixR_of (i := 0) hb, Rs.bnd_ok, numbers_from_bad hB]
    rfl
  · obtain ⟨f, hf, h0⟩ := one (by omega)
    rw [show ixR rs 0 = .ok (txtN [f]) from ixR_of (i := 0) h0, Rs.bnd_ok, numbers_from_ok ⟨by simp, by simp, fun n hn => by rw [List.mem_singleton.mp hn]; exact hf⟩, Rs.bnd_ok]
    show Rs.bnd (if false = true then _ else somR (some [f]) fun y1 => .ok (!decide ((y1.length : Int) = 1)) : Rs Bool) _ = _
    rw [if_neg (by decide)]
    show (m_rows_from (Txt.join "\n" rs)).bnd _ = _
    rw [rows_from_bad B]
    rfl
theorem read_picture_bad (B : RowsBad rs k) (one : 0 < k → ∃ f, NumOk f ∧ rs[0]? = some (txtN [f])) : m_read_picture (Txt.join "\n" rs) = .exc .text (some (k : Int)) := by
  unfold m_read_picture
  rw [split_rows_bad B one]; rfl
theorem read_tile_bad (B : RowsBad rs k) (one : 0 < k → ∃ f, NumOk f ∧ rs[0]? = some (txtN [f])) : m_read_tile (Txt.join "\n" rs) = .exc .text (some (k : Int)) := by
  unfold m_read_tile
  rw [split_rows_bad B one]; rfl
end
theorem read_numbers_bad {rs : List Str} (B : RowsBad rs 0) : m_read_numbers (Txt.join "\n" rs) = .exc .text (some 0) := by
  unfold m_read_numbers
  obtain ⟨b, hb, hB⟩ := B.bad
  rw [grd_of B.len, B.split, show ixR rs 0 = .ok b from ixR_of (i := 0) hb, Rs.bnd_ok, numbers_from_bad hB]
  rfl
theorem joinL_snoc (S p : List Nat) : ∀ ps : List (List Nat), ps ≠ [] → TL.joinL S (ps ++ [p]) = TL.joinL S ps ++ (S ++ p)
  | [], h => (h rfl).elim
  | [a], _ => by
    show a ++ (S ++ p) = a ++ (S ++ p)
    rfl
  | a :: b :: r, _ => by
    have ih := joinL_snoc S p (b :: r) (by simp)
    show a ++ (S ++ TL.joinL S (b :: r ++ [p])) = a ++ (S ++ TL.joinL S (b :: r)) ++ (S ++ p)
    rw [ih]
    simp only [List.append_assoc]
theorem join_snoc (y p : Str) {ps : List Str} (h : ps ≠ []) : Txt.join y (ps ++ [p]) = Txt.join y ps ++ (y ++ p) := by
  refine TL.ext_tl ?_
  rw [tl_join, List.map_append, TL.tl_append, TL.tl_append, tl_join]
  exact joinL_snoc _ _ _ fun z => h (List.map_eq_nil_iff.mp z)
theorem bad_snoc {ns : List Int} (h : RowOk ns) {p : Str} (hp : Piece p) (hn : isNum p = false) : BadRow (txtN ns ++ (" " ++ p)) := by
  refine ⟨ns.map strI ++ [p], by simp, ?_, ?_, ?_, p, by simp, hn⟩
  · rw [join_snoc _ _ (fun z => h.1 (List.map_eq_nil_iff.mp z))]; rfl
  · intro q hq
    rcases List.mem_append.mp hq with hq | hq
    · obtain ⟨n, hn', rfl⟩ := List.mem_map.mp hq
      exact strI_piece (h.2.2 n hn')
    · rw [List.mem_singleton.mp hq]; exact hp
  · have := h.2.1
    rw [List.length_append, List.length_map]; simp; omega
theorem bad_one {p : Str} (hp : Piece p) (hn : isNum p = false) : BadRow p := ⟨[p], by simp, (join_one _ _).symm, fun q hq => by rw [List.mem_singleton.mp hq]; exact hp, by simp, p, by simp, hn⟩
theorem piece_nil : Piece "" := piece_lit (by decide +kernel) (by decide +kernel)
theorem not_nil : isNum "" = false := by decide +kernel
/-- rows of a table's text, one of them put anew -/
theorem set_bad {t : List (List Int)} (h : TabOk t) (hl : t.length ≤ 50) {k : Nat} (hk : k < t.length) {b : Str} (hb : BadRow b) (bl : b.length ≤ 15000) : RowsBad ((t.map txtN).set k b) k := by
  have rl : ∀ r ∈ (t.map txtN).set k b, r.length ≤ 15000 := fun r hr => by
    rcases List.mem_or_eq_of_mem_set hr with hr | rfl
    · obtain ⟨w, hw, rfl⟩ := List.mem_map.mp hr
      have := txtN_len (h.2.2 w hw).2.2
      have := (h.2.2 w hw).2.1
      omega
    · exact bl
  have a := join_len "\n" ((t.map txtN).set k b)
  have c := sum_le (xs := (t.map txtN).set k b) (f := (·.length)) (n := 15000) rl
  rw [len_one.2] at a
  rw [List.length_set, List.length_map] at a c
  have : t.length * 15000 ≤ 50 * 15000 := Nat.mul_le_mul_right _ hl
  refine ⟨by omega, fun r hr => ?_, ⟨b, ?_, hb⟩, fun i hi => ?_, by omega⟩
  · rcases List.mem_or_eq_of_mem_set hr with hr | rfl
    · obtain ⟨w, hw, rfl⟩ := List.mem_map.mp hr
      exact GoodRow.line ⟨w, h.2.2 w hw, rfl⟩
    · exact hb.line
  · rw [List.getElem?_set_self (by rw [List.length_map]; exact hk)]
  · obtain ⟨w, hw⟩ := at_of_lt (xs := t) (i := i) (by omega)
    exact ⟨txtN w, by rw [List.getElem?_set_ne (by omega), List.getElem?_map, hw]; rfl, w, h.2.2 w (List.mem_of_getElem? hw), rfl⟩
theorem word_ok (c : Xc) (l : Option Int) : m_law_word (c, l) = .ok (match c with | .picture => "picture" | .out => "out" | .meet => "meet" | .tile => "tile" | .inks => "inks" | .shares => "shares" | .shade => "shade" | .stretches => "stretches" | .way => "way" | .text => "text") := by
  cases c <;> rfl

theorem al_str (a b : Str) : (a ++ b).length = a.length + b.length := by rw [TL.len_tl, TL.tl_append, List.length_append, ← TL.len_tl, ← TL.len_tl]
theorem isNum_sign {p : Str} {c : Nat} (h : c ∈ TL.tl p) (z : c < 48 ∨ 57 < c) : isNum p = false := by
  unfold isNum
  rw [show (TL.tl p).all (fun c => decide (48 ≤ c ∧ c ≤ 57)) = false from List.all_eq_false.mpr ⟨c, h, by simp; omega⟩]
  simp
theorem isNum_zero {p : Str} (h : 1 ≤ p.length) : isNum ("0" ++ p) = false := by
  have e : TL.tl ("0" ++ p) = 48 :: TL.tl p := by rw [TL.tl_append]; rfl
  unfold isNum
  rw [e]
  have : TL.tl p ≠ [] := fun z => by rw [TL.len_tl, z] at h; simp at h
  simp [this]
theorem join_cons (y p : Str) {ps : List Str} (h : ps ≠ []) : Txt.join y (p :: ps) = p ++ (y ++ Txt.join y ps) := by
  refine TL.ext_tl ?_
  rw [tl_join, TL.tl_append, TL.tl_append, tl_join]
  cases ps with
  | nil => exact (h rfl).elim
  | cons q r => rfl
theorem bad_of {ps : List Str} (ne : ps ≠ []) (hp : ∀ p ∈ ps, Piece p) (hl : ps.length ≤ 8) {p : Str} (h : p ∈ ps) (hn : isNum p = false) : BadRow (Txt.join " " ps) ∧ (Txt.join " " ps).length ≤ 15000 := by
  refine ⟨⟨ps, ne, rfl, hp, by omega, p, h, hn⟩, ?_⟩
  have a := join_len " " ps
  have b := sum_le (xs := ps) (f := (·.length)) (n := 1000) fun p h => (hp p h).n
  rw [len_one.1] at a
  have : ps.length * 1000 ≤ 8 * 1000 := Nat.mul_le_mul_right _ hl
  omega
theorem join_ok8 {ps : List Str} (hp : ∀ p ∈ ps, Piece p) (hl : ps.length ≤ 8) : joinOk " " ps = true := by
  have b := sum_le (xs := ps) (f := (·.length)) (n := 1000) fun p h => (hp p h).n
  refine decide_eq_true ?_
  rw [len_one.1]
  have : ps.length * 1000 ≤ 8 * 1000 := Nat.mul_le_mul_right _ hl
  omega
theorem piece_app {a b : Str} (ha : Piece a) (hb : Piece b) (l : a.length + b.length ≤ 1000) : Piece (a ++ b) := by
  refine ⟨fun z => ?_, fun z => ?_, by rw [al_str]; exact l⟩
  · rw [TL.tl_append] at z
    rcases List.mem_append.mp z with z | z
    · exact ha.b z
    · exact hb.b z
  · rw [TL.tl_append] at z
    rcases List.mem_append.mp z with z | z
    · exact ha.l z
    · exact hb.l z
theorem law_bad_ok (ns : List Int) (k : Int) (k0 : 0 ≤ k) (k1 : k ≤ 999999000) {w : List Int} (W : RowOk w) (wl : w.length ≤ 5) : Post (m_law_bad ns [k] (txtN w)) (fun r => r.2 = [k + 1] ∧ BadRow r.1 ∧ r.1.length ≤ 15000) fun _ _ => False := by
  have tl := txtN_len W.2.2
  have wp : 0 < w.length := List.length_pos_iff.mpr W.1
  have ne : w.map strI ≠ [] := fun z => W.1 (List.map_eq_nil_iff.mp z)
  have pc : ∀ p ∈ w.map strI, Piece p ∧ p.length ≤ 30 := fun p hp => by
    obtain ⟨n, hn, rfl⟩ := List.mem_map.mp hp
    exact ⟨strI_piece (W.2.2 n hn), strI_len (W.2.2 n hn)⟩
  have pq : ∀ p ∈ w.map strI, 1 ≤ p.length := fun p hp => by
    obtain ⟨n, hn, rfl⟩ := List.mem_map.mp hp
    have := strI_num (W.2.2 n hn)
    unfold isNum at this
    rw [TL.len_tl]
    simp only [Bool.and_eq_true, decide_eq_true_eq] at this
    exact this.1.1
  have e : Txt.split (txtN w) " " = w.map strI := split_blank ne fun p hp => (pc p hp).1.b
  have ml : (w.map strI).length = w.length := List.length_map ..
  unfold m_law_bad
  obtain ⟨m, hm, m0, m1⟩ := next_ok ns k k0 (by omega)
  rw [hm, Rs.bnd_ok, e]
  generalize w.map strI = ps at *
  dsimp only
  refine w_grd (by omega) (w_grd (by omega) ?_)
  have s0 := Int.emod_nonneg (m / 6) (b := (ps.length : Int)) (by omega)
  have s1 := Int.emod_lt_of_pos (m / 6) (show 0 < (ps.length : Int) by omega)
  obtain ⟨s, hs⟩ : ∃ s : Nat, m / 6 % (ps.length : Int) = (s : Int) := ⟨(m / 6 % (ps.length : Int)).toNat, by omega⟩
  rw [hs] at s0 s1 ⊢
  obtain ⟨p, hp⟩ := at_of_lt (xs := ps) (i := s) (by omega)
  obtain ⟨P, pl⟩ := pc p (List.mem_of_getElem? hp)
  rw [ixR_of hp, Rs.bnd_ok]
  have l1 : Str.length " " = 1 := rfl
  by_cases z : m % 6 = 0
  · rw [if_pos z]
    refine w_grd (by omega) (w_grd (by omega) (w_pick (by omega) (by simp only [List.length_cons, List.length_nil]; omega) fun x hx => w_ok ⟨rfl, ?_⟩))
    simp only [List.mem_cons, List.not_mem_nil, or_false] at hx
    rcases hx with rfl | rfl | rfl
    · have := bad_snoc W piece_nil not_nil
      rw [show (" " ++ "" : Str) = " " from rfl] at this
      exact ⟨this, by dsimp only; rw [al_str]; omega⟩
    · have e2 : (" " ++ txtN w : Str) = Txt.join " " ("" :: w.map strI) := by
        rw [join_cons _ _ (fun z => W.1 (List.map_eq_nil_iff.mp z))]
        exact TL.ext_tl (by rw [TL.tl_append "", show TL.tl "" = [] from rfl, List.nil_append]; rfl)
      dsimp only
      rw [e2]
      exact bad_of (by simp) (fun q hq => by
        rcases List.mem_cons.mp hq with rfl | hq
        · exact piece_nil
        · obtain ⟨n, hn, rfl⟩ := List.mem_map.mp hq
          exact strI_piece (W.2.2 n hn)) (by rw [List.length_cons, List.length_map]; omega) (List.mem_cons_self) not_nil
    · exact ⟨bad_one piece_nil not_nil, by dsimp only; decide +kernel⟩
  rw [if_neg z]
  by_cases y : m % 6 = 1
  · rw [if_pos y, cutL_to (by omega), cutL_from (by omega), Int.toNat_natCast]
    have pp : ∀ q ∈ ps.take s ++ [("" : Str)] ++ ps.drop s, Piece q := fun q hq => by
      rcases List.mem_append.mp hq with hq | hq
      · rcases List.mem_append.mp hq with hq | hq
        · exact (pc q (List.mem_of_mem_take hq)).1
        · rw [List.mem_singleton.mp hq]; exact piece_nil
      · exact (pc q (List.mem_of_mem_drop hq)).1
    have ll : (ps.take s ++ [("" : Str)] ++ ps.drop s).length ≤ 6 := by
      rw [List.length_append, List.length_append, List.length_take, List.length_drop]
      simp only [List.length_cons, List.length_nil]; omega
    refine w_grd (by rw [List.length_append] at ll; rw [List.length_append] at ll; omega) (w_grd (by rw [List.length_append] at ll; omega) (w_grd (join_ok8 pp (by omega)) (w_ok ⟨rfl, bad_of (by simp) pp (by omega) (p := "") (by simp) not_nil⟩)))
  · rw [if_neg y]
    have n1 : Str.length "0" = 1 ∧ Str.length "-" = 1 ∧ Str.length "+" = 1 ∧ Str.length "a" = 1 ∧ Str.length "." = 1 ∧ Str.length "1" = 1 := ⟨rfl, rfl, rfl, rfl, rfl, rfl⟩
    have n30 : Str.length (PySem.Txt.mul "0" 30) = 30 := by decide +kernel
    have pw : 1 ≤ p.length := (pq p (List.mem_of_getElem? hp))
    refine w_grd (by omega) (w_grd (by omega) (w_grd (by omega) (w_grd (by omega) (w_grd (by omega) (w_grd (by omega) (w_grd (by simp) ?_))))))
    refine w_pick (by omega) (by simp only [List.length_append, List.length_cons, List.length_nil]; omega) fun x hx => ?_
    have X : Piece x ∧ isNum x = false := by
      have p0 : Piece "0" := piece_lit (by decide +kernel) (by decide +kernel)
      simp only [List.cons_append, List.nil_append, List.mem_cons, List.not_mem_nil, or_false] at hx
      rcases hx with rfl | rfl | rfl | rfl | rfl | rfl | rfl | rfl | rfl | rfl | rfl | rfl
      · exact ⟨piece_app p0 P (by omega), isNum_zero pw⟩
      · exact ⟨piece_app (piece_lit (by decide +kernel) (by decide +kernel)) P (by omega), isNum_sign (c := 45) (by rw [TL.tl_append]; exact List.mem_append_left _ (by decide +kernel)) (by omega)⟩
      · exact ⟨piece_app (piece_lit (by decide +kernel) (by decide +kernel)) P (by omega), isNum_sign (c := 43) (by rw [TL.tl_append]; exact List.mem_append_left _ (by decide +kernel)) (by omega)⟩
      · exact ⟨piece_app P (piece_lit (by decide +kernel) (by decide +kernel)) (by omega), isNum_sign (c := 97) (by rw [TL.tl_append]; exact List.mem_append_right _ (by decide +kernel)) (by omega)⟩
      · exact ⟨piece_app P (piece_lit (by decide +kernel) (by decide +kernel)) (by omega), isNum_sign (c := 46) (by rw [TL.tl_append]; exact List.mem_append_right _ (by decide +kernel)) (by omega)⟩
      all_goals exact ⟨piece_lit (by decide +kernel) (by decide +kernel), by decide +kernel⟩
    unfold setR
    rw [ixN_nat (show s < ps.length by omega)]
    have pp : ∀ q ∈ ps.set s x, Piece q := fun q hq => by
      rcases List.mem_or_eq_of_mem_set hq with hq | rfl
      · exact (pc q hq).1
      · exact X.1
    have mx : x ∈ ps.set s x := List.mem_of_getElem? (i := s) (List.getElem?_set_self (by omega))
    exact w_grd (join_ok8 pp (by rw [List.length_set]; omega)) (w_ok ⟨rfl, bad_of (fun z => by rw [z] at mx; cases mx) pp (by rw [List.length_set]; omega) mx X.2⟩)

abbrev U61 := (Int × List (List Int)) ⊕ (Int × List (List Int)) ⊕ List Int
def nm61 : Xc → Str
  | .picture => "picture" | .out => "out" | .meet => "meet" | .tile => "tile" | .inks => "inks" | .shares => "shares" | .shade => "shade" | .stretches => "stretches" | .way => "way" | .text => "text"
def toldU {α : Type} (inj : α → U61) : Rs α → Rs (U61 ⊕ Int ⊕ Str)
  | .ok s => .ok (.inl (inj s))
  | .exc .text (some n) => .ok (.inr (.inl n))
  | .exc .text none => .bad
  | .exc c _ => .ok (.inr (.inr (nm61 c)))
  | .bad => .bad
theorem told0 (x : Str) : m_law_told 0 x = toldU .inl (m_read_picture x) := by
  unfold m_law_told
  rw [if_pos rfl]
  cases m_read_picture x with
  | ok s => rfl
  | bad => rfl
  | exc e l =>
    show (m_law_word (e, l)).bnd _ = _
    rw [word_ok]
    cases e <;> first | rfl | (cases l <;> rfl)
theorem told1 (x : Str) : m_law_told 1 x = toldU (fun t => .inr (.inl t)) (m_read_tile x) := by
  unfold m_law_told
  rw [if_neg (by decide), if_pos rfl]
  cases m_read_tile x with
  | ok s => rfl
  | bad => rfl
  | exc e l =>
    show (m_law_word (e, l)).bnd _ = _
    rw [word_ok]
    cases e <;> first | rfl | (cases l <;> rfl)
theorem told2 (x : Str) : m_law_told 2 x = toldU (fun t => .inr (.inr t)) (m_read_numbers x) := by
  unfold m_law_told
  rw [if_neg (by decide), if_neg (by decide)]
  cases m_read_numbers x with
  | ok s => rfl
  | bad => rfl
  | exc e l =>
    show (m_law_word (e, l)).bnd _ = _
    rw [word_ok]
    cases e <;> first | rfl | (cases l <;> rfl)
theorem toldU_text {α : Type} {inj : α → U61} {x : Rs α} {n : Int} (h : x = .exc .text (some n)) : toldU inj x = .ok (.inr (.inl n)) := by rw [h]; rfl
theorem som_ok {α β : Type} (x : α) (k : α → Rs β) : somR (some x) k = k x := rfl
theorem rowsBad_of {rs : List Str} {k : Nat} (hl : rs.length ≤ 10) (h : ∀ r ∈ rs, r.length ≤ 15000 ∧ 10 ∉ TL.tl r) (bad : ∃ r, rs[k]? = some r ∧ BadRow r) (good : ∀ i < k, ∃ r, rs[i]? = some r ∧ GoodRow r) : RowsBad rs k := by
  have a := join_len "\n" rs
  have c := sum_le (xs := rs) (f := (·.length)) (n := 15000) fun r hr => (h r hr).1
  rw [len_one.2] at a
  have : rs.length * 15000 ≤ 10 * 15000 := Nat.mul_le_mul_right _ hl
  refine ⟨by omega, fun r hr => (h r hr).2, bad, good, ?_⟩
  obtain ⟨r, hr, _⟩ := bad
  have := lt_of_at hr
  omega
theorem good_len {w : List Int} (W : RowOk w) : (txtN w).length ≤ 15000 ∧ 10 ∉ TL.tl (txtN w) := by
  have := txtN_len W.2.2
  have := W.2.1
  exact ⟨by omega, txtN_free W.2.2 (by omega)⟩
theorem joinN_ok {rs : List Str} (hl : rs.length ≤ 10) (h : ∀ r ∈ rs, r.length ≤ 15000) : joinOk "\n" rs = true := by
  have b := sum_le (xs := rs) (f := (·.length)) (n := 15000) h
  refine decide_eq_true ?_
  rw [len_one.2]
  have : rs.length * 15000 ≤ 10 * 15000 := Nat.mul_le_mul_right _ hl
  omega
theorem eb61 (n : Int) : eE3b (.inr (.inl n) : U61 ⊕ Int ⊕ Str) = some n := rfl
theorem ec61 (s : Str) : eE3c (.inr (.inr s) : U61 ⊕ Int ⊕ Str) = some s := rfl
/-- texts as which of the three -/
structure Txt3 (which : Int) (t : List (List Int)) : Prop where
  tab : TabOk t
  l : t.length ≤ 5
  w : ∀ v ∈ t, v.length ≤ 5
  bad : ∀ rs k, RowsBad rs k → k < t.length → (0 < k → rs[0]? = (t.map txtN)[0]?) → m_law_told which (Txt.join "\n" rs) = .ok (.inr (.inl (k : Int)))
theorem sameTI (n : Int) : sameD ((eP Dat.str Dat.int) ("text", n)) ((eP Dat.str Dat.int) ("text", n)) = true := (SamE.eP SamE.str SamE.int).refl _
theorem widTI (n : Int) : wid ((eP Dat.str Dat.int) ("text", n)) ≤ 1000000 := wid_eP (by omega) (by simp only [wid]; omega) (by rw [wid_int]; omega)
theorem rows_bad_ok (ns : List Int) (n : Int) (n0 : 0 ≤ n) (n1 : n ≤ 999990000) {which : Int} {t : List (List Int)} (T : Txt3 which t) : Post (m_law_rows_bad ns [n] which (t.map txtN)) (fun r => r.1 = true ∧ Dr n 10 r.2) fun _ _ => False := by
  have tp : 0 < t.length := List.length_pos_iff.mpr T.tab.1
  have tl := T.l
  have ml : (t.map txtN).length = t.length := List.length_map ..
  have gd : ∀ (i : Nat) r, (t.map txtN)[i]? = some r → ∃ v ∈ t, r = txtN v := fun i r hr => by
    obtain ⟨v, hv, rfl⟩ := List.mem_map.mp (List.mem_of_getElem? hr)
    exact ⟨v, hv, rfl⟩
  unfold m_law_rows_bad
  obtain ⟨m, hm, m0, m1⟩ := next_ok ns n n0 (by omega)
  rw [hm, Rs.bnd_ok, ml]
  dsimp only
  refine w_grd (by omega) ?_
  have s0 := Int.emod_nonneg m (b := (t.length : Int)) (by omega)
  have s1 := Int.emod_lt_of_pos m (show 0 < (t.length : Int) by omega)
  obtain ⟨k, hk⟩ : ∃ k : Nat, m % (t.length : Int) = (k : Int) := ⟨(m % (t.length : Int)).toNat, by omega⟩
  rw [hk] at s0 s1 ⊢
  obtain ⟨v, hv⟩ := at_of_lt (xs := t) (i := k) (by omega)
  have vm := List.mem_of_getElem? hv
  rw [show ixR (t.map txtN) (k : Int) = .ok (txtN v) from ixR_of (by rw [List.getElem?_map, hv]; rfl), Rs.bnd_ok]
  refine w_call (law_bad_ok ns (n + 1) (by omega) (by omega) (T.tab.2.2 v vm) (T.w v vm)) ?_
  rintro ⟨b, _⟩ ⟨rfl, B, bl⟩
  dsimp only at B bl ⊢
  unfold setR
  rw [ml, ixN_nat (show k < t.length by omega)]
  dsimp only
  obtain ⟨m', hm', m0', m1'⟩ := next_ok ns (n + 1 + 1) (by omega) (by omega)
  rw [hm', Rs.bnd_ok]
  dsimp only
  refine w_grd (by omega) ?_
  have u0 := Int.emod_nonneg m' (b := (t.length : Int)) (by omega)
  have u1 := Int.emod_lt_of_pos m' (show 0 < (t.length : Int) by omega)
  obtain ⟨j, hj⟩ : ∃ j : Nat, m' % (t.length : Int) = (j : Int) := ⟨(m' % (t.length : Int)).toNat, by omega⟩
  rw [hj] at u0 u1 ⊢
  have fin : ∀ (rs : List Str) (at_ : Int), rs.length = t.length → (∀ r ∈ rs, r.length ≤ 15000 ∧ 10 ∉ TL.tl r) → (∃ r, rs[k]? = some r ∧ BadRow r) → (∀ i < k, rs[i]? = (t.map txtN)[i]?) → n ≤ at_ → at_ ≤ n + 10 → Post (grd (joinOk "\n" rs = true) <| (m_law_told which (Txt.join "\n" rs)).bnd fun x11 =>
      somR (eE3b x11) fun y1 =>
      grd (wid ((eP Dat.str Dat.int) ("text", y1)) ≤ 1000000) <| .ok (((sameD ((eP Dat.str Dat.int) ("text", y1)) ((eP Dat.str Dat.int) ("text", (k : Int)))), [at_]))) (fun r => r.1 = true ∧ Dr n 10 r.2) fun _ _ => False := by
    intro rs at_ rl rr rb rg a0 a1
    have RB := rowsBad_of (rs := rs) (k := k) (by omega) rr rb fun i hi => by
      rw [rg i hi]
      obtain ⟨v, hv⟩ := at_of_lt (xs := t) (i := i) (by omega)
      exact ⟨txtN v, by rw [List.getElem?_map, hv]; rfl, v, T.tab.2.2 v (List.mem_of_getElem? hv), rfl⟩
    refine w_grd (joinN_ok (by omega) fun r hr => (rr r hr).1) ?_
    rw [T.bad rs k RB (by omega) (fun h => rg 0 h), Rs.bnd_ok, eb61, som_ok]
    exact w_grd (widTI _) (w_ok ⟨sameTI _, at_, rfl, a0, a1⟩)
  have r1 : ∀ r ∈ (t.map txtN).set k b, r.length ≤ 15000 ∧ 10 ∉ TL.tl r := fun r hr => by
    rcases List.mem_or_eq_of_mem_set hr with hr | rfl
    · obtain ⟨v, hv, rfl⟩ := List.mem_map.mp hr
      exact good_len (T.tab.2.2 v hv)
    · exact ⟨bl, B.line⟩
  by_cases z : (k : Int) < (j : Int)
  · rw [if_pos z]
    obtain ⟨v2, hv2⟩ := at_of_lt (xs := t) (i := j) (by omega)
    have vm2 := List.mem_of_getElem? hv2
    rw [show ixR (t.map txtN) (j : Int) = .ok (txtN v2) from ixR_of (by rw [List.getElem?_map, hv2]; rfl), Rs.bnd_ok]
    refine w_thn (w_call (law_bad_ok ns (n + 1 + 1 + 1) (by omega) (by omega) (T.tab.2.2 v2 vm2) (T.w v2 vm2)) ?_)
    rintro ⟨b2, _⟩ ⟨rfl, B2, bl2⟩
    dsimp only at B2 bl2 ⊢
    rw [List.length_set, ml, ixN_nat (show j < t.length by omega)]
    refine w_ok (X := fun _ _ => False) (fin (((t.map txtN).set k b).set j b2) _ (by rw [List.length_set, List.length_set, ml]) (fun r hr => ?_) ⟨b, ?_, B⟩ (fun i hi => ?_) (by omega) (by omega))
    · rcases List.mem_or_eq_of_mem_set hr with hr | rfl
      · exact r1 r hr
      · exact ⟨bl2, B2.line⟩
    · rw [List.getElem?_set_ne (by omega), List.getElem?_set_self (by omega)]
    · rw [List.getElem?_set_ne (by omega), List.getElem?_set_ne (by omega)]
  · rw [if_neg z]
    refine w_thn (w_ok (X := fun _ _ => False) (fin ((t.map txtN).set k b) _ (by rw [List.length_set, ml]) r1 ⟨b, ?_, B⟩ (fun i hi => ?_) (by omega) (by omega)))
    · rw [List.getElem?_set_self (by omega)]
    · rw [List.getElem?_set_ne (by omega)]

theorem snoc_bad {t : List (List Int)} (h : TabOk t) (l : t.length ≤ 8) : RowsBad (t.map txtN ++ [("" : Str)]) t.length := by
  refine rowsBad_of (by rw [List.length_append, List.length_map]; simp; omega) (fun r hr => ?_) ⟨"", ?_, bad_one piece_nil not_nil⟩ fun i hi => ?_
  · rcases List.mem_append.mp hr with hr | hr
    · obtain ⟨v, hv, rfl⟩ := List.mem_map.mp hr
      exact good_len (h.2.2 v hv)
    · rw [List.mem_singleton.mp hr]
      exact ⟨by decide +kernel, by decide +kernel⟩
  · rw [List.getElem?_append_right (by rw [List.length_map]; exact Nat.le_refl _), List.length_map, Nat.sub_self]; rfl
  · obtain ⟨v, hv⟩ := at_of_lt (xs := t) (i := i) hi
    exact ⟨txtN v, by rw [List.getElem?_append_left (by rw [List.length_map]; exact hi), List.getElem?_map, hv]; rfl, v, h.2.2 v (List.mem_of_getElem? hv), rfl⟩
theorem join_line {t : List (List Int)} (h : TabOk t) : txtT t ++ "\n" = Txt.join "\n" (t.map txtN ++ [("" : Str)]) := by
  rw [join_snoc _ _ (fun z => h.1 (List.map_eq_nil_iff.mp z))]
  exact TL.ext_tl (by rw [TL.tl_append, TL.tl_append, TL.tl_append "\n", show TL.tl "" = [] from rfl, List.append_nil]; rfl)
theorem nil_bad : RowsBad [("" : Str)] 0 := rowsBad_of (by simp) (fun r hr => by rw [List.mem_singleton.mp hr]; exact ⟨by decide +kernel, by decide +kernel⟩) ⟨"", rfl, bad_one piece_nil not_nil⟩ fun i hi => by omega
theorem nil_join : ("" : Str) = Txt.join "\n" [("" : Str)] := (join_one _ _).symm
/-- numbers of one row, and a row more -/
theorem two_rows {w : List Int} (W : RowOk w) {x : Str} (hx : 10 ∉ TL.tl x) (xl : x.length ≤ 15000) : m_read_numbers (Txt.join "\n" [txtN w, x]) = .exc .text (some 1) := by
  obtain ⟨g1, g2⟩ := good_len W
  have a := join_len "\n" [txtN w, x]
  rw [len_one.2] at a
  simp only [List.map_cons, List.map_nil, List.sum_cons, List.sum_nil, List.length_cons, List.length_nil] at a
  have e : Txt.split (Txt.join "\n" [txtN w, x]) "\n" = [txtN w, x] := split_line (by simp) fun p hp => by
    rcases List.mem_cons.mp hp with rfl | hp
    · exact g2
    · rw [List.mem_singleton.mp hp]; exact hx
  unfold m_read_numbers
  rw [grd_of (by omega), e, ixR_zero, Rs.bnd_ok, numbers_from_ok W, Rs.bnd_ok]
  show (if false = true then _ else somR (some w) _) = _
  rw [if_neg (by decide)]
  show (grd ((Txt.join "\n" [txtN w, x]).length ≤ 1000000) _) = _
  rw [grd_of (by omega), if_pos (by simp)]
/-- the first row alone -/
theorem split_one {f : Int} (hf : NumOk f) : m_split_rows (txtN [f]) = .exc .text (some 1) := by
  have W : RowOk [f] := ⟨by simp, by simp, fun n hn => by rw [List.mem_singleton.mp hn]; exact hf⟩
  obtain ⟨g1, g2⟩ := good_len W
  have e : Txt.split (txtN [f]) "\n" = [txtN [f]] := by
    have := split_line (ps := [txtN [f]]) (by simp) fun p hp => by rw [List.mem_singleton.mp hp]; exact g2
    rw [join_one] at this
    exact this
  have r := rows_from_ok (t := [[f]]) ⟨by simp, by simp, fun w hw => by rw [List.mem_singleton.mp hw]; exact W⟩ (by simp)
  rw [show txtT [[f]] = txtN [f] from join_one _ _] at r
  unfold m_split_rows
  rw [grd_of (by omega), e, ixR_zero, Rs.bnd_ok, numbers_from_ok W, Rs.bnd_ok]
  show Rs.bnd (if false = true then _ else somR (some [f]) fun y1 => .ok (!decide ((y1.length : Int) = 1)) : Rs Bool) _ = _
  rw [if_neg (by decide)]
  show (m_rows_from (txtN [f])).bnd _ = _
  rw [r, Rs.bnd_ok]
  exact if_pos rfl
/-- two numbers in the first row -/
theorem split_two {f : Int} (hf : NumOk f) {rs : List Str} (hl : rs.length ≤ 8) (h : ∀ r ∈ rs, r.length ≤ 15000 ∧ 10 ∉ TL.tl r) : m_split_rows (Txt.join "\n" (txtN [f, 1] :: rs)) = .exc .text (some 0) := by
  have W : RowOk [f, 1] := ⟨by simp, by simp, fun n hn => by
    simp only [List.mem_cons, List.not_mem_nil, or_false] at hn
    rcases hn with rfl | rfl
    · exact hf
    · exact ⟨by omega, by omega⟩⟩
  have hr : ∀ r ∈ txtN [f, 1] :: rs, r.length ≤ 15000 ∧ 10 ∉ TL.tl r := fun r hr => by
    rcases List.mem_cons.mp hr with rfl | hr
    · exact good_len W
    · exact h r hr
  have a := join_len "\n" (txtN [f, 1] :: rs)
  have c := sum_le (xs := txtN [f, 1] :: rs) (f := (·.length)) (n := 15000) fun r q => (hr r q).1
  rw [len_one.2] at a
  rw [List.length_cons] at a c
  have : (rs.length + 1) * 15000 ≤ 9 * 15000 := Nat.mul_le_mul_right _ (by omega)
  have e : Txt.split (Txt.join "\n" (txtN [f, 1] :: rs)) "\n" = txtN [f, 1] :: rs := split_line (by simp) fun p hp => (hr p hp).2
  unfold m_split_rows
  rw [grd_of (by omega), e, ixR_zero, Rs.bnd_ok, numbers_from_ok W]
  rfl
theorem txtN_two (f : Int) : txtN [f] ++ " 1" = txtN [f, 1] := by
  have := join_snoc " " (strI 1) (ps := [strI f]) (by simp)
  show Txt.join " " [strI f] ++ " 1" = Txt.join " " [strI f, strI 1]
  rw [show [strI f, strI 1] = [strI f] ++ [strI 1] from rfl, this]
  rfl
/-- which of the two kinds of tables -/
structure Two (which : Int) (f : Int) (r : List (List Int)) : Prop where
  t : Txt3 which ([f] :: r)
  hf : NumOk f
  ne : which = 0 ∨ which = 1
  exc : ∀ x n, m_split_rows x = .exc .text (some n) → m_law_told which x = .ok (.inr (.inl n))
theorem Two.of {which f : Int} {r : List (List Int)} (hw : which = 0 ∨ which = 1) (hf : NumOk f) (h : TabOk r) (l : r.length ≤ 4) (w : ∀ v ∈ r, v.length ≤ 5) : Two which f r := by
  have ex : ∀ x n, m_split_rows x = .exc .text (some n) → m_law_told which x = .ok (.inr (.inl n)) := fun x n e => by
    rcases hw with rfl | rfl
    · rw [told0]
      refine toldU_text ?_
      unfold m_read_picture
      rw [e]; rfl
    · rw [told1]
      refine toldU_text ?_
      unfold m_read_tile
      rw [e]; rfl
  refine ⟨⟨⟨by simp, by rw [List.length_cons]; omega, fun v hv => ?_⟩, by rw [List.length_cons]; omega, fun v hv => ?_, fun rs k RB kl one => ex _ _ (split_rows_bad RB fun h => ⟨f, hf, one h⟩)⟩, hf, hw, ex⟩
  · rcases List.mem_cons.mp hv with rfl | hv
    · exact ⟨by simp, by simp, fun n hn => by rw [List.mem_singleton.mp hn]; exact hf⟩
    · exact h.2.2 v hv
  · rcases List.mem_cons.mp hv with rfl | hv
    · simp
    · exact w v hv
theorem Txt3.one {w : List Int} (W : RowOk w) (wl : w.length ≤ 5) : Txt3 2 [w] where
  tab := ⟨by simp, by simp, fun v hv => by rw [List.mem_singleton.mp hv]; exact W⟩
  l := by simp
  w := fun v hv => by rw [List.mem_singleton.mp hv]; exact wl
  bad := fun rs k RB kl _ => by
    have k0 : k = 0 := by simp at kl; exact kl
    subst k0
    rw [told2]
    exact toldU_text (read_numbers_bad RB)
theorem more_two (ns : List Int) (n : Int) (n0 : 0 ≤ n) (n1 : n ≤ 999990000) {which f : Int} {r : List (List Int)} (T : Two which f r) : m_law_rows_more ns [n] which (([f] :: r).map txtN) = .ok (true, [n + 1]) := by
  refine Post.okD ?_
  have H := T.t.tab
  have l := T.t.l
  have ml : (([f] :: r).map txtN).length = r.length + 1 := by rw [List.length_map, List.length_cons]
  have rr : ∀ x ∈ ([f] :: r).map txtN, x.length ≤ 15000 ∧ 10 ∉ TL.tl x := fun x hx => by
    obtain ⟨v, hv, rfl⟩ := List.mem_map.mp hx
    exact good_len (H.2.2 v hv)
  rw [List.length_cons] at l
  unfold m_law_rows_more
  obtain ⟨m, hm, m0, m1⟩ := next_ok ns n n0 (by omega)
  rw [hm, Rs.bnd_ok]
  dsimp only
  refine w_grd (joinN_ok (by rw [ml]; omega) fun x hx => (rr x hx).1) ?_
  have tl := txtT_len H.2.2
  rw [List.length_cons] at tl
  rw [show Txt.join "\n" (([f] :: r).map txtN) = txtT ([f] :: r) from rfl, grd_of (by rw [len_one.2]; omega), join_line H]
  have SB := snoc_bad H (by rw [List.length_cons]; omega)
  rw [T.exc _ _ (split_rows_bad SB fun _ => ⟨f, T.hf, rfl⟩), Rs.bnd_ok, eb61, som_ok, grd_of (widTI _), ml, List.length_cons, if_pos (sameTI _)]
  have e0 : m_law_told which "" = .ok (.inr (.inl ((0 : Nat) : Int))) := by
    rw [nil_join]
    exact T.exc _ _ (split_rows_bad nil_bad fun h => by omega)
  rw [e0, Rs.bnd_ok, eb61, som_ok, show wordEqI "text" ((0 : Nat) : Int) "text" 0 = true from wordEqI_iff.mpr ⟨rfl, rfl⟩, Rs.bnd_ok, if_neg (by decide), if_neg (by rcases T.ne with h | h <;> omega)]
  rw [show ixR (([f] :: r).map txtN) 0 = .ok (txtN [f]) from ixR_zero, Rs.bnd_ok, T.exc _ _ (split_one T.hf), Rs.bnd_ok, eb61, som_ok]
  refine w_grd (widTI _) ?_
  have g1 := good_len (H.2.2 [f] List.mem_cons_self)
  rw [if_pos (sameTI _), Rs.bnd_ok, grd_of (by rw [show Str.length " 1" = 2 from rfl]; omega), txtN_two]
  refine w_pick (Int.emod_nonneg _ (by decide)) (by
    have := Int.emod_lt_of_pos m (b := 3) (by decide)
    simp only [List.length_cons, List.length_nil]; omega) fun rs hrs => ?_
  have R : rs.length ≤ 8 ∧ ∀ x ∈ rs, x.length ≤ 15000 ∧ 10 ∉ TL.tl x := by
    simp only [List.mem_cons, List.not_mem_nil, or_false] at hrs
    rcases hrs with rfl | rfl | rfl
    · rw [cutL_from (by decide)]
      exact ⟨by rw [List.length_drop, ml]; omega, fun x hx => rr x (List.mem_of_mem_drop hx)⟩
    · exact ⟨by simp, fun x hx => by rw [List.mem_singleton.mp hx]; exact ⟨by decide +kernel, by decide +kernel⟩⟩
    · exact ⟨by simp, fun x hx => by cases hx⟩
  have g2 := good_len (w := [f, 1]) ⟨by simp, by simp, fun n hn => by
    simp only [List.mem_cons, List.not_mem_nil, or_false] at hn
    rcases hn with rfl | rfl
    · exact T.hf
    · exact ⟨by omega, by omega⟩⟩
  refine w_grd (by simp only [List.length_cons, List.length_nil]; omega) (w_grd (joinN_ok (by rw [List.length_append]; simp only [List.length_cons, List.length_nil]; omega) fun x hx => ?_) ?_)
  · rcases List.mem_append.mp hx with hx | hx
    · rw [List.mem_singleton.mp hx]; exact g2.1
    · exact (R.2 x hx).1
  rw [show [txtN [f, 1]] ++ rs = txtN [f, 1] :: rs from rfl, T.exc _ _ (split_two T.hf R.1 R.2), Rs.bnd_ok, eb61, som_ok]
  refine w_grd (widTI _) (w_ok ?_)
  rw [sameTI]
theorem more_one (ns : List Int) (n : Int) (n0 : 0 ≤ n) (n1 : n ≤ 999990000) {w : List Int} (W : RowOk w) : m_law_rows_more ns [n] 2 ([w].map txtN) = .ok (true, [n + 1]) := by
  refine Post.okD ?_
  obtain ⟨g1, g2⟩ := good_len W
  unfold m_law_rows_more
  obtain ⟨m, hm, m0, m1⟩ := next_ok ns n n0 (by omega)
  rw [hm, Rs.bnd_ok]
  dsimp only
  rw [show Txt.join "\n" ([w].map txtN) = txtN w from join_one _ _]
  refine w_grd (joinN_ok (by simp) fun x hx => by
    have : x = txtN w := by simpa using hx
    rw [this]; exact g1) ?_
  have l1 := len_one.2
  have e1 : txtN w ++ "\n" = Txt.join "\n" [txtN w, ""] := by
    have := join_snoc "\n" "" (ps := [txtN w]) (by simp)
    rw [show [txtN w, ("" : Str)] = [txtN w] ++ [("" : Str)] from rfl, this, join_one]
    exact TL.ext_tl (by rw [TL.tl_append, TL.tl_append, TL.tl_append "\n", show TL.tl "" = [] from rfl, List.append_nil])
  have t1 : m_law_told 2 (txtN w ++ "\n") = .ok (.inr (.inl 1)) := by
    rw [told2, e1]
    exact toldU_text (two_rows W (by decide +kernel) (by decide +kernel))
  rw [grd_of (by omega), t1, Rs.bnd_ok, eb61, som_ok, grd_of (widTI _), show ((([w].map txtN).length : Nat) : Int) = 1 from rfl, if_pos (sameTI _)]
  have e0 : m_law_told 2 "" = .ok (.inr (.inl 0)) := by
    rw [told2]
    have := read_numbers_bad nil_bad
    rw [← nil_join] at this
    exact toldU_text this
  rw [e0, Rs.bnd_ok, eb61, som_ok, show wordEqI "text" 0 "text" 0 = true from wordEqI_iff.mpr ⟨rfl, rfl⟩, Rs.bnd_ok, if_neg (by decide), if_pos rfl, grd_of (by omega)]
  refine w_pick (Int.emod_nonneg _ (by decide)) (by
    have := Int.emod_lt_of_pos m (b := 3) (by decide)
    simp only [List.length_cons, List.length_nil]; omega) fun x hx => ?_
  have X : x.length ≤ 15000 ∧ 10 ∉ TL.tl x := by
    simp only [List.mem_cons, List.not_mem_nil, or_false] at hx
    rcases hx with rfl | rfl | rfl
    · exact ⟨g1, g2⟩
    · exact ⟨by decide +kernel, by decide +kernel⟩
    · exact ⟨by decide +kernel, by decide +kernel⟩
  refine w_grd (by rw [al_str]; omega) ?_
  have e2 : txtN w ++ "\n" ++ x = Txt.join "\n" [txtN w, x] := by
    have := join_snoc "\n" x (ps := [txtN w]) (by simp)
    rw [show [txtN w, x] = [txtN w] ++ [x] from rfl, this, join_one]
    exact TL.ext_tl (by rw [TL.tl_append, TL.tl_append, TL.tl_append, TL.tl_append, List.append_assoc])
  have t2 : m_law_told 2 (txtN w ++ "\n" ++ x) = .ok (.inr (.inl 1)) := by
    rw [told2, e2]
    exact toldU_text (two_rows W X.2 X.1)
  rw [t2, Rs.bnd_ok, eb61, som_ok]
  refine w_grd (widTI _) (w_ok ?_)
  rw [sameTI]

theorem none_ok (ns : List Int) (n : Int) (n0 : 0 ≤ n) (n1 : n ≤ 999990000) {which count : Int} {c : Nat} {table : List (List Int)} (hw : which = 0 ∨ which = 1) (q1 : 1 ≤ count) (q2 : count ≤ 999999999999999999999999999000)
    (t0 : 0 < table.length) (t1 : table.length ≤ 4) (c0 : 0 < c) (c1 : c ≤ 5) (row : ∀ w ∈ table, w.length = c ∧ ∀ x ∈ w, 1 ≤ x ∧ x ≤ count) : m_law_none ns [n] which count table = .ok (true, [n + 1]) := by
  refine Post.okD ?_
  unfold m_law_none
  obtain ⟨m, hm, m0, m1⟩ := next_ok ns n n0 (by omega)
  rw [hm, Rs.bnd_ok]
  dsimp only
  refine w_grd (by omega) ?_
  rw [mapR_map (fun y => y) table (fun _ _ => rfl), Rs.bnd_ok, List.map_id']
  refine w_grd (by omega) ?_
  obtain ⟨w0, hw0⟩ := at_of_lt (xs := table) (i := 0) t0
  have wl0 := (row w0 (List.mem_of_getElem? hw0)).1
  rw [show ixR table 0 = .ok w0 from ixR_of (i := 0) hw0, Rs.bnd_ok, wl0]
  refine w_grd (by omega) ?_
  -- what is made: rows fit for a text, but no picture, no tile
  have fin : ∀ (first : Int) (made : List (List Int)), NumOk first → TabOk made → made.length ≤ 4 → (∀ v ∈ made, v.length ≤ 6) → (which = 0 → ¬ (1 ≤ first ∧ KeptG made 0 first)) → (which = 1 → ¬ (1 ≤ first ∧ KeptG made 1 first)) → Post ((m_law_text first made).bnd fun x13 =>
      (m_law_told which x13).bnd fun x14 =>
      (ixR (["picture", "tile"] : List Str) which).bnd fun x15 =>
      somR (eE3c x14) fun y2 =>
      grd (PyData.strOk y2 = true) <| grd (PyData.strOk x15 = true) <| if (wordEq "no" y2 "no" x15) = true then (grd (Str.length x13 + Str.length "\n" ≤ 1000000) <| (m_law_told which (x13 ++ "\n")).bnd fun x16 =>
      somR (eE3b x16) fun y3 =>
      grd (wid ((eP Dat.str Dat.int) ("text", y3)) ≤ 1000000) <| .ok (((sameD ((eP Dat.str Dat.int) ("text", y3)) ((eP Dat.str Dat.int) ("text", ((made.length : Int) + 1)))), [n + 1]))) else (.ok ((false, [n + 1])))) (fun r => r = (true, [n + 1])) fun _ _ => False := by
    intro first made hf H l vl k0 k1
    have H1 : TabOk ([first] :: made) := ⟨by simp, by rw [List.length_cons]; omega, fun v hv => by
      rcases List.mem_cons.mp hv with rfl | hv
      · exact ⟨by simp, by simp, fun n hn => by rw [List.mem_singleton.mp hn]; exact hf⟩
      · exact H.2.2 v hv⟩
    have tl := txtT_len H1.2.2
    rw [List.length_cons] at tl
    have SB := snoc_bad H1 (by rw [List.length_cons]; omega)
    rw [law_text_ok hf H.2.2 (by omega), Rs.bnd_ok]
    rcases hw with rfl | rfl
    · have e : m_law_told 0 (txtT ([first] :: made)) = .ok (.inr (.inr "picture")) := by
        rw [told0]
        unfold m_read_picture
        rw [split_rows_ok hf H (by omega), Rs.bnd_ok, picture_no first made (by omega) (k0 rfl)]; rfl
      have e2 : m_law_told 0 (txtT ([first] :: made) ++ "\n") = .ok (.inr (.inl (([first] :: made).length : Int))) := by
        rw [told0, join_line H1]
        refine toldU_text ?_
        unfold m_read_picture
        rw [split_rows_bad SB fun _ => ⟨first, hf, rfl⟩]; rfl
      rw [e, Rs.bnd_ok, show ixR (["picture", "tile"] : List Str) 0 = .ok "picture" from rfl, Rs.bnd_ok, ec61, som_ok, grd_of (by decide +kernel), grd_of (by decide +kernel), if_pos (wordEq_iff.mpr ⟨rfl, rfl⟩), grd_of (by rw [len_one.2]; omega), e2, Rs.bnd_ok, eb61, som_ok, grd_of (widTI _), List.length_cons]
      exact w_ok (by rw [show (((made.length + 1 : Nat)) : Int) = (made.length : Int) + 1 by push_cast; rfl, sameTI])
    · have e : m_law_told 1 (txtT ([first] :: made)) = .ok (.inr (.inr "tile")) := by
        rw [told1]
        unfold m_read_tile
        rw [split_rows_ok hf H (by omega), Rs.bnd_ok, tile_no first made (by omega) (k1 rfl)]; rfl
      have e2 : m_law_told 1 (txtT ([first] :: made) ++ "\n") = .ok (.inr (.inl (([first] :: made).length : Int))) := by
        rw [told1, join_line H1]
        refine toldU_text ?_
        unfold m_read_tile
        rw [split_rows_bad SB fun _ => ⟨first, hf, rfl⟩]; rfl
      rw [e, Rs.bnd_ok, show ixR (["picture", "tile"] : List Str) 1 = .ok "tile" from rfl, Rs.bnd_ok, ec61, som_ok, grd_of (by decide +kernel), grd_of (by decide +kernel), if_pos (wordEq_iff.mpr ⟨rfl, rfl⟩), grd_of (by rw [len_one.2]; omega), e2, Rs.bnd_ok, eb61, som_ok, grd_of (widTI _), List.length_cons]
      exact w_ok (by rw [show (((made.length + 1 : Nat)) : Int) = (made.length : Int) + 1 by push_cast; rfl, sameTI])
  have NC : NumOk count := ⟨by omega, by omega⟩
  have n0' : NumOk 0 := ⟨by omega, by omega⟩
  have n1' : NumOk 1 := ⟨by omega, by omega⟩
  have rowOk : ∀ w ∈ table, RowOk w := fun w hw => by
    obtain ⟨a, b⟩ := row w hw
    exact ⟨fun z => by rw [z] at a; simp at a; omega, by omega, fun x hx => by have := b x hx; exact ⟨by omega, by omega⟩⟩
  have TT : TabOk table := ⟨List.length_pos_iff.mp t0, by omega, rowOk⟩
  have s0 := Int.emod_nonneg m (b := (table.length : Int)) (by omega)
  have s1 := Int.emod_lt_of_pos m (show 0 < (table.length : Int) by omega)
  obtain ⟨k, hk⟩ : ∃ k : Nat, m % (table.length : Int) = (k : Int) := ⟨(m % (table.length : Int)).toNat, by omega⟩
  rw [hk] at s0 s1 ⊢
  obtain ⟨w, hwk⟩ := at_of_lt (xs := table) (i := k) (by omega)
  obtain ⟨wl, wx⟩ := row w (List.mem_of_getElem? hwk)
  have u0 := Int.emod_nonneg (m / 8) (b := (c : Int)) (by omega)
  have u1 := Int.emod_lt_of_pos (m / 8) (show 0 < (c : Int) by omega)
  obtain ⟨j, hj⟩ : ∃ j : Nat, m / 8 % (c : Int) = (j : Int) := ⟨(m / 8 % (c : Int)).toNat, by omega⟩
  rw [hj] at u0 u1 ⊢
  have rs : ∀ v, rowSet table (k : Int) v = table.set k v := fun v => rowSet_of (ixN_nat (show k < table.length by omega))
  have ix : ixR table (k : Int) = .ok w := ixR_of hwk
  have tabset : ∀ v, RowOk v → v.length ≤ 6 → TabOk (table.set k v) ∧ (table.set k v).length ≤ 4 ∧ ∀ u ∈ table.set k v, u.length ≤ 6 := fun v V vl => by
    refine ⟨⟨fun z => ?_, by rw [List.length_set]; omega, fun u hu => ?_⟩, by rw [List.length_set]; exact t1, fun u hu => ?_⟩
    · have := congrArg List.length z
      rw [List.length_set, List.length_nil] at this
      omega
    · rcases List.mem_or_eq_of_mem_set hu with hu | rfl
      · exact rowOk u hu
      · exact V
    · rcases List.mem_or_eq_of_mem_set hu with hu | rfl
      · have := (row u hu).1; omega
      · exact vl
  -- a cell put anew
  have cell : ∀ x : Int, NumOk x → (which = 0 → count < x) → (which = 1 → x < 1 ∨ count < x) → ∃ v, RowOk v ∧ v.length ≤ 6 ∧ w.set j x = v ∧ (which = 0 → ¬ (1 ≤ count ∧ KeptG (table.set k v) 0 count)) ∧ (which = 1 → ¬ (1 ≤ count ∧ KeptG (table.set k v) 1 count)) := fun x X x0 x1 => by
    have vm : w.set j x ∈ table.set k (w.set j x) := List.mem_of_getElem? (i := k) (List.getElem?_set_self (by omega))
    have xm : x ∈ w.set j x := List.mem_of_getElem? (i := j) (List.getElem?_set_self (by omega))
    refine ⟨w.set j x, ⟨fun z => (by rw [z] at xm; cases xm), by rw [List.length_set]; omega, fun y hy => ?_⟩, by rw [List.length_set]; omega, rfl, fun h => ?_, fun h => ?_⟩
    · rcases List.mem_or_eq_of_mem_set hy with hy | rfl
      · exact (rowOk w (List.mem_of_getElem? hwk)).2.2 y hy
      · exact X
    · rintro ⟨_, c', _, _, g⟩
      have := (g _ vm).2 x xm
      have := x0 h
      omega
    · rintro ⟨_, c', _, _, g⟩
      have := (g _ vm).2 x xm
      rcases x1 h with z | z <;> omega
  have kept1 : which = 0 ∨ which = 1 := hw
  refine w_thn ?_
  by_cases v0 : m / 64 % 4 = 0
  · rw [if_pos v0]
    exact w_ok (X := fun _ _ => False) (fin 0 table n0' TT t1 (fun v hv => by have := (row v hv).1; omega) (fun _ h => by have := h.1; omega) (fun _ h => by have := h.1; omega))
  rw [if_neg v0]
  refine w_thn ?_
  by_cases v1 : m / 64 % 4 = 1 ∧ 1 < table.length
  · rw [if_pos v1.1, Rs.bnd_ok, if_pos (decide_eq_true (by omega)), ix, Rs.bnd_ok, rs]
    have V : RowOk (w ++ [1]) := ⟨by simp, by rw [List.length_append]; simp; omega, fun y hy => by
      rcases List.mem_append.mp hy with hy | hy
      · exact (rowOk w (List.mem_of_getElem? hwk)).2.2 y hy
      · rw [List.mem_singleton.mp hy]; exact n1'⟩
    have vl : (w ++ [(1 : Int)]).length = c + 1 := by rw [List.length_append, wl]; rfl
    obtain ⟨a1, a2, a3⟩ := tabset _ V (by omega)
    have no : ∀ lo : Int, ¬ KeptG (table.set k (w ++ [1])) lo count := fun lo => by
      rintro ⟨c', _, _, g⟩
      have h1 := (g (w ++ [1]) (List.mem_of_getElem? (i := k) (List.getElem?_set_self (by omega)))).1
      have : ∃ i, i < table.length ∧ i ≠ k := by
        by_cases z : k = 0
        · exact ⟨1, v1.2, by omega⟩
        · exact ⟨0, by omega, by omega⟩
      obtain ⟨i, il, ik⟩ := this
      obtain ⟨u, hu⟩ := at_of_lt (xs := table) (i := i) il
      have h2 := (g u (List.mem_of_getElem? (i := i) (by rw [List.getElem?_set_ne (by omega)]; exact hu))).1
      have := (row u (List.mem_of_getElem? hu)).1
      omega
    exact w_grd (by omega) (w_ok (X := fun _ _ => False) (w_ok (X := fun _ _ => False) (fin count _ NC a1 a2 a3 (fun _ h => no 0 h.2) (fun _ h => no 1 h.2))))
  · have eb : (if m / 64 % 4 = 1 then (.ok (decide (1 < (table.length : Int))) : Rs Bool) else .ok false) = .ok false := by
      by_cases z : m / 64 % 4 = 1
      · rw [if_pos z, decide_eq_false (fun h => v1 ⟨z, by omega⟩)]
      · rw [if_neg z]
    rw [eb, Rs.bnd_ok, if_neg (by decide)]
    refine w_thn ?_
    by_cases v2 : m / 64 % 4 = 2 ∧ which = 1
    · rw [if_pos v2.1, Rs.bnd_ok, if_pos (decide_eq_true v2.2), ix, Rs.bnd_ok]
      obtain ⟨v, V, vl, e, g0, g1⟩ := cell 0 n0' (fun h => by omega) (fun _ => .inl (by omega))
      obtain ⟨a1, a2, a3⟩ := tabset _ V vl
      unfold setR
      rw [wl, ixN_nat (show j < c by omega)]
      dsimp only
      rw [e, rs]
      exact w_ok (X := fun _ _ => False) (w_ok (X := fun _ _ => False) (w_ok (X := fun _ _ => False) (fin count _ NC a1 a2 a3 g0 g1)))
    · have eb2 : (if m / 64 % 4 = 2 then (.ok (decide (which = 1)) : Rs Bool) else .ok false) = .ok false := by
        by_cases z : m / 64 % 4 = 2
        · rw [if_pos z, decide_eq_false (fun h => v2 ⟨z, h⟩)]
        · rw [if_neg z]
      rw [eb2, Rs.bnd_ok, if_neg (by decide), ix, Rs.bnd_ok]
      obtain ⟨v, V, vl, e, g0, g1⟩ := cell (count + 1 + m / 256 % 9) ⟨by omega, by omega⟩ (fun h => by omega) (fun _ => .inr (by omega))
      obtain ⟨a1, a2, a3⟩ := tabset _ V vl
      unfold setR
      rw [wl, ixN_nat (show j < c by omega)]
      dsimp only
      rw [e, rs]
      exact w_ok (X := fun _ _ => False) (w_ok (X := fun _ _ => False) (w_ok (X := fun _ _ => False) (fin count _ NC a1 a2 a3 g0 g1)))

theorem one_ok (ns : List Int) (n : Int) (h0 : 0 ≤ n) (h1 : n ≤ 999000000) : Post (m_law_one ns [n]) (fun r => r.1 = true ∧ Dr n 40000 r.2) fun _ _ => False := by
  unfold m_law_one
  obtain ⟨m, hm, m0, m1⟩ := next_ok ns n h0 (by omega)
  rw [hm, Rs.bnd_ok]
  dsimp only
  refine w_call (most61 ns (n + 1) (by omega) (by omega)) ?_
  rintro ⟨count, _⟩ ⟨rfl, q1, q2⟩
  dsimp only at q1 q2 ⊢
  have a1 : 1 ≤ 1 + m / 3 % 4 ∧ 1 + m / 3 % 4 ≤ 4 := by omega
  have a2 : 1 ≤ 1 + m / 12 % 5 ∧ 1 + m / 12 % 5 ≤ 5 := by omega
  have a3 : 0 ≤ m % 3 ∧ m % 3 < 3 := by omega
  generalize 1 + m / 3 % 4 = tall at *
  generalize 1 + m / 12 % 5 = broad at *
  generalize m % 3 = which at *
  refine w_call (trows_ok30 ns (n + 1 + 1) count tall broad (by omega) (by omega) (by omega) (by omega) (by omega) (by omega) (by omega)) ?_
  rintro ⟨table, _⟩ ⟨⟨k3, rfl, k30, k31⟩, tl, tw⟩
  dsimp only at tl tw ⊢
  obtain ⟨c, hc⟩ : ∃ c : Nat, broad = (c : Int) := ⟨broad.toNat, by omega⟩
  have row : ∀ w ∈ table, w.length = c ∧ ∀ x ∈ w, 1 ≤ x ∧ x ≤ count := fun w hw => ⟨by have := (tw w hw).1; omega, (tw w hw).2⟩
  have NC : NumOk count := ⟨by omega, by omega⟩
  have rowOk : ∀ w ∈ table, RowOk w := fun w hw => by
    obtain ⟨a, b⟩ := row w hw
    exact ⟨fun z => by rw [z] at a; simp at a; omega, by omega, fun x hx => by have := b x hx; exact ⟨by omega, by omega⟩⟩
  have tp : 0 < table.length := by omega
  have TT : TabOk table := ⟨List.length_pos_iff.mp tp, by omega, rowOk⟩
  have w5 : ∀ v ∈ table, v.length ≤ 5 := fun v hv => by have := (row v hv).1; omega
  have H1 : TabOk ([count] :: table) := ⟨by simp, by rw [List.length_cons]; omega, fun v hv => by
    rcases List.mem_cons.mp hv with rfl | hv
    · exact ⟨by simp, by simp, fun n hn => by rw [List.mem_singleton.mp hn]; exact NC⟩
    · exact rowOk v hv⟩
  have tlen := txtT_len H1.2.2
  rw [List.length_cons] at tlen
  rw [law_text_ok NC TT.2.2 (by omega), Rs.bnd_ok]
  -- three turns of spoilt rows, then what is more
  have turns : ∀ {t : List (List Int)} {R : Type} {K : List Int → Rs (Bool × List Int)} {Q : (Bool × List Int) → Prop}, Txt3 which t → (∀ k, k3 ≤ k → k ≤ k3 + 30 → Post (K [k]) Q fun _ _ => False) → Post (Rs.thn (grd (rngOk 0 3 = true) <| forR (R := (Bool × (List Int))) (fun (x7 : (List Int)) (y1 : Int) =>
      (m_law_rows_bad ns x7 which (t.map txtN)).bnd fun x8 =>
      if x8.1 = true then (.ok (.nx x8.2)) else (.ok (.rt (false, x8.2)))) (rngI 0 3) [k3]) K (fun r => .ok r)) Q fun _ _ => False := by
    intro t R K Q T h
    refine w_thn (w_grd (by decide) (w_drL _ k3 10 (by omega) ?_ fun k k0 k1 => ?_))
    · intro i y k hy k0 k1
      have il := lt_of_at hy
      rw [rng0_len] at il
      have il : i < 3 := il
      refine w_call (rows_bad_ok ns k (by omega) (by omega) T) ?_
      rintro ⟨r1, r2⟩ ⟨hr, hd⟩
      dsimp only at hr hd ⊢
      rw [hr, if_pos rfl]
      exact hd
    · rw [rng0_len] at k1
      have k1 : k ≤ k3 + 10 * 3 := k1
      exact h k k0 (by omega)
  rcases (show which = 2 ∨ (which = 0 ∨ which = 1) by omega) with rfl | hw
  · rw [if_pos rfl]
    obtain ⟨w0, hw0⟩ := at_of_lt (xs := table) (i := 0) tp
    have W := rowOk w0 (List.mem_of_getElem? hw0)
    have T := Txt3.one W (w5 w0 (List.mem_of_getElem? hw0))
    obtain ⟨g1, g2⟩ := good_len W
    refine w_thn (w_grd (by omega) ?_)
    rw [txtT_split H1, show ixR (([count] :: table).map txtN) 1 = .ok (txtN w0) from ixR_of (i := 1) (by rw [List.getElem?_map]; show Option.map txtN table[0]? = _; rw [hw0]; rfl), Rs.bnd_ok]
    refine w_ok (X := fun _ _ => False) ?_
    have es : Txt.split (txtN w0) "\n" = [w0].map txtN := by
      have := split_line (ps := [txtN w0]) (by simp) fun p hp => by rw [List.mem_singleton.mp hp]; exact g2
      rw [join_one] at this
      exact this
    show Post (grd (Str.length (txtN w0) ≤ 1000000) _) _ _
    refine w_grd (by omega) ?_
    rw [es]
    refine turns (R := Unit) T fun k k0 k1 => ?_
    rw [more_one ns k (by omega) (by omega) W, Rs.bnd_ok, if_pos rfl, if_neg (by decide), Rs.bnd_ok, if_neg (by simp), told2, read_numbers_ok W]
    show Post (Rs.bnd (.ok (.inl (.inr (.inr w0)) : U61 ⊕ Int ⊕ Str)) _) _ _
    rw [Rs.bnd_ok, if_pos rfl, show ixR table 0 = .ok w0 from ixR_of (i := 0) hw0, Rs.bnd_ok]
    rw [show eE3a (.inl (.inr (.inr w0)) : U61 ⊕ Int ⊕ Str) = some (.inr (.inr w0)) from rfl, som_ok, show eE3c (.inr (.inr w0) : U61) = some w0 from rfl, som_ok]
    have wlen := W.2.1
    refine w_grd (wid_eP (by omega) (by simp only [wid]; omega) (wid_eL (by show w0.length ≤ 1000000; omega) fun x _ => by rw [wid_int]; omega)) (w_ok (X := fun _ _ => False) ⟨?_, k + 1, rfl, by omega, by omega⟩)
    show sameD (eP Dat.str (eL Dat.int) (("told" : Str), w0)) (eP Dat.str (eL Dat.int) (("told" : Str), w0)) = true
    exact (SamE.eP SamE.str (SamE.eL SamE.int)).refl _
  · have n2 : which ≠ 2 := by omega
    rw [if_neg n2]
    have T := Two.of hw NC TT (by omega) w5
    refine w_thn (w_ok (X := fun _ _ => False) ?_)
    show Post (grd (Str.length (txtT ([count] :: table)) ≤ 1000000) _) _ _
    refine w_grd (by omega) ?_
    rw [txtT_split H1]
    refine turns (R := Unit) T.t fun k k0 k1 => ?_
    rw [more_two ns k (by omega) (by omega) T, Rs.bnd_ok, if_pos rfl, if_pos (by omega), none_ok ns (k + 1) (by omega) (by omega) hw q1 q2 tp (by omega) (by omega) (by omega) row, Rs.bnd_ok, Rs.bnd_ok, if_neg (by simp)]
    have tid : mapR (fun (y9 : List Int) => (.ok (some y9) : Rs (Option (List Int)))) table = .ok table := by
      rw [mapR_map (fun y => y) table (fun _ _ => rfl), List.map_id']
    have wt : wid (eT (eT Dat.int) table) ≤ 1000000 := wid_eT (by omega) fun v hv => wid_eT (by have := w5 v hv; omega) fun x _ => by rw [wid_int]; omega
    rcases hw with rfl | rfl
    · have e : m_law_told 0 (txtT ([count] :: table)) = .ok (.inl (.inl (count, table))) := by
        rw [told0, read_picture_ok NC TT (by omega) (picture_ok count table c q1 tp (by omega) (by omega) fun w hw => ⟨(row w hw).1, fun x hx => by have := (row w hw).2 x hx; omega⟩)]
        rfl
      rw [e, Rs.bnd_ok, if_neg (by decide), show eE30 "told" "text" "no" (.inl (.inl (count, table)) : U61 ⊕ Int ⊕ Str) = "told" from rfl, if_pos rfl, if_pos rfl]
      rw [show eE3a (.inl (.inl (count, table)) : U61 ⊕ Int ⊕ Str) = some (.inl (count, table)) from rfl, som_ok]
      dsimp only
      rw [show eE3a (.inl (count, table) : U61) = some (count, table) from rfl, som_ok, Rs.bnd_ok, if_neg (by decide), if_neg (by decide), Rs.bnd_ok, Rs.bnd_ok, if_neg (by decide), som_ok]
      rw [show fldU (α := (Int × (List (List Int)))) (β := (Int × (List (List Int)))) (fun p_ => p_.2) (fun p_ => p_.2) (.inl (count, table) : U61) = some table from rfl, som_ok]
      refine w_grd (by omega) ?_
      rw [tid, Rs.bnd_ok]
      refine w_grd wt (w_ok (X := fun _ _ => False) ⟨?_, k + 1 + 1, rfl, by omega, by omega⟩)
      exact (SamE.eT (SamE.eT SamE.int)).refl _
    · have e : m_law_told 1 (txtT ([count] :: table)) = .ok (.inl (.inr (.inl (count, table)))) := by
        rw [told1, read_tile_ok NC TT (by omega) (tile_ok count table c q1 tp (by omega) (by omega) row)]
        rfl
      rw [e, Rs.bnd_ok, if_neg (by decide), show eE30 "told" "text" "no" (.inl (.inr (.inl (count, table))) : U61 ⊕ Int ⊕ Str) = "told" from rfl, if_pos rfl, if_neg (by decide), Rs.bnd_ok, if_neg (by decide), if_pos rfl]
      rw [show eE3a (.inl (.inr (.inl (count, table))) : U61 ⊕ Int ⊕ Str) = some (.inr (.inl (count, table))) from rfl, som_ok]
      dsimp only
      rw [show eE3b (.inr (.inl (count, table)) : U61) = some (count, table) from rfl, som_ok, Rs.bnd_ok, Rs.bnd_ok, if_neg (by decide), som_ok]
      rw [show fldU (α := (Int × (List (List Int)))) (β := (Int × (List (List Int)))) (fun p_ => p_.2) (fun p_ => p_.2) (.inr (.inl (count, table)) : U61) = some table from rfl, som_ok]
      refine w_grd (by omega) ?_
      rw [tid, Rs.bnd_ok]
      refine w_grd wt (w_ok (X := fun _ _ => False) ⟨?_, k + 1 + 1, rfl, by omega, by omega⟩)
      exact (SamE.eT (SamE.eT SamE.int)).refl _
theorem law_true (ns : List Int) (hl : ns.length ≤ 63) : Post (m_law ns) (fun b => b = true) fun _ _ => False := by
  unfold m_law
  have e0 : 0 ≤ (ns.length : Int) / 16 := Int.ediv_nonneg (by omega) (by decide)
  refine w_thn (w_grd (DK.rngOk_of (by omega) (by omega) (by omega) (by omega)) (w_drL _ 0 40000 (by omega) ?_ fun _ _ _ => w_ok (X := fun _ _ => False) rfl))
  intro i y k hy k0 k1
  have il := lt_of_at hy
  rw [rngI_len] at il
  refine w_call (one_ok ns k (by omega) (by omega)) ?_
  rintro ⟨r1, r2⟩ ⟨hr, hd⟩
  dsimp only at hr hd ⊢
  rw [hr, if_pos rfl]
  exact hd

end Dot
namespace Dot
open PySem PySem.Spec PyProof.Rows L2 DK
theorem end_law {P : Program} {w : World} {K : PySem.W.Frag} {mg : Str → Option Value} (T : TX K mg) : ∃ fd : FuncData, (∀ (s : Shared) (v : Value), BindsTo s fd ⟨[v], []⟩ [("_law_script", v)]) ∧ ∀ base : Heap, FnOk P w K mg base (L2N.CX P w) 12 (He.ga K "law") fd (["_law_script"] : List Str) (sp_law K) := by
  obtain ⟨fd, F0⟩ := T.says.def_ 23 (d := d_law) rfl
  have F : FunD K d_law.name d_law.qual d_law.params d_law.body d_law.scope [] [] (He.ga K "law") fd := F0
  refine ⟨fd, fun s v => (FunD.bindsA (ps := (["_law_script"] : List Str)) F fun _ _ _ _ _ _ us hl => match us, hl with | [_], _ => rfl) s [v] rfl, fun base => ?_⟩
  have c_law_next := ok_law_next (P := P) (w := w) (base := base) T 
  have c_law_most := ok_law_most (P := P) (w := w) (base := base) T c_law_next
  have c_law_tile_rows := ok_law_tile_rows (P := P) (w := w) (base := base) T c_law_next
  have c_law_text := ok_law_text (P := P) (w := w) (base := base) T 
  have c_law_bad := ok_law_bad (P := P) (w := w) (base := base) T c_law_next
  have c_law_same := ok_law_same (P := P) (w := w) (base := base) T 
  have c_is_number := ok_is_number (P := P) (w := w) (base := base) T 
  have c_numbers_from := ok_numbers_from (P := P) (w := w) (base := base) T c_is_number
  have m_NoText := mk_NoText (P := P) (w := w) (base := base) T 
  have c_rows_from := ok_rows_from (P := P) (w := w) (base := base) T c_numbers_from m_NoText
  have c_split_rows := ok_split_rows (P := P) (w := w) (base := base) T c_numbers_from m_NoText c_rows_from
  have c_rows_kept := ok_rows_kept (P := P) (w := w) (base := base) T 
  have m_Picture := mk_Picture (P := P) (w := w) (base := base) T c_rows_kept
  have c_read_picture := ok_read_picture (P := P) (w := w) (base := base) T c_split_rows m_Picture
  have m_Tile := mk_Tile (P := P) (w := w) (base := base) T c_rows_kept
  have c_read_tile := ok_read_tile (P := P) (w := w) (base := base) T c_split_rows m_Tile
  have c_read_numbers := ok_read_numbers (P := P) (w := w) (base := base) T c_numbers_from m_NoText
  have c_law_word := ok_law_word (P := P) (w := w) (base := base) T 
  have c_law_told := ok_law_told (P := P) (w := w) (base := base) T c_read_picture c_read_tile c_read_numbers c_law_word
  have c_law_rows_bad := ok_law_rows_bad (P := P) (w := w) (base := base) T c_law_next c_law_bad c_law_same c_law_told
  have c_law_rows_more := ok_law_rows_more (P := P) (w := w) (base := base) T c_law_next c_law_same c_law_told
  have c_law_none := ok_law_none (P := P) (w := w) (base := base) T c_law_next c_law_text c_law_told c_law_same
  have c_law_one := ok_law_one (P := P) (w := w) (base := base) T c_law_next c_law_most c_law_tile_rows c_law_text c_law_rows_bad c_law_rows_more c_law_none c_law_told c_law_same
  exact fn_law T F c_law_one
theorem law_asked {K : PySem.W.Frag} (H : Hp) (a : Addr) (ns : List Int) (hl : ns.length ≤ 63) (hO : Only H) (hS : SqL K H a (ns.map V.int)) : sp_law K [.ref a] H (fun v _ => v = .bl true) fun _ _ _ => False :=
  ⟨_, rfl, H, ns, Same.refl H, ⟨⟨a, rfl, hS⟩, hl⟩, (law_true ns hl).mono2 (fun b hb _ _ _ => by rw [hb]) fun _ _ z => z.elim⟩
end Dot
open PySem PySem.W PySem.Calls PyProof.Rows
set_option maxRecDepth 100000 in
set_option maxHeartbeats 0 in
theorem PySem.Challenge.cw_dotscreen_k61_texts_refused_holds : PySem.Challenge.rw_dotscreen_k61_texts_refused.Holds := by
  w_on; o_law
  refine HandSHeadRun.head_any (r := OpenLaw.row PySem.Challenge.rw_dotscreen_k61_texts_refused) (q := view (OpenLaw.row PySem.Challenge.rw_dotscreen_k61_texts_refused).prog [40]) (H := Dot.hk) (ob := Dot.ob) (M := 20000) (loose := Dot.loose) (d := HandSHeadRun.topDef (OpenLaw.row PySem.Challenge.rw_dotscreen_k61_texts_refused).prog 40) (kwd := []) Dot.ob_eq
    (by kernel_rfl) (fun s => by kernel_rfl) Dot.run (by kernel_rfl) (by kernel_rfl) (by kernel_rfl) (by rfl) (by first | assumption | decide +kernel) (by decide +kernel) ⟨rfl, rfl, rfl, rfl, rfl, by decide +kernel⟩ ?hw ?hc
  case hw => w_witness2
  case hc =>
    refine DK.walk_ofX (l := PySem.Challenge.rw_dotscreen_k61_texts_refused) (n := 63) (k := 12) (x := "_law_script") rfl (by decide) (by kernel_rfl) ⟨rfl, by decide, by decide⟩ ?F
    intro w mg fa h Y G hmg0
    obtain ⟨K, KX, c⟩ := Y
    have hmg : mg ("law" : PySem.Str) = some (.ref fa) := by
      have e : (HandSHeadRun.topDef (OpenLaw.row PySem.Challenge.rw_dotscreen_k61_texts_refused).prog 40).name = ("law" : PySem.Str) := by kernel_rfl
      rw [← e]
      exact hmg0
    have T : Dot.TX K mg := DK.FactsB.mk' c KX G
    have e := hmg.symm.trans (T.glo 51 (x := "law") rfl)
    cases e
    obtain ⟨fd, hb, hF⟩ := Dot.end_law (P := (PySem.Challenge.rw_dotscreen_k61_texts_refused).prog) (w := w) T
    exact ⟨K, fd, Dot.sp_law K, KX, hb, fun H a ns hl hO hS => Dot.law_asked H a ns hl hO hS, fun base _ _ => hF base⟩
