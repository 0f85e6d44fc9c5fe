import PyProof.Rows.All
import Wide.All
import OpenK.AllK
import Wide.FinOn
import KE.KStateDown
import KE.GoesEnum
import HandS.ForMost
import HandS.ForExc
import HandS.More
import HandS.Deep
import HandS.Wide
import HandS.Walk
import HandS.IsInst
import HandS.Defaults
import HandS.SortInts
import HandS.RevRange
import HandS.Zip
import HandS.Flow
import HandS.Steps
import HandS.Head0
import HandS.Head1
import HandS.Head2
import HandS.HeadEnd
import HandS.HeadHook1
import HandS.HeadHook2
import PySem.Challenge.RW_dotscreen_k12_doubled_even
set_option Elab.async false
set_option linter.all false
set_option maxRecDepth 100000
set_option maxHeartbeats 4000000
set_option maxRecDepth 100000
set_option maxHeartbeats 2000000
/-! DK: unions of the layer's rules, so that a derivation needs no types; a few rules more. -/
namespace DK
open PySem PySem.Spec PyProof.Rows L2

/-! ### unions -/
theorem OpR.or {X : Cx} {f : Value → Value → Sem Value} {r r' : R2} (h : OpR X f r) (h' : OpR X f r') : OpR X f (fun x y H Q => r x y H Q ∨ r' x y H Q) := by
  intro pins s σ H x y v u Q I rx ry q
  rcases q with q | q
  · exact h pins s σ H x y v u Q I rx ry q
  · exact h' pins s σ H x y v u Q I rx ry q
theorem CallR.or {X : Cx} {f : Value} {r r' : List V → Hp → VK → Prop} (h : CallR X f r) (h' : CallR X f r') : CallR X f (fun xs H Q => r xs H Q ∨ r' xs H Q) := by
  intro pins s σ H xs us Q I r q
  rcases q with q | q
  · exact h pins s σ H xs us Q I r q
  · exact h' pins s σ H xs us Q I r q
theorem pe_or {X : Cx} {e : Expr} {t t' : TE} (h : PE X e t) (h' : PE X e t') : PE X e (fun σ H Q => t σ H Q ∨ t' σ H Q) := by
  refine ⟨fun pins s σ H Q I q => ?_⟩
  rcases q with q | q
  · exact h.run pins s σ H Q I q
  · exact h'.run pins s σ H Q I q
theorem pt_or {X : Cx} {e : Expr} {t t' : TT} (h : PT X e t) (h' : PT X e t') : PT X e (fun σ H Q => t σ H Q ∨ t' σ H Q) := by
  refine ⟨fun pins s σ H Q I q => ?_⟩
  rcases q with q | q
  · exact h.run pins s σ H Q I q
  · exact h'.run pins s σ H Q I q
theorem pi_or {X : Cx} {tg e : Expr} {t t' : TI} (h : PI X tg e t) (h' : PI X tg e t') : PI X tg e (fun σ H R => t σ H R ∨ t' σ H R) := by
  refine ⟨fun pins s σ H Q I q => ?_⟩
  rcases q with q | q
  · exact h.run pins s σ H Q I q
  · exact h'.run pins s σ H Q I q
theorem pg_or {X : Cx} {tg : Expr} {g g' : TG} (h : PG X tg g) (h' : PG X tg g') : PG X tg (fun v σ H Q => g v σ H Q ∨ g' v σ H Q) := by
  refine ⟨fun pins s σ H v u Q I r q => ?_⟩
  rcases q with q | q
  · exact h.run pins s σ H v u Q I r q
  · exact h'.run pins s σ H v u Q I r q

def rAddStr : R2 := fun x y H Q => ∃ i j, x = .str i ∧ y = .str j ∧ i.length + j.length ≤ sizeLine ∧ Q (.str (i ++ j)) H
def rAddI : R2 := rI0 fun i j => .int (i + j)
def rAddU (K : PySem.W.Frag) : R2 := fun x y H Q => rAddI x y H Q ∨ (rCat x y H Q ∨ (rCatT K x y H Q ∨ rAddStr x y H Q))
theorem op_addU {X : Cx} : OpR X (binaryOp .Add) (rAddU X.K) := OpR.or op_add (OpR.or op_cat (OpR.or op_catT op_add_str))
abbrev rSubI : R2 := rI0 fun i j => .int (i - j)
abbrev rModI : R2 := rI (fun _ j => 0 < j) fun i j => .int (i % j)
def CMulU (i j : Int) : Prop := CMul i j ∨ CMulW i j
def rMulI : R2 := rI CMulU fun i j => .int (i * j)
theorem op_mulI {X : Cx} : OpR X (binaryOp .Mult) rMulI := by
  intro pins s σ H x y v u Q I rx ry h
  obtain ⟨i, j, rfl, rfl, hc, q⟩ := h
  rcases hc with hc | hc
  · exact op_mul pins s σ H _ _ v u Q I rx ry ⟨i, j, rfl, rfl, hc, q⟩
  · exact op_mulW pins s σ H _ _ v u Q I rx ry ⟨i, j, rfl, rfl, hc, q⟩
def rMulU : R2 := fun x y H Q => rMulI x y H Q ∨ rRep x y H Q
theorem op_mulU {X : Cx} : OpR X (binaryOp .Mult) rMulU := OpR.or op_mulI op_rep
def CDivU (i j : Int) : Prop := CDiv i j ∨ CDivW i j
def rDivU : R2 := rI CDivU fun i j => .int (i / j)
theorem op_divU {X : Cx} : OpR X (binaryOp .FloorDiv) rDivU := by
  intro pins s σ H x y v u Q I rx ry h
  obtain ⟨i, j, rfl, rfl, hc, q⟩ := h
  rcases hc with hc | hc
  · exact op_fdiv pins s σ H _ _ v u Q I rx ry ⟨i, j, rfl, rfl, hc, q⟩
  · exact op_fdivW pins s σ H _ _ v u Q I rx ry ⟨i, j, rfl, rfl, hc, q⟩
abbrev rLtI : R2 := rI0 fun i j => .bl (decide (i < j))
abbrev rLeI : R2 := rI0 fun i j => .bl (decide (i ≤ j))
abbrev rGtI : R2 := rI0 fun i j => .bl (decide (j < i))
abbrev rGeI : R2 := rI0 fun i j => .bl (decide (j ≤ i))
def rEqU (K : PySem.W.Frag) : R2 := fun x y H Q => rEq x y H Q ∨ rEqD K x y H Q
def rNeU (K : PySem.W.Frag) : R2 := fun x y H Q => rNe x y H Q ∨ rNeD K x y H Q
theorem op_eqU {X : Cx} (hu : X.A.units + 64 < cLine) : OpR X (compareOp .Eq) (rEqU X.K) := OpR.or op_eq (op_eqD hu)
theorem op_neU {X : Cx} (hu : X.A.units + 64 < cLine) : OpR X (compareOp .NotEq) (rNeU X.K) := OpR.or op_ne (op_neD hu)
/-- a power of written numbers -/
theorem pe_powC {X : Cx} {a b n : Int} {i j : Nat} {p p2 p3 : Pos} (h : 0 ≤ b ∧ b ≤ 1000000 ∧ a.natAbs < 2 ^ 64) (e : a ^ b.toNat = n) : PE X (.BinOp (.Constant (.int a) i p) .Pow (.Constant (.int b) j p2) p3) (tC (.int n)) := by
  refine ⟨fun pins s σ H Q I q => ?_⟩
  exact (pe_op (X := X) op_pow pe_int pe_int).run pins s σ H Q I ⟨a, b, rfl, rfl, h, by show Q (.int (a ^ b.toNat)) H; rw [e]; exact q⟩

/-! ### len, list, tuple -/
def rLenU (K : PySem.W.Frag) : List V → Hp → VK → Prop := fun xs H Q => (∃ x n, xs = [x] ∧ LenV K x H n ∧ Q (.int n) H)
theorem call_lenU {X : Cx} : CallR X (.builtin "len") (rLenU X.K) := call_len
def rListU (K : PySem.W.Frag) : List V → Hp → VK → Prop := fun xs H Q => ∃ p ys, xs = [.ref p] ∧ (SqL K H p ys ∨ SqT K H p ys) ∧ ∀ l, H l = none → Q (.ref l) (upd H l (.lst ys))
theorem call_listU {X : Cx} : CallR X (.type "list") (rListU X.K) := call_list_of
def rTupU (K : PySem.W.Frag) : List V → Hp → VK → Prop := fun xs H Q => ∃ p ys, xs = [.ref p] ∧ ((SqL K H p ys ∧ ∀ l, H l = none → Q (.ref l) (upd H l (.tup ys))) ∨ (SqT K H p ys ∧ Q (.ref p) H))
theorem call_tupU {X : Cx} : CallR X (.type "tuple") (rTupU X.K) := call_tuple_of
abbrev rAbsI : List V → Hp → VK → Prop := fun xs H Q => ∃ i, xs = [.int i] ∧ Q (.int (if i < 0 then -i else i)) H
abbrev rMax2I : List V → Hp → VK → Prop := fun xs H Q => ∃ i j, xs = [.int i, .int j] ∧ Q (.int (if j > i then j else i)) H
abbrev rMin2I : List V → Hp → VK → Prop := fun xs H Q => ∃ i j, xs = [.int i, .int j] ∧ Q (.int (if j < i then j else i)) H
abbrev rInt1 : List V → Hp → VK → Prop := fun xs H Q => (∃ i, xs = [.int i] ∧ Q (.int i) H) ∨ ∃ k, xs = [.bl k] ∧ Q (.int (if k then 1 else 0)) H
abbrev rBool1 : List V → Hp → VK → Prop := fun xs H Q => (∃ i, xs = [.int i] ∧ Q (.bl (i != 0)) H) ∨ ∃ k, xs = [.bl k] ∧ Q (.bl k) H
abbrev rStrInt : List V → Hp → VK → Prop := fun xs H Q => ∃ i, xs = [.int i] ∧ i.natAbs.log2 < 1920 ∧ Q (.str (toString i)) H
/-- divmod by a positive divisor, small or wide -/
def rDivmodU : List V → Hp → VK → Prop := fun xs H Q => ∃ i j, xs = [.int i, .int j] ∧ CDivU i j ∧ ∀ p, H p = none → Q (.ref p) (upd H p (.tup [.int (i / j), .int (i % j)]))
theorem call_divmodU {X : Cx} : CallR X (.builtin "divmod") rDivmodU := by
  intro pins s σ H xs us Q I r h
  obtain ⟨i, j, rfl, hc, q⟩ := h
  obtain ⟨u, w', rfl, ⟨t, rfl⟩, ⟨t', rfl⟩⟩ := vals2 r
  have hn : H s.heap.objs.size = none := I.hok.fresh (Nat.le_refl _)
  have fin : 0 < j → (EP X pins σ Q (.ref s.heap.objs.size) { s with heap := s.heap.push { cls := .type "tuple", data := .seq #[.int (i / j) s.toks, .int (i % j) (s.toks + 1)] }, toks := s.toks + 2 }) := fun hj => by
    refine ⟨.ref s.heap.objs.size, _, ?_, rfl, q _ hn⟩
    refine I.laid (fun b o e => Heap.get?_push_of_some _ e) (Nat.le_refl _) ⟨by simp only [List.length_cons, List.length_nil]; rw [sizeLine_eq]; decide, [.int (i / j) s.toks, .int (i % j) (s.toks + 1)], .cons ⟨_, rfl⟩ (.cons ⟨_, rfl⟩ .nil), ?_⟩
    exact ⟨_, Heap.get?_push_size s.heap rfl, rfl, 0, rfl⟩
  rcases hc with hc | hc
  · have h1 : 0 < j := hc.1
    have h2 : j < 1073741824 := hc.2
    refine divmod_int (by omega) ?_ (.inl (PyProof.noPylong_small (by omega)))
    rw [Int.fdiv_eq_ediv_of_nonneg i (by omega), Int.fmod_eq_emod_of_nonneg i (by omega)]
    exact fin h1
  · have h1 : 0 < j := hc.1
    refine divmod_int (by omega) ?_ (.inl (PyProof.noPylong_of_log2 hc.2))
    rw [Int.fdiv_eq_ediv_of_nonneg i (by omega), Int.fmod_eq_emod_of_nonneg i (by omega)]
    exact fin h1

/-! ### subscripts, slices -/
def rIxU (K : PySem.W.Frag) : R2 := rIx K
theorem ix_U {X : Cx} : IxR X (rIxU X.K) := ix_seq

/-- a slice that is the whole tuple: the tuple itself -/
theorem getItem_tuple_all {prog : Program} {w : World} {A : Around} {E : Value → Shared → Prop} {s : Shared} {t sl : Addr} {items : Array Value} {vl vu : Value} {lo hi : Option Int} {Q : Value → Shared → Prop} (ht : IsTup s.heap t items) (hs : s.heap.IsSliceOf sl vl vu .none) (pl : IsPart vl lo) (pu : IsPart vu hi)
    (hw : HT.sIx items.size 0 lo = 0 ∧ HT.sIx items.size items.size hi = items.size) (h : Q (.ref t) s) : wpAny (model prog w) A (getItem (.ref t) (.ref sl)) Q E s := by
  obtain ⟨os, hos, hcs, hds⟩ := id hs
  have hTs : s.TypeIs (.ref sl) "slice" := ⟨os, hos, hcs⟩
  unfold getItem
  try with_reducible refine wpAny_holding ?_
  first | refine wpAny_bind (wpAny_pure ?_) | skip
  refine wpAny_bind (wpAny_sequenceKey ht.typeIs (by decide) ?_)
  refine wpAny_bind (wpAny_callSpecial?_slot (name := Str.ofString "__getitem__") ht.typeIs PyProof.Rows.slot_tuple_getitem
    (wpAny_call_entry PyProof.Rows.slot_tuple_getitem ht.typeIs entry_tuple_getitem ?_ (args_tuple_getitem _ _)))
  show wpAny _ _ (Builtin.Tuple.tupleItemsOf (.ref t) >>= _) _ _ s
  refine wpAny_bind (PyProof.Rows.tupleItemsOf_ ht ?_)
  refine wpAny_bind (wpAny_typeOf hTs ?_)
  rw [if_pos (by decide)]
  refine wpAny_bind (HT.sliceApplied_gen hs pl pu ?_)
  have hy : ((((HT.sIx items.size 0 lo : Nat) : Int) == 0 && (1 : Int) == 1 && (HT.sIx items.size items.size hi - HT.sIx items.size 0 lo) == items.size) = true) := by
    rw [hw.1, hw.2]
    simp
  show wpAny _ _ (if (((HT.sIx items.size 0 lo : Nat) : Int) == 0 && (1 : Int) == 1 && (HT.sIx items.size items.size hi - HT.sIx items.size 0 lo) == items.size) = true then _ else _) _ _ s
  rw [if_pos hy]
  unfold Builtin.Tuple.tupleIsExact
  refine wpAny_bind (wpAny_bind (wpAny_typeOf ht.typeIs (wpAny_pure ?_)))
  rw [if_pos (by decide)]
  refine wpAny_bind (wpAny_rule ?_)
  first
    | exact wpAny_bind (wpAny_pure (wpAny_pure ⟨_, rfl, wpAny_pure h⟩))
    | exact wpAny_pure ⟨_, rfl, wpAny_pure h⟩
    | exact wpAny_bind (wpAny_pure ⟨_, rfl, wpAny_pure h⟩)
def rSlTW (K : PySem.W.Frag) : V → Option Int → Option Int → Hp → VK → Prop := fun x lo hi H Q => ∃ a xs, x = .ref a ∧ SqT K H a xs ∧
  (HT.sIx xs.length 0 lo = 0 ∧ HT.sIx xs.length xs.length hi = xs.length) ∧ Q (.ref a) H
theorem sl_tupW {X : Cx} : SlR X (rSlTW X.K) := by
  intro pins s σ H x v vl vu lo hi sl Q I rx hs pl pu h
  obtain ⟨a, xs, rfl, hx, hw, q⟩ := h
  cases rx
  obtain ⟨its, r, ht, hz⟩ := I.tuple hx
  have hlen : its.toArray.size = xs.length := by rw [List.size_toArray]; exact r.length.symm
  refine ⟨"tuple", _, PyProof.Rows.slot_tuple_getitem.lookup, ht.typeIs, ?_⟩
  exact getItem_tuple_all ht hs pl pu (by rw [hlen]; exact hw) ⟨.ref a, H, I, rfl, q⟩
def rSlStr : V → Option Int → Option Int → Hp → VK → Prop := fun _ _ _ _ _ => False
def rSlU (K : PySem.W.Frag) : V → Option Int → Option Int → Hp → VK → Prop := fun x lo hi H Q => rSlL K x lo hi H Q ∨ (rSlT K x lo hi H Q ∨ rSlTW K x lo hi H Q)
theorem sl_U {X : Cx} : SlR X (rSlU X.K) := sl_list.or (sl_tup.or sl_tupW)

/-! ### what is walked -/
def iSeq (K : PySem.W.Frag) (te : TE) : TI := fun σ H R => iList K te σ H R ∨ iTup K te σ H R
theorem pi_seq {X : Cx} {tg e : Expr} {te : TE} (h : PE X e te) : PI X tg e (iSeq X.K te) := pi_or (pi_list h) (pi_tup h)
def gTupU (K : PySem.W.Frag) (n : Nat) (t : TGs) : TG := fun v σ H Q => gTup K n t v σ H Q ∨ gLst K n t v σ H Q
theorem pg_tupU {X : Cx} {es : List Expr} {k : Nat} {pos : Pos} {t : TGs} {n : Nat} (hc : X.calm = true) (h : PGs X es t)
    (hn : (assignEach es X.env).length = n := by rfl) (hst : (assignEach es X.env).findIdx? (·.1) = none := by rfl) : PG X (.Tuple es k pos) (gTupU X.K n t) := pg_or (pg_tup hc h hn hst) (pg_lst hc h hn hst)

/-! ### enumerate of a tuple -/
theorem meets_enumerate_newT (l : Addr) (items : Array Value) :
    Meets (Builtin.«enumerate.__new__» ⟨[.type "enumerate", .ref l], []⟩) (fun _ R s => s.heap.IsTuple l items ∧
      R (.ok (.ret (.ref (s.heap.push { cls := .type "tuple_iterator", data := .fields #[.ref l, .int 0 0] }).objs.size)))
        { s with heap := (s.heap.push { cls := .type "tuple_iterator", data := .fields #[.ref l, .int 0 0] }).push { cls := .type "enumerate", data := .fields #[.none, .bool false, .ref s.heap.objs.size, rawInt 0, .none, .none] } }) :=
  .of_wp fun prog w A R s h => by
    obtain ⟨hp, g, d, tk, os⟩ := s; obtain ⟨hl, h⟩ := h
    have hsub := sub_enumerate
    have q1 : ∀ {A' : Around} {E : Value → Shared → Prop} {Q : Value → Shared → Prop}, Q (.ref hp.objs.size) ⟨hp.push { cls := .type "tuple_iterator", data := .fields #[.ref l, .int 0 0] }, g, d, tk, os⟩ → wpAny (model prog w) A' (pyIter (.ref l)) Q E ⟨hp, g, d, tk, os⟩ :=
      fun q => wpAny_pyIter_tuple hl q
    wp_walk using q1
    refine wpAny_stack_any fun st => wpAny_pure ?_
    split
    · rename_i c _ _ _ _ _
      cases (c == Value.type "enumerate")
      · wp_walk using q1
        exact ⟨_, rfl, h⟩
      · wp_walk using q1
        exact ⟨_, rfl, h⟩
    · wp_walk using q1
      exact ⟨_, rfl, h⟩
theorem call_enumerate_tuple {prog : Program} {w : World} {A : Around} {E : Value → Shared → Prop} {s : Shared} {l : Addr} {items : Array Value} {Q : Value → Shared → Prop} (hL : s.heap.IsTuple l items)
    (h : ∀ h', IsEnum h' (s.heap.objs.size + 1) s.heap.objs.size 0 .none → h'.IsTupleIter s.heap.objs.size l 0 → h'.objs.size = s.heap.objs.size + 2 →
      (∀ b o, s.heap.get? b = some o → h'.get? b = some o) → Q (.ref (s.heap.objs.size + 1)) { s with heap := h' }) :
    wpAny (model prog w) A (call (.type "enumerate") [.ref l]) Q E s := by
  refine callType_new F.called_enumerate (by decide) (F.typeCall_enumerate_1 _) (F.newCall_enumerate_1 _) (fun obj => F.args_object_init_2 obj _) F.entry_enumerate_new
    (meets_enumerate_newT l items) ⟨hL, ?_⟩
  have hz : (s.heap.push { cls := .type "tuple_iterator", data := .fields #[.ref l, .int 0 0] }).objs.size = s.heap.objs.size + 1 := Heap.size_push ..
  show _ ∧ _
  rw [hz]
  have he : IsEnum ((s.heap.push { cls := .type "tuple_iterator", data := .fields #[.ref l, .int 0 0] }).push
      { cls := .type "enumerate", data := .fields #[.none, .bool false, .ref s.heap.objs.size, rawInt 0, .none, .none] }) (s.heap.objs.size + 1) s.heap.objs.size 0 .none := by
    have := Heap.get?_push_size (s.heap.push { cls := .type "tuple_iterator", data := .fields #[.ref l, .int 0 0] })
      (o := { cls := .type "enumerate", data := .fields #[.none, .bool false, .ref s.heap.objs.size, rawInt 0, .none, .none] }) rfl
    rw [hz] at this; exact this
  refine ⟨⟨_, he, rfl⟩, h _ he ⟨_, Heap.get?_push_of_some _ (Heap.get?_push_size _ rfl), rfl, rfl⟩ (by rw [Heap.size_push, hz]) fun b o x => Heap.get?_push_of_some _ (Heap.get?_push_of_some _ x)⟩
def IteT (K : PySem.W.Frag) (a : Addr) : It :=
  ⟨fun i H => ∃ (xs : List V) (x : V), SqT K H a xs ∧ xs[i]? = some x, fun i H v H' => ∃ T x, v = .ref T ∧ H T = none ∧ H' = upd H T (.tup [.int (i : Nat), x]) ∧ ∀ xs, SqT K H a xs → xs[i]? = some x, fun i H => ∃ xs : List V, SqT K H a xs ∧ xs.length ≤ i⟩
theorem turn_enumT {P : Program} {w : World} {K : PySem.W.Frag} {elts : List Expr} {kk : Nat} {tpos : Pos} (a e it : Addr) :
    Turn P w K (.Tuple elts kk tpos) (IteT K a) [e, it] e (fun i h => (∃ old, IsEnum h e it ((i : Nat) : Int) old) ∧ h.IsTupleIter it a i ∧ e ≠ it ∧ a ≠ it ∧ a ≠ e) where
  mem := by simp
  obj := fun i h st b hb => by
    obtain ⟨⟨old, he⟩, ⟨o, ho, hc, hd⟩, _⟩ := st
    have e' : b = e ∨ b = it := by simpa using hb
    rcases e' with z | z
    · rw [z]; exact ⟨_, he, fun v q => nomatch q⟩
    · rw [z]; exact ⟨o, ho, fun v q => by rw [hd] at q; cases q⟩
  keep := fun i h h' st k => let ⟨⟨old, he⟩, hi, hne⟩ := st; ⟨⟨old, k e (by simp) _ he⟩, hi.at fun o q => k it (by simp) o q, hne⟩
  item := by
    intro X hP hw hK hc i pins s σ H E I hf st hg
    subst hP hw hK
    obtain ⟨⟨old, he⟩, hit, hne, hai, hae⟩ := st
    obtain ⟨xs, x, hq, hx⟩ := hg
    obtain ⟨its, rv, p, hz⟩ := I.tuple hq
    obtain ⟨u, hu, ru⟩ := rv.get hx
    have hel : e < s.heap.objs.size := Heap.lt_size he
    have hil : it < s.heap.objs.size := by obtain ⟨_, q, _⟩ := hit; exact Heap.lt_size q
    have hlt : i < its.toArray.size := by
      have := (List.getElem?_eq_some_iff.mp hu).1
      simpa using this
    have hef : e ∉ [it, a] := by
      simp only [List.mem_cons, List.not_mem_nil, or_false, not_or]
      exact ⟨hne, fun z => hae z.symm⟩
    have hh1 : X.A.in1.handled = none := I.ok.hd hc
    refine wpAny_pyNext_enum_itemC (P := fun i v => its.toArray[i]? = some v) (St := fun i h => h.IsTupleIter it a i ∧ h.IsTuple a its.toArray) (Draws.tuple hh1 it a hai its.toArray) he ⟨hit, p⟩ hlt hne hef fun y h' tk hy ho hst' hT hsz hk => ?_
    have ey : y = u := by
      have h1 : its.toArray[i]? = some u := by simpa using hu
      exact Option.some.inj (hy.symm.trans h1)
    subst ey
    obtain ⟨hit', hp'⟩ := hst'
    refine ⟨_, rfl, wpAny_letOwnedTupleGo_enum (s := { s with heap := h', toks := tk + 1 }) ho fun h'' he' sb => ?_⟩
    have hT2 : h''.get? s.heap.objs.size = some { cls := .type "tuple", data := .seq #[.int i tk, y] } := (sb.2 _ (Nat.ne_of_gt hel)).trans hT
    have new : ObjOk X.prog X.w (upd H s.heap.objs.size (.tup [.int (i : Nat), x])) h'' s.heap.objs.size (.tup [.int (i : Nat), x]) :=
      ⟨by show 2 ≤ sizeLine; decide, [.int i tk, y], .cons ⟨_, rfl⟩ (.cons ru .nil), ⟨_, hT2, rfl, _, rfl⟩⟩
    have I1 : L2.Inv X pins σ (upd H s.heap.objs.size (.tup [.int (i : Nat), x])) { s with heap := h'', toks := tk + 1 } :=
      I.turnedNew (ch := [e, it]) (fun b ob hb q => (sb.2 b (fun z => hb (by simp [z]))).trans (hk b ob (fun z => hb (by simp [z])) (fun z => hb (by simp [z])) q)) hf (Nat.le_refl _) new
    refine ⟨.ref s.heap.objs.size, _, I1, rfl, ⟨_, x, rfl, I.hok.fresh (Nat.le_refl _), rfl, fun ys hy => by rw [I.tuple_inj hy hq]; exact hx⟩, ⟨⟨y, ?_⟩, hit'.at fun o q => (sb.2 it (Ne.symm hne)).trans q, hne, hai, hae⟩, fun b hb => ?_⟩
    · have e1 : ((i + 1 : Nat) : Int) = (i : Int) + 1 := by omega
      rw [e1]; exact he'
    · have hb' : b < s.heap.objs.size := by
        have e' : b = e ∨ b = it := by simpa using hb
        rcases e' with z | z
        · rw [z]; exact hel
        · rw [z]; exact hil
      rw [upd_ne (Nat.ne_of_lt hb')]
      exact (hf b hb).1
  done := by
    intro X hP hw hK hc i pins s σ H E I hf st hg
    subst hP hw hK
    obtain ⟨⟨old, he⟩, hit, hne, hai, hae⟩ := st
    obtain ⟨xs, hq, hx⟩ := hg
    obtain ⟨its, rv, p, hz⟩ := I.tuple hq
    obtain ⟨f0, f1, f2, f3, f4, f5⟩ := hf it (by simp)
    have hl := rv.length
    have hh1 : X.A.in1.handled = none := I.ok.hd hc
    have D : Draws X.prog X.w X.A.in1 it [it, a] i (fun _ _ => False) (fun j h => j = i ∧ h.IsTupleIter it a i ∧ h.IsTuple a its.toArray) :=
      { live := fun j h st => let ⟨o, ho, _⟩ := st.2.1; ⟨o, ho⟩
        frame := fun j h h' st hk => ⟨st.1, st.2.1.at fun o e => hk it (by simp) o e, st.2.2.at fun o e => hk a (by simp) o e⟩
        item := fun j s Q E hj st _ => absurd st.1 (Nat.ne_of_lt hj)
        done := fun s Q E st hE => wpAny_nextOf_tuple_end hh1 st.2.1 st.2.2 (by simp; omega) hE }
    exact wpAny_pyNext_enum_endD D he ⟨rfl, hit, p⟩ fun h' eb => ⟨rfl, I.turned (t' := s.toks) (fun b o hb q => eb b o hb q) f0 f1 f3 f4 f5⟩
  self := fun A i s Q E st h => let ⟨⟨_, he⟩, _⟩ := st; wpAny_pyIter_enum he h
def iEnumT (K : PySem.W.Frag) (ta : TA) : TI := fun σ H R => ta σ H fun vs H1 => ∃ a xs, vs = [.ref a] ∧ SqT K H1 a xs ∧ R (IteT K a) H1
theorem pi_enumT {X : Cx} {e : Expr} {ta : TA} {p pos tpos : Pos} {elts : List Expr} {kk : Nat} (hg : Gl X "enumerate") (hm : X.mg "enumerate" = none) (ha : PA X [e] ta) (hs : starEach [e] X.env = [(false, eval e X.env)] := by rfl) :
    PI X (.Tuple elts kk tpos) (.Call (.Name "enumerate" p) [e] [] pos) (iEnumT X.K ta) := by
  refine ⟨fun pins s σ H R I h => ?_⟩
  refine Call_ (ld_blt I hg hm boot_enumerate (PyProof.Rows.callWith_type1 (thn (ha.run pos pins s σ H _ I h) fun us s1 ⟨vs, H1, I1, r1, q1⟩ => ?_) hs rfl))
  obtain ⟨a, xs, ex, hq, q⟩ := q1
  subst ex
  cases r1 with
  | cons r rr =>
    cases rr
    cases r
    obtain ⟨its, rv, p', hz⟩ := I1.tuple hq
    have la : a < s1.heap.objs.size := p'.lt
    refine call_enumerate_tuple p' fun h' he hit hsz hk => wpAny_pyIter_enum he ?_
    have I2 : L2.Inv X pins σ H1 { s1 with heap := h' } := I1.kept (t' := s1.toks) hk
    refine ⟨s1.heap.objs.size + 1, [s1.heap.objs.size + 1, s1.heap.objs.size], _, _, H1, rfl, I2, turn_enumT a (s1.heap.objs.size + 1) s1.heap.objs.size, ⟨⟨.none, he⟩, hit, Nat.succ_ne_self _, Nat.ne_of_lt la, Nat.ne_of_lt (Nat.lt_succ_of_lt la)⟩, fun b hb => ?_, q⟩
    have e' : b = s1.heap.objs.size + 1 ∨ b = s1.heap.objs.size := by simpa using hb
    have hle : s1.heap.objs.size ≤ b := by
      rcases e' with z | z
      · rw [z]; exact Nat.le_add_right _ _
      · rw [z]; exact Nat.le_refl _
    exact I1.fpOk hle (I1.hok.fresh hle)
theorem walk_enumT {K : PySem.W.Frag} {a : Addr} {xs : List V} : Walk (IteT K a) xs.length (fun H => SqT K H a xs) (YPair (fun i => some (.int (i : Nat))) (fun i => xs[i]?)) := by
  refine ⟨fun i _ hi q => ⟨xs, xs[i], q, by simp [hi]⟩, fun _ q => ⟨xs, q, Nat.le_refl _⟩, fun i H v H' _ q y => ?_⟩
  obtain ⟨T, x, h1, h2, h3, h4⟩ := y
  exact ⟨T, .int (i : Nat), x, h1, h2, h3, rfl, h4 xs q⟩
def iEnumU (K : PySem.W.Frag) (ta : TA) : TI := fun σ H R => iEnum K ta σ H R ∨ iEnumT K ta σ H R
theorem pi_enumU {X : Cx} {e : Expr} {ta : TA} {p pos tpos : Pos} {elts : List Expr} {kk : Nat} (hg : Gl X "enumerate") (hm : X.mg "enumerate" = none) (ha : PA X [e] ta) (hs : starEach [e] X.env = [(false, eval e X.env)] := by rfl) :
    PI X (.Tuple elts kk tpos) (.Call (.Name "enumerate" p) [e] [] pos) (iEnumU X.K ta) := pi_or (pi_enum hg hm ha hs) (pi_enumT hg hm ha hs)
def iZipU (K : PySem.W.Frag) (ta : TA) : TI := RZ.iZipA K ta
theorem pi_zipU {X : Cx} {e e2 : Expr} {ta : TA} {p pos tpos : Pos} {elts : List Expr} {kk : Nat} (hg : Gl X "zip") (hm : X.mg "zip" = none) (ha : PA X [e, e2] ta)
    (hs : starEach [e, e2] X.env = (false, eval e X.env) :: starEach [e2] X.env := by rfl) (hpl : (backTo pos (starEach [e2] X.env)).any (·.1) = false := by rfl) :
    PI X (.Tuple elts kk tpos) (.Call (.Name "zip" p) [e, e2] [] pos) (iZipU X.K ta) := RZ.pi_zipA hg hm ha hs hpl

/-! ### own defs, classes, constants, errors -/
theorem pe_gint {X : Cx} {x : Str} {i : Int} {pos : Pos} (hg : Gl X x) (hm : ∃ t, X.mg x = some (.int i t)) (hd : (x == ("__debug__" : Str)) = false := by decide) : PE X (.Name x pos) (tC (.int i)) := by
  obtain ⟨t, hm⟩ := hm
  exact pe_glob hg hm ⟨t, rfl⟩ hd
theorem pe_gstr {X : Cx} {x z : Str} {pos : Pos} (hg : Gl X x) (hm : ∃ t, X.mg x = some (.str z t)) (hd : (x == ("__debug__" : Str)) = false := by decide) : PE X (.Name x pos) (tC (.str z)) := by
  obtain ⟨t, hm⟩ := hm
  exact pe_glob hg hm ⟨t, rfl⟩ hd

/-- a def of the module, as callers see it -/
def CalOk (P : Program) (w : World) (K : PySem.W.Frag) (mg : Str → Option Value) (base : Heap) (x : Str) (k : Nat) (ps : List Str) (sp : Sp) : Prop :=
  ∃ fd : FuncData, FnOk P w K mg base (L2.CX P w) k (He.ga K x) fd ps sp ∧ mg x = some (.ref (He.ga K x)) ∧ PySem.W.keepIn K (.ref (He.ga K x)) = true ∧ Binds K fd ps []
/-- .. called with the last arguments left to their defaults -/
def CalDf (P : Program) (w : World) (K : PySem.W.Frag) (mg : Str → Option Value) (base : Heap) (x : Str) (k : Nat) (ps : List Str) (sp : Sp) (dvs : List V) : Prop :=
  ∃ (fd : FuncData) (ds : List Value), FnOk P w K mg base (L2.CX P w) k (He.ga K x) fd ps sp ∧ mg x = some (.ref (He.ga K x)) ∧ PySem.W.keepIn K (.ref (He.ga K x)) = true ∧ Vals dvs ds ∧ Binds K fd ps ds
section
variable {X : Cx} {k : Nat} {ps : List Str} {sp : Sp} {E : XK} {x : Str} {p pos : Pos} {e : Expr} {es : List Expr} {t : TA} {dvs : List V}
theorem pe_callC (c : CalOk X.prog X.w X.K X.mg X.base x k ps sp) (hr : Room k X.A) (hg : Gl X x) (hx : Passes (L2.CX X.prog X.w) X E)
    (ha : PA X (e :: es) t) (hdb : (x == ("__debug__" : Str)) = false := by decide) (he : starEach (e :: es) X.env = (false, eval e X.env) :: starEach es X.env := by rfl) (hpl : (backTo pos (starEach es X.env)).any (·.1) = false := by rfl) :
    PE X (.Call (.Name x p) (e :: es) [] pos) (tCall sp [] E t) := by
  obtain ⟨fd, F, hm, hk, hb⟩ := c
  exact pe_call F hr hg hm hk hb .nil hx ha hdb he hpl
theorem pe_call0C (c : CalOk X.prog X.w X.K X.mg X.base x k ps sp) (hr : Room k X.A) (hg : Gl X x) (hx : Passes (L2.CX X.prog X.w) X E)
    (hdb : (x == ("__debug__" : Str)) = false := by decide) : PE X (.Call (.Name x p) [] [] pos) (tCall sp [] E tNil) := by
  obtain ⟨fd, F, hm, hk, hb⟩ := c
  exact pe_call0 F hr hg hm hk hb .nil hx hdb
theorem pe_callD (c : CalDf X.prog X.w X.K X.mg X.base x k ps sp dvs) (hr : Room k X.A) (hg : Gl X x) (hx : Passes (L2.CX X.prog X.w) X E)
    (ha : PA X (e :: es) t) (hdb : (x == ("__debug__" : Str)) = false := by decide) (he : starEach (e :: es) X.env = (false, eval e X.env) :: starEach es X.env := by rfl) (hpl : (backTo pos (starEach es X.env)).any (·.1) = false := by rfl) :
    PE X (.Call (.Name x p) (e :: es) [] pos) (tCall sp dvs E t) := by
  obtain ⟨fd, ds, F, hm, hk, hd, hb⟩ := c
  exact pe_call F hr hg hm hk hb hd hx ha hdb he hpl
end
/-- a class with an __init__ of its own -/
def MakOk (P : Program) (w : World) (K : PySem.W.Frag) (mg : Str → Option Value) (base : Heap) (x : Str) (k : Nat) (ps : List Str) (sp : Sp) : Prop :=
  ∃ (f : Addr) (fd : FuncData), Mk K (He.ga K x) f ∧ FnOk P w K mg base (L2.CX P w) k f fd ps sp ∧ mg x = some (.ref (He.ga K x)) ∧ Binds K fd ps []
section
variable {X : Cx} {k : Nat} {ps : List Str} {sp : Sp} {E : XK} {x : Str} {p pos : Pos} {e : Expr} {es : List Expr} {t : TA}
theorem pe_makeC (c : MakOk X.prog X.w X.K X.mg X.base x k ps sp) (hr : Room (k + 1) X.A) (hg : Gl X x) (hx : Passes (L2.CX X.prog X.w) X E)
    (ha : PA X (e :: es) t) (hdb : (x == ("__debug__" : Str)) = false := by decide) (he : starEach (e :: es) X.env = (false, eval e X.env) :: starEach es X.env := by rfl) (hpl : (backTo pos (starEach es X.env)).any (·.1) = false := by rfl) :
    PE X (.Call (.Name x p) (e :: es) [] pos) (tMake (He.ga X.K x) sp [] E t) := by
  obtain ⟨f, fd, M, F, hm, hb⟩ := c
  exact pe_make M F hr hg hm hb .nil hx ha hdb he hpl
end
/-- raise X('..') -/
def tRaiseC (C : Addr) (W : WX) : TS := fun _ σ H => W (.ref C) none σ H
theorem ps_raiseC {X : Cx} {W : WX} {x m : Str} {j : Nat} {p p2 pos pos2 : Pos} (hc : X.calm = true) (tk : Takes X W) (hx : PySem.W.excIn X.K (He.ga X.K x) He.veBase "ValueError.__new__" = true ∧ PySem.W.keepIn X.K (.ref (He.ga X.K x)) = true ∧
      PySem.W.subIn X.K (.ref (He.ga X.K x)) (.type "BaseException") = some true ∧ PySem.W.typeIn X.K (.ref (He.ga X.K x)) = some (.type "type")) (hm : X.mg x = some (.ref (He.ga X.K x))) (hg : Gl X x := by rfl)
    (hdb : (x == ("__debug__" : Str)) = false := by decide) : PS X (.Raise (some (.Call (.Name x p) [.Constant (.str m) j p2] [] pos)) none pos2) (tRaiseC (He.ga X.K x) W) :=
  ps_raise hc tk (pmk_own PySem.F.excBase_ValueError hx.1 hm hx.2.1 (raises_own hx.2.2.1 hx.2.2.2) hg hdb)

/-! ### the facts of the top -/
structure Facts (fa : List He.Fa) (fn : List He.DefD) (K : PySem.W.Frag) (mg : Str → Option Value) : Prop where
  says : He.SaysD fa fn K
  here : ∃ h : Heap, K.In h ∧ h.Ns mainGlobals mg
section
variable {fa : List He.Fa} {fn : List He.DefD} {K : PySem.W.Frag} {mg : Str → Option Value}
theorem Facts.glo (T : Facts fa fn K mg) (i : Nat) {x : Str} (h : fa[i]? = some (.glo x) := by rfl) : mg x = some (.ref (He.ga K x)) := by
  obtain ⟨hp, X, G⟩ := T.here
  exact He.glo_ok X G (T.says.fact i h)
theorem Facts.free (T : Facts fa fn K mg) (i : Nat) {x : Str} (h : fa[i]? = some (.free x) := by rfl) : mg x = none := by
  obtain ⟨hp, X, G⟩ := T.here
  exact He.free_ok X G (T.says.fact i h)
theorem Facts.gint (T : Facts fa fn K mg) (i : Nat) {x : Str} {n : Int} (h : fa[i]? = some (.int x n) := by rfl) : ∃ t, mg x = some (.int n t) := by
  obtain ⟨hp, X, G⟩ := T.here
  exact He.int_ok X G (T.says.fact i h)
theorem Facts.gstr (T : Facts fa fn K mg) (i : Nat) {x z : Str} (h : fa[i]? = some (.str x z) := by rfl) : ∃ t, mg x = some (.str z t) := by
  obtain ⟨hp, X, G⟩ := T.here
  exact He.str_ok X G (T.says.fact i h)
theorem Facts.exc (T : Facts fa fn K mg) (i : Nat) {x : Str} (h : fa[i]? = some (.exc x) := by rfl) : PySem.W.excIn K (He.ga K x) He.veBase "ValueError.__new__" = true ∧ PySem.W.keepIn K (.ref (He.ga K x)) = true ∧
      PySem.W.subIn K (.ref (He.ga K x)) (.type "BaseException") = some true ∧ PySem.W.typeIn K (.ref (He.ga K x)) = some (.type "type") := He.exc_ok (T.says.fact i h)
theorem Facts.cls (T : Facts fa fn K mg) (i : Nat) {x : Str} (h : fa[i]? = some (.cls x) := by rfl) : Cls K (He.ga K x) := He.cls_ok (T.says.fact i h)
theorem Facts.noat (T : Facts fa fn K mg) (i : Nat) {x f : Str} (h : fa[i]? = some (.noat x f) := by rfl) : NoAttr K (He.ga K x) f := He.noat_ok (T.says.fact i h)
theorem Facts.mkr (T : Facts fa fn K mg) (i : Nat) {x : Str} (h : fa[i]? = some (.mkr x) := by rfl) : Mk K (He.ga K x) (He.ma K (He.ga K x) "__init__") := He.mkr_ok (T.says.fact i h)
theorem Facts.meth (T : Facts fa fn K mg) (i : Nat) {x m : Str} (h : fa[i]? = some (.meth x m) := by rfl) : Meth K (He.ga K x) m (He.ma K (He.ga K x) m) := He.meth_ok (T.says.fact i h)
/-- a def without defaults keeps its promise: so its callers see it -/
theorem Facts.cal (T : Facts fa fn K mg) {P : Program} {w : World} {base : Heap} {k : Nat} {N ps : List Str} {sp : Sp} (i j : Nat) {d : He.DefD} {x : Str} (hi : fn[i]? = some d) (hd : d.at_ = (x, none)) (hdf : d.dfl = []) (hkw : d.kwd = []) (hj : fa[j]? = some (.glo x))
    (S : FnScope N ps d.scope) (len : ∀ vs H Q E, sp vs H Q E → vs.length = ps.length)
    (hb : ∀ (dV kV doc pm : Value) (an : Option Addr) (cdv ct : Value) (us : List Value), us.length = ps.length → bindArgs (PySem.W.fnOf d.name d.qual d.params d.body d.scope .none kV doc pm an cdv ct) ⟨us, []⟩ = pure (ps.zip us))
    (hbody : ∀ (cdv : Value) (A : Around) (outer : List Env) (s : Shared) (H : Hp) (vs : List V) (Q : VK) (E : XK), Room k (A.deeper (envOfC d.qual d.scope s.heap.objs.size (He.ga K x) cdv)) → sp vs H Q E →
      ∃ t, PSs (cxOf (L2.CX P w) P w K mg base N d.qual d.scope (He.ga K x) cdv A outer s H E) d.body t ∧ t { nx := fun _ H' => Q .non H', rt := Q } (start N vs) H) :
    CalOk P w K mg base x (k + 1) ps sp := by
  obtain ⟨fd, F⟩ := T.says.def_ i hi
  have e1 : He.fAd K d.at_ = He.ga K x := by rw [hd]; rfl
  rw [e1] at F
  refine ⟨fd, FunD.ok F S len hbody, T.glo j hj, F.kp, ?_⟩
  have F2 : FunD K d.name d.qual d.params d.body d.scope [] [] (He.ga K x) fd := by
    have z1 : d.dvs K = [] := by unfold He.DefD.dvs; rw [hdf]; rfl
    have z2 : d.kws K = [] := by unfold He.DefD.kws; rw [hkw]; rfl
    rw [z1, z2] at F
    exact F
  exact F2.bindsN fun kV doc pm an cdv ct us hl => hb .none kV doc pm an cdv ct us hl
/-- an __init__ -/
theorem Facts.mak (T : Facts fa fn K mg) {P : Program} {w : World} {base : Heap} {k : Nat} {N ps : List Str} {sp : Sp} (i j l : Nat) {d : He.DefD} {x : Str} (hi : fn[i]? = some d) (hd : d.at_ = (x, some ("__init__" : Str))) (hdf : d.dfl = []) (hkw : d.kwd = []) (hj : fa[j]? = some (.glo x)) (hl : fa[l]? = some (.mkr x))
    (S : FnScope N ps d.scope) (len : ∀ vs H Q E, sp vs H Q E → vs.length = ps.length)
    (hb : ∀ (dV kV doc pm : Value) (an : Option Addr) (cdv ct : Value) (us : List Value), us.length = ps.length → bindArgs (PySem.W.fnOf d.name d.qual d.params d.body d.scope .none kV doc pm an cdv ct) ⟨us, []⟩ = pure (ps.zip us))
    (hbody : ∀ (cdv : Value) (A : Around) (outer : List Env) (s : Shared) (H : Hp) (vs : List V) (Q : VK) (E : XK), Room k (A.deeper (envOfC d.qual d.scope s.heap.objs.size (He.fAd K d.at_) cdv)) → sp vs H Q E →
      ∃ t, PSs (cxOf (L2.CX P w) P w K mg base N d.qual d.scope (He.fAd K d.at_) cdv A outer s H E) d.body t ∧ t { nx := fun _ H' => Q .non H', rt := Q } (start N vs) H) :
    MakOk P w K mg base x (k + 1) ps sp := by
  obtain ⟨fd, F⟩ := T.says.def_ i hi
  have F2 : FunD K d.name d.qual d.params d.body d.scope [] [] (He.fAd K d.at_) fd := by
    have z1 : d.dvs K = [] := by unfold He.DefD.dvs; rw [hdf]; rfl
    have z2 : d.kws K = [] := by unfold He.DefD.kws; rw [hkw]; rfl
    rw [z1, z2] at F
    exact F
  have M := T.mkr l hl
  have e1 : He.fAd K d.at_ = He.ma K (He.ga K x) "__init__" := by rw [hd]; rfl
  refine ⟨He.fAd K d.at_, fd, by rw [e1]; exact M, FunD.ok F S len hbody, T.glo j hj, F2.bindsN fun kV doc pm an cdv ct us hl => hb .none kV doc pm an cdv ct us hl⟩
end
end DK
set_option maxRecDepth 100000
set_option maxHeartbeats 2000000
/-! DK, second part: data, steps between heaps, readings step by step. -/
namespace DK
open PySem PySem.Spec PyProof.Rows L2
abbrev Sg := L2.St

/-! ### data -/
inductive Dat where
  | non | bl (b : Bool) | int (i : Int) | str (s : Str) | lst (ds : List Dat) | tup (ds : List Dat) | obj (C : Addr) (ns : List Str) (ds : List Dat)
mutual
/-- v bears the datum in the heap F -/
def RD (F : Hp) : Dat → V → Prop
  | .non, v => v = .non
  | .bl b, v => v = .bl b
  | .int i, v => v = .int i
  | .str s, v => v = .str s
  | .lst ds, v => ∃ a vs, v = .ref a ∧ F a = some (.lst vs) ∧ RDs F ds vs
  | .tup ds, v => ∃ a vs, v = .ref a ∧ F a = some (.tup vs) ∧ RDs F ds vs
  | .obj C ns ds, v => ∃ a dx vs, v = .ref a ∧ F a = some (.ins C dx (ns.zip vs)) ∧ RDs F ds vs
def RDs (F : Hp) : List Dat → List V → Prop
  | [], vs => vs = []
  | d :: ds, vs => ∃ v r, vs = v :: r ∧ RD F d v ∧ RDs F ds r
end
abbrev dI (ns : List Int) : List Dat := ns.map Dat.int
/-- a list of ints, a tuple of ints, a list (tuple) of such -/
abbrev dL (ns : List Int) : Dat := .lst (dI ns)
abbrev dT (ns : List Int) : Dat := .tup (dI ns)
abbrev dLL (r : List (List Int)) : Dat := .lst (r.map dL)
abbrev dTT (r : List (List Int)) : Dat := .tup (r.map dT)
abbrev dC (c : Int × Int) : Dat := .tup [.int c.1, .int c.2]
abbrev dLC (cs : List (Int × Int)) : Dat := .lst (cs.map dC)

section
variable {F F' H H' : Hp} {d : Dat} {ds es : List Dat} {v u : V} {vs us : List V}
mutual
theorem RD.up (e : Same F F') : ∀ {d : Dat} {v : V}, RD F d v → RD F' d v
  | .non, _, h => h
  | .bl _, _, h => h
  | .int _, _, h => h
  | .str _, _, h => h
  | .lst ds, v, h => by
    obtain ⟨a, vs, rfl, h1, h2⟩ := h
    exact ⟨a, vs, rfl, e a _ h1, RDs.up e h2⟩
  | .tup ds, v, h => by
    obtain ⟨a, vs, rfl, h1, h2⟩ := h
    exact ⟨a, vs, rfl, e a _ h1, RDs.up e h2⟩
  | .obj C ns ds, v, h => by
    obtain ⟨a, dx, vs, rfl, h1, h2⟩ := h
    exact ⟨a, dx, vs, rfl, e a _ h1, RDs.up e h2⟩
theorem RDs.up (e : Same F F') : ∀ {ds : List Dat} {vs : List V}, RDs F ds vs → RDs F' ds vs
  | [], _, h => h
  | d :: ds, vs, h => by
    obtain ⟨v, r, rfl, h1, h2⟩ := h
    exact ⟨v, r, rfl, RD.up e h1, RDs.up e h2⟩
end
theorem RD.int_ {i : Int} : RD F (.int i) (.int i) := rfl
theorem RD.bl_ {b : Bool} : RD F (.bl b) (.bl b) := rfl
theorem RD.str_ {s : Str} : RD F (.str s) (.str s) := rfl
theorem RD.non_ : RD F .non .non := rfl
theorem RDs.nil : RDs F [] [] := rfl
theorem RDs.cons (h : RD F d v) (t : RDs F ds vs) : RDs F (d :: ds) (v :: vs) := ⟨v, vs, rfl, h, t⟩
theorem RDs.len : ∀ {ds : List Dat} {vs : List V}, RDs F ds vs → vs.length = ds.length
  | [], _, h => by rw [show _ = [] from h]; rfl
  | d :: ds, vs, h => by
    obtain ⟨v, r, rfl, _, h2⟩ := h
    exact congrArg Nat.succ (RDs.len h2)
theorem RDs.app : ∀ {ds : List Dat} {vs : List V}, RDs F ds vs → RDs F es us → RDs F (ds ++ es) (vs ++ us)
  | [], _, h, k => by rw [show _ = [] from h]; exact k
  | d :: ds, vs, h, k => by
    obtain ⟨v, r, rfl, h1, h2⟩ := h
    exact ⟨v, r ++ us, rfl, h1, RDs.app h2 k⟩
theorem RDs.snoc (t : RDs F ds vs) (h : RD F d v) : RDs F (ds ++ [d]) (vs ++ [v]) := t.app (RDs.nil.cons h)
theorem RDs.at : ∀ {ds : List Dat} {vs : List V} {i : Nat} {d : Dat}, RDs F ds vs → ds[i]? = some d → ∃ v, vs[i]? = some v ∧ RD F d v
  | [], _, _, _, _, e => by simp at e
  | d :: ds, vs, 0, d', h, e => by
    obtain ⟨v, r, rfl, h1, _⟩ := h
    have e1 : d = d' := Option.some.inj (by simpa using e)
    subst e1
    exact ⟨v, rfl, h1⟩
  | d :: ds, vs, i + 1, d', h, e => by
    obtain ⟨v, r, rfl, _, h2⟩ := h
    exact RDs.at (i := i) h2 (by simpa using e)
theorem RDs.of_at {i : Nat} (t : RDs F ds vs) (e : vs[i]? = some v) : ∃ d, ds[i]? = some d ∧ RD F d v := by
  have hl := t.len
  have hi := (List.getElem?_eq_some_iff.mp e).1
  obtain ⟨d, hd⟩ : ∃ d, ds[i]? = some d := ⟨ds[i]'(by omega), List.getElem?_eq_getElem (by omega)⟩
  obtain ⟨u, hu, r⟩ := t.at hd
  rw [e] at hu
  cases hu
  exact ⟨d, hd, r⟩
theorem RDs.take : ∀ {ds : List Dat} {vs : List V} (n : Nat), RDs F ds vs → RDs F (ds.take n) (vs.take n)
  | ds, vs, 0, _ => by simp; exact RDs.nil
  | [], _, n + 1, h => by rw [show _ = [] from h]; exact RDs.nil
  | d :: ds, vs, n + 1, h => by
    obtain ⟨v, r, rfl, h1, h2⟩ := h
    exact ⟨v, r.take n, rfl, h1, RDs.take n h2⟩
theorem RDs.drop : ∀ {ds : List Dat} {vs : List V} (n : Nat), RDs F ds vs → RDs F (ds.drop n) (vs.drop n)
  | ds, vs, 0, h => h
  | [], _, n + 1, h => by rw [show _ = [] from h]; exact RDs.nil
  | d :: ds, vs, n + 1, h => by
    obtain ⟨v, r, rfl, h1, h2⟩ := h
    exact RDs.drop n h2
theorem RDs.set : ∀ {ds : List Dat} {vs : List V} (n : Nat), RDs F ds vs → RD F d v → RDs F (ds.set n d) (vs.set n v)
  | [], _, n, h, _ => by rw [show _ = [] from h]; exact RDs.nil
  | d' :: ds, vs, 0, h, k => by
    obtain ⟨v', r, rfl, h1, h2⟩ := h
    exact ⟨v, r, rfl, k, h2⟩
  | d' :: ds, vs, n + 1, h, k => by
    obtain ⟨v', r, rfl, h1, h2⟩ := h
    exact ⟨v', r.set n v, rfl, h1, RDs.set n h2 k⟩
/-- ints are their values -/
theorem RDs.ints : ∀ {ns : List Int} {vs : List V}, RDs F (ns.map Dat.int) vs → vs = ns.map V.int
  | [], _, h => h
  | n :: ns, vs, h => by
    obtain ⟨v, r, rfl, h1, h2⟩ := h
    rw [show v = V.int n from h1, RDs.ints (ns := ns) h2]; rfl
theorem RDs.of_ints : ∀ (ns : List Int), RDs F (ns.map Dat.int) (ns.map V.int)
  | [] => rfl
  | n :: ns => ⟨_, _, rfl, rfl, RDs.of_ints ns⟩
theorem RDs.eq_len {n : Nat} (t : RDs F ds vs) (h : ds.length = n) : vs.length = n := t.len.trans h
end

/-! ### steps between heaps: F is frozen, H stands -/
structure Stp (S : List Addr) (F H F' H' : Hp) : Prop where
  pre : Same F H
  ex : Same F F'
  inn : Same F' H'
  own : ∀ p o, p ∉ S → F p = none → H p = some o → H' p = some o ∧ F' p = none
  dom : ∀ p, H' p = none → H p = none
/-- the object at L is ours alone: not frozen -/
structure Own (F H : Hp) (L : Addr) (o : HO) : Prop where
  f : F L = none
  h : H L = some o
def Fre (H : Hp) (L : Addr) : Prop := H L = none
section
variable {S S' : List Addr} {F H F1 H1 F2 H2 : Hp} {p L : Addr} {o o' : HO} {d : Dat} {ds : List Dat} {v : V} {vs : List V}
theorem Stp.refl (h : Same F H) : Stp S F H F H := ⟨h, Same.refl F, h, fun _ _ _ a b => ⟨b, a⟩, fun _ a => a⟩
theorem Stp.trans (a : Stp S F H F1 H1) (b : Stp S' F1 H1 F2 H2) (h : ∀ p ∈ S', p ∈ S ∨ H p = none) : Stp S F H F2 H2 :=
  ⟨a.pre, a.ex.trans b.ex, b.inn, fun p o n f e => by
    obtain ⟨h1, h2⟩ := a.own p o n f e
    exact b.own p o (fun z => (h p z).elim n fun q => by rw [q] at e; cases e) h2 h1, fun p e => a.dom p (b.dom p e)⟩
theorem Stp.up (a : Stp S F H F1 H1) (h : RD F d v) : RD F1 d v := h.up a.ex
theorem Stp.ups (a : Stp S F H F1 H1) (h : RDs F ds vs) : RDs F1 ds vs := h.up a.ex
theorem Stp.keep (a : Stp S F H F1 H1) (n : L ∉ S) (h : Own F H L o) : Own F1 H1 L o := let ⟨h1, h2⟩ := a.own L o n h.f h.h; ⟨h2, h1⟩
theorem Stp.back (a : Stp S F H F1 H1) (h : Fre H1 L) : Fre H L := a.dom L h
theorem Own.ne (h : Own F H p o) (n : Fre H L) : p ≠ L := ne_of_none h.h n
theorem RD.ne {a : Addr} (e : Same F H) (h : F a = some o) (n : Own F H L o') : a ≠ L := ne_of_none h n.f
/-- a new frozen thing -/
theorem Stp.new (h : Same F H) (n : H p = none) : Stp S F H (upd F p o) (upd H p o) := by
  have nF : F p = none := h.free n
  refine ⟨h, fun b x e => by rw [upd_ne (ne_of_none e nF)]; exact e, fun b x e => ?_, fun b x _ f e => ?_, fun b e => ?_⟩
  · by_cases z : b = p
    · subst z; rw [upd_same] at e ⊢; exact e
    · rw [upd_ne z] at e ⊢; exact h b x e
  · have z := ne_of_none e n
    rw [upd_ne z, upd_ne z]; exact ⟨e, f⟩
  · by_cases z : b = p
    · subst z; exact n
    · rw [upd_ne z] at e; exact e
/-- a new thing of ours -/
theorem Stp.newO (h : Same F H) (n : H p = none) : Stp S F H F (upd H p o) := by
  refine ⟨h, Same.refl F, fun b x e => by rw [upd_ne (ne_of_none (h b x e) n)]; exact h b x e, fun b x _ f e => ?_, fun b e => ?_⟩
  · rw [upd_ne (ne_of_none e n)]; exact ⟨e, f⟩
  · by_cases z : b = p
    · subst z; exact n
    · rw [upd_ne z] at e; exact e
/-- a thing of ours changes -/
theorem Stp.put (h : Same F H) (n : Own F H L o) : Stp [L] F H F (upd H L o') := by
  refine ⟨h, Same.refl F, fun b x e => by rw [upd_ne (ne_of_none e n.f)]; exact h b x e, fun b x z f e => ?_, fun b e => ?_⟩
  · rw [upd_ne (fun q => z (by rw [q]; exact List.mem_cons_self))]; exact ⟨e, f⟩
  · by_cases z : b = L
    · subst z; rw [upd_same] at e; cases e
    · rw [upd_ne z] at e; exact e
/-- a thing of ours is frozen -/
theorem Stp.frz (h : Same F H) (n : Own F H L o) : Stp [L] F H (upd F L o) H := by
  refine ⟨h, fun b x e => by rw [upd_ne (ne_of_none e n.f)]; exact e, fun b x e => ?_, fun b x z f e => ?_, fun b e => e⟩
  · by_cases z : b = L
    · subst z; rw [upd_same] at e; rw [← e]; exact n.h
    · rw [upd_ne z] at e; exact h b x e
  · rw [upd_ne (fun q => z (by rw [q]; exact List.mem_cons_self))]; exact ⟨e, f⟩
theorem nm_nil : p ∉ ([] : List Addr) := by simp
theorem nm_cons (h : p ≠ L) (t : p ∉ S) : p ∉ L :: S := by
  simp only [List.mem_cons, not_or]; exact ⟨h, t⟩
theorem sub_nil : ∀ q ∈ ([] : List Addr), q ∈ S ∨ H q = none := by simp
theorem sub_in (h : L ∈ S) (t : ∀ q ∈ S', q ∈ S ∨ H q = none) : ∀ q ∈ L :: S', q ∈ S ∨ H q = none := fun q hq => by
  rcases List.mem_cons.mp hq with e | e
  · subst e; exact .inl h
  · exact t q e
theorem sub_new (h : Fre H L) (t : ∀ q ∈ S', q ∈ S ∨ H q = none) : ∀ q ∈ L :: S', q ∈ S ∨ H q = none := fun q hq => by
  rcases List.mem_cons.mp hq with e | e
  · subst e; exact .inr h
  · exact t q e
end

/-! ### readings step by step -/
section
variable {K : PySem.W.Frag} {S : List Addr} {F H : Hp} {σ : Sg} {Q : VK} {D : Ends} {ta tb te : TE} {t u : TS} {c c2 : TT} {x y v : V} {i j : Int}
theorem st_seq (k : t { D with nx := u D } σ H) : tSeq t u D σ H := k
theorem st_next (k : D.nx σ H) : tNext D σ H := k
theorem st_ret (k : te σ H D.rt) : tRet te D σ H := k
theorem st_retN (k : D.rt .non H) : tRetN D σ H := k
theorem st_drop (k : te σ H fun _ H1 => D.nx σ H1) : tDrop te D σ H := k
theorem st_if (k : c σ H fun b H1 => if b = true then t D σ H1 else u D σ H1) : tIfS c t u D σ H := k
theorem st_asg {g : TG} (k : te σ H fun x H1 => g x σ H1 D.nx) : tAsg te g D σ H := k
theorem st_gname {n : Nat} {σ' : Sg} {Q : Sg → Hp → Prop} (e : σ.set n (some v) = σ') (k : Q σ' H) : gName n v σ H Q := by
  show Q (σ.set n (some v)) H
  rw [e]; exact k
theorem st_var {n : Nat} (h : σ[n]? = some (some v)) (k : Q v H) : tVar n σ H Q := ⟨v, h, k⟩
theorem st_c (k : Q v H) : tC v σ H Q := k
theorem st_op {r : R2} (k : ta σ H fun x H1 => tb σ H1 fun y H2 => r x y H2 Q) : tOp r ta tb σ H Q := k
theorem st_un {r : V → Hp → VK → Prop} (k : ta σ H fun x H1 => r x H1 Q) : tUn r ta σ H Q := k
theorem st_rU {g : Int → V} (k : Q (g i) H) : rU g (.int i) H Q := ⟨i, rfl, k⟩
theorem st_test {Q : Bool → Hp → Prop} (k : te σ H fun x H' => ∃ b, x = .bl b ∧ Q b H') : tTest te σ H Q := k
theorem st_B {Q : Bool → Hp → Prop} (k : te σ H fun x H' => ∃ b, x = .bl b ∧ Q b H') : tB te σ H Q := k
theorem st_exb {b : Bool} {Q : Bool → Prop} (k : Q b) : ∃ b', V.bl b = .bl b' ∧ Q b' := ⟨b, rfl, k⟩
theorem st_not {Q : Bool → Hp → Prop} (k : c σ H fun b H1 => Q (!b) H1) : tNot c σ H Q := k
theorem st_and {Q : Bool → Hp → Prop} (k : c σ H fun b H1 => if b = true then c2 σ H1 Q else Q false H1) : tAnd c c2 σ H Q := k
theorem st_or {Q : Bool → Hp → Prop} (k : c σ H fun b H1 => if b = true then Q true H1 else c2 σ H1 Q) : tOr c c2 σ H Q := k
theorem st_notV (k : te σ H fun x H1 => ∃ b, x = .bl b ∧ Q (.bl (!b)) H1) : tNotV te σ H Q := k
theorem st_andV (k : ta σ H fun x H1 => ∃ b, x = .bl b ∧ if b = true then tb σ H1 Q else Q (.bl false) H1) : tAndV ta tb σ H Q := k
theorem st_orV (k : ta σ H fun x H1 => ∃ b, x = .bl b ∧ if b = true then Q (.bl true) H1 else tb σ H1 Q) : tOrV ta tb σ H Q := k
theorem st_ifE (k : c σ H fun b H1 => if b = true then ta σ H1 Q else tb σ H1 Q) : tIf c ta tb σ H Q := k
theorem st_chain {r r' : R2} {tc : TE} (k : ta σ H fun x H1 => tb σ H1 fun y H2 => r x y H2 fun z H3 => ∃ b, z = .bl b ∧ (if b = true then tc σ H3 fun w' H4 => r' y w' H4 Q else Q (.bl false) H3)) : tChain r r' ta tb tc σ H Q := k
theorem st_nil {Q : List V → Hp → Prop} (k : Q [] H) : tNil σ H Q := k
theorem st_cons {tr : TA} {Q : List V → Hp → Prop} (k : ta σ H fun x H1 => tr σ H1 fun xs H2 => Q (x :: xs) H2) : tCons ta tr σ H Q := k
theorem st_cb {r : List V → Hp → VK → Prop} {t : TA} (k : t σ H fun vs H1 => r vs H1 Q) : tCB r t σ H Q := k
theorem st_call {sp : Sp} {dvs : List V} {E : XK} {t : TA} (k : t σ H fun vs H1 => sp (vs ++ dvs) H1 Q E) : tCall sp dvs E t σ H Q := k
theorem st_fld {f : Str} (k : ta σ H fun x H1 => ∃ a C dx fs v, x = .ref a ∧ H1 a = some (.ins C dx fs) ∧ Cls K C ∧ NoAttr K C f ∧ fs.lookup f = some v ∧ Q v H1) : tFld K ta f σ H Q := k
theorem st_gsub {to ti : TE} {r : TSet} {Q : Sg → Hp → Prop} (k : to σ H fun o H1 => ti σ H1 fun i H2 => r o i v H2 fun H3 => Q σ H3) : gSub to ti r v σ H Q := k
/-! operators on ints -/
theorem st_add (k : Q (.int (i + j)) H) : rAddU K (.int i) (.int j) H Q := .inl ⟨i, j, rfl, rfl, k⟩
theorem st_I0 {g : Int → Int → V} (k : Q (g i j) H) : rI0 g (.int i) (.int j) H Q := ⟨i, j, rfl, rfl, k⟩
theorem st_mod (h : 0 < j) (k : Q (.int (i % j)) H) : rI (fun _ j => 0 < j) (fun i j => .int (i % j)) (.int i) (.int j) H Q := ⟨i, j, rfl, rfl, h, k⟩
theorem st_mul (h : CMulU i j) (k : Q (.int (i * j)) H) : rMulU (.int i) (.int j) H Q := .inl ⟨i, j, rfl, rfl, h, k⟩
theorem st_div (h : CDivU i j) (k : Q (.int (i / j)) H) : rDivU (.int i) (.int j) H Q := ⟨i, j, rfl, rfl, h, k⟩
theorem mulL (h : -(2 ^ 64) < i ∧ i < 2 ^ 64) : CMulU i j := .inl (.inl h)
theorem mulR (h : -(2 ^ 64) < j ∧ j < 2 ^ 64) : CMulU i j := .inl (.inr h)
theorem divS (h : 0 < j ∧ j < 1073741824) : CDivU i j := .inl h
theorem st_eqI (k : Q (.bl (decide (i = j))) H) : rEqU K (.int i) (.int j) H Q := .inl ⟨rfl, by rw [show decide (V.int i = V.int j) = decide (i = j) by simp]; exact k⟩
theorem st_neI (k : Q (.bl (!decide (i = j))) H) : rNeU K (.int i) (.int j) H Q := .inl ⟨rfl, by rw [show decide (V.int i = V.int j) = decide (i = j) by simp]; exact k⟩
theorem st_isN1 (k : Q (.bl true) H) : rIsN .non .non H Q := ⟨rfl, k⟩
theorem st_isN0 (h : x ≠ .non) (k : Q (.bl false) H) : rIsN x .non H Q := ⟨rfl, by rw [decide_eq_false h]; exact k⟩
theorem st_notN1 (k : Q (.bl false) H) : rNotN .non .non H Q := ⟨rfl, k⟩
theorem st_notN0 (h : x ≠ .non) (k : Q (.bl true) H) : rNotN x .non H Q := ⟨rfl, by rw [decide_eq_false h]; exact k⟩
/-! branches -/
theorem br {p A B : Prop} {_ : Decidable p} (h1 : p → A) (h2 : ¬ p → B) : if decide p = true then A else B := by
  by_cases h : p
  · rw [if_pos (decide_eq_true h)]; exact h1 h
  · rw [if_neg (by simp [h])]; exact h2 h
theorem brT {p A B : Prop} {_ : Decidable p} (h : p) (k : A) : if decide p = true then A else B := br (fun _ => k) fun z => absurd h z
theorem brF {p A B : Prop} {_ : Decidable p} (h : ¬ p) (k : B) : if decide p = true then A else B := br (fun z => absurd z h) fun _ => k
theorem brn {p A B : Prop} {_ : Decidable p} (h1 : ¬ p → A) (h2 : p → B) : if (!decide p) = true then A else B := by
  by_cases h : p
  · rw [if_neg (by simp [h])]; exact h2 h
  · rw [if_pos (by simp [h])]; exact h1 h
theorem brnT {p A B : Prop} {_ : Decidable p} (h : ¬ p) (k : A) : if (!decide p) = true then A else B := brn (fun _ => k) fun z => absurd z h
theorem brnF {p A B : Prop} {_ : Decidable p} (h : p) (k : B) : if (!decide p) = true then A else B := brn (fun z => absurd h z) fun _ => k
theorem br_t {A B : Prop} (k : A) : if true = true then A else B := by rw [if_pos rfl]; exact k
theorem br_f {A B : Prop} (k : B) : if false = true then A else B := by rw [if_neg (by decide)]; exact k
theorem br_nt {A B : Prop} (k : B) : if (!true) = true then A else B := by rw [if_neg (by decide)]; exact k
theorem br_nf {A B : Prop} (k : A) : if (!false) = true then A else B := by rw [if_pos (by decide)]; exact k

/-! ### what is read: frozen data, things of ours -/
variable {ds : List Dat} {vs : List V} {d : Dat} {ns : List Int} {L : Addr} {xs : List V}
theorem same_l {a : Addr} (e : Same F H) (h : F a = some (.lst vs)) : SqL K H a vs := SqL.of (e a _ h)
theorem same_t {a : Addr} (e : Same F H) (h : F a = some (.tup vs)) : SqT K H a vs := SqT.of (e a _ h)
theorem st_lenL (e : Same F H) (h : RD F (.lst ds) v) (k : Q (.int (ds.length : Nat)) H) : rLenU K [v] H Q := by
  obtain ⟨a, vs, rfl, h1, h2⟩ := h
  exact ⟨_, _, rfl, .inl ⟨_, same_l e h1, rfl⟩, by rw [h2.len]; exact k⟩
theorem st_lenT (e : Same F H) (h : RD F (.tup ds) v) (k : Q (.int (ds.length : Nat)) H) : rLenU K [v] H Q := by
  obtain ⟨a, vs, rfl, h1, h2⟩ := h
  exact ⟨_, _, rfl, .inr ⟨_, same_t e h1, rfl⟩, by rw [h2.len]; exact k⟩
theorem st_lenO (h : Own F H L (.lst xs)) (k : Q (.int (xs.length : Nat)) H) : rLenU K [.ref L] H Q := ⟨_, _, rfl, .inl ⟨_, SqL.of h.h, rfl⟩, k⟩
theorem st_lenM {α : Type} {f : α → Dat} {zs : List α} (e : Same F H) (h : RD F (.lst (zs.map f)) v) (k : Q (.int (zs.length : Nat)) H) : rLenU K [v] H Q := st_lenL e h (by rw [List.length_map]; exact k)
theorem st_lenMT {α : Type} {f : α → Dat} {zs : List α} (e : Same F H) (h : RD F (.tup (zs.map f)) v) (k : Q (.int (zs.length : Nat)) H) : rLenU K [v] H Q := st_lenT e h (by rw [List.length_map]; exact k)
/-- x[i] -/
theorem st_ixL (e : Same F H) (h : RD F (.lst ds) v) (hd : atI ds i = some d) (k : ∀ u, RD F d u → Q u H) : rIxU K v (.int i) H Q := by
  obtain ⟨a, vs, rfl, h1, h2⟩ := h
  unfold atI at hd
  cases q : ixN ds.length i with
  | none => rw [q] at hd; cases hd
  | some n =>
    rw [q] at hd
    obtain ⟨u, hu, r⟩ := h2.at hd
    exact .inl ⟨a, vs, i, u, rfl, rfl, same_l e h1, by unfold atI; rw [h2.len, q]; exact hu, k u r⟩
theorem st_ixT (e : Same F H) (h : RD F (.tup ds) v) (hd : atI ds i = some d) (k : ∀ u, RD F d u → Q u H) : rIxU K v (.int i) H Q := by
  obtain ⟨a, vs, rfl, h1, h2⟩ := h
  unfold atI at hd
  cases q : ixN ds.length i with
  | none => rw [q] at hd; cases hd
  | some n =>
    rw [q] at hd
    obtain ⟨u, hu, r⟩ := h2.at hd
    exact .inr (.inl ⟨a, vs, i, u, rfl, rfl, same_t e h1, by unfold atI; rw [h2.len, q]; exact hu, k u r⟩)
theorem atI_in {α : Type} {zs : List α} (h0 : 0 ≤ i) (h1 : i < zs.length) : ∃ z, zs[i.toNat]? = some z ∧ atI zs i = some z := by
  have hl : i.toNat < zs.length := by omega
  obtain ⟨z, hz⟩ : ∃ z, zs[i.toNat]? = some z := ⟨_, List.getElem?_eq_getElem hl⟩
  refine ⟨z, hz, ?_⟩
  have e : i = (i.toNat : Int) := by omega
  rw [e]
  exact atI_nat hz
theorem atI_map {α β : Type} {f : α → β} {zs : List α} {z : α} (h : atI zs i = some z) : atI (zs.map f) i = some (f z) := by
  unfold atI at h ⊢
  rw [List.length_map]
  cases q : ixN zs.length i with
  | none => rw [q] at h; cases h
  | some n =>
    rw [q] at h
    show (zs.map f)[n]? = some (f z)
    rw [List.getElem?_map, show zs[n]? = some z from h]; rfl
/-- .. of a list told by a map, at a place within -/
theorem st_ixM {α : Type} {f : α → Dat} {zs : List α} (e : Same F H) (h : RD F (.lst (zs.map f)) v) (h0 : 0 ≤ i) (h1 : i < zs.length) (k : ∀ z u, zs[i.toNat]? = some z → RD F (f z) u → Q u H) : rIxU K v (.int i) H Q := by
  obtain ⟨z, hz, hz2⟩ := atI_in h0 h1
  exact st_ixL e h (atI_map hz2) fun u r => k z u hz r
theorem st_ixMT {α : Type} {f : α → Dat} {zs : List α} (e : Same F H) (h : RD F (.tup (zs.map f)) v) (h0 : 0 ≤ i) (h1 : i < zs.length) (k : ∀ z u, zs[i.toNat]? = some z → RD F (f z) u → Q u H) : rIxU K v (.int i) H Q := by
  obtain ⟨z, hz, hz2⟩ := atI_in h0 h1
  exact st_ixT e h (atI_map hz2) fun u r => k z u hz r
theorem st_ixI (e : Same F H) (h : RD F (.lst (ns.map Dat.int)) v) (h0 : 0 ≤ i) (h1 : i < ns.length) (k : ∀ z, ns[i.toNat]? = some z → Q (.int z) H) : rIxU K v (.int i) H Q :=
  st_ixM e h h0 h1 fun z u hz r => by rw [show u = V.int z from r]; exact k z hz
theorem st_ixIT (e : Same F H) (h : RD F (.tup (ns.map Dat.int)) v) (h0 : 0 ≤ i) (h1 : i < ns.length) (k : ∀ z, ns[i.toNat]? = some z → Q (.int z) H) : rIxU K v (.int i) H Q :=
  st_ixMT e h h0 h1 fun z u hz r => by rw [show u = V.int z from r]; exact k z hz
theorem st_ixO (h : Own F H L (.lst xs)) (hd : atI xs i = some v) (k : Q v H) : rIxU K (.ref L) (.int i) H Q := .inl ⟨L, xs, i, v, rfl, rfl, SqL.of h.h, hd, k⟩
/-- a field of a frozen instance -/
theorem st_fldD {C : Addr} {nms : List Str} {f : Str} {n : Nat} (e : Same F H) (h : RD F (.obj C nms ds) v) (cl : Cls K C) (na : NoAttr K C f) (hf : nms.idxOf f = n) (hl : n < nms.length) {P : V → Prop} (hd : ds[n]? = some d) (k : ∀ u, RD F d u → P u) :
    ∃ a C dx fs u, v = .ref a ∧ H a = some (.ins C dx fs) ∧ Cls K C ∧ NoAttr K C f ∧ fs.lookup f = some u ∧ P u := by
  obtain ⟨a, dx, vs, rfl, h1, h2⟩ := h
  obtain ⟨u, hu, r⟩ := h2.at hd
  refine ⟨a, C, dx, _, u, rfl, e a _ h1, cl, na, ?_, k u r⟩
  clear h1 h2 hd k
  induction nms generalizing n vs with
  | nil => simp at hl
  | cons m ms ih =>
    cases vs with
    | nil => simp at hu
    | cons w ws =>
      rw [List.zip_cons_cons, List.lookup_cons]
      by_cases z : f = m
      · have zb : (f == m) = true := by simpa using z
        rw [zb]
        have hn : n = 0 := by rw [← hf, List.idxOf_cons]; simp [z]
        subst hn
        simpa using hu
      · have zb : (f == m) = false := by simpa using z
        have zc : (m == f) = false := by simpa using fun q => z q.symm
        rw [zb]
        have hn : n = ms.idxOf f + 1 := by rw [← hf, List.idxOf_cons]; simp [zc]
        subst hn
        exact ih (n := ms.idxOf f) rfl (by simpa using hl) ws (by simpa using hu)
/-! ### what is made -/
/-- a new list, a new tuple is owed -/
def NewL (vs : List V) (H : Hp) (Q : VK) : Prop := vs.length ≤ sizeLine ∧ ∀ p, H p = none → Q (.ref p) (upd H p (.lst vs))
def NewT (vs : List V) (H : Hp) (Q : VK) : Prop := vs.length ≤ sizeLine ∧ ∀ p, H p = none → Q (.ref p) (upd H p (.tup vs))
theorem st_tup {t : TA} (k : t σ H fun xs H1 => NewT xs H1 Q) : tTup t σ H Q := k
theorem st_lst {t : TA} (k : t σ H fun xs H1 => NewL xs H1 Q) : tLst t σ H Q := k
theorem sz_le {n : Nat} (h : n ≤ 1000000) : n ≤ sizeLine := Nat.le_trans h (by decide)
theorem sz_lt {n : Nat} (h : n < 1000000) : n < sizeLine := Nat.lt_of_lt_of_le h (by decide)
theorem nw_lst (e : Same F H) (h : RDs F ds vs) (k : ∀ u F' H', Stp [] F H F' H' → RD F' (.lst ds) u → Q u H') : ∀ p, H p = none → Q (.ref p) (upd H p (.lst vs)) := fun p n => by
  have s : Stp [] F H (upd F p (.lst vs)) (upd H p (.lst vs)) := Stp.new e n
  exact k _ _ _ s ⟨p, vs, rfl, upd_same, h.up s.ex⟩
theorem nw_tup (e : Same F H) (h : RDs F ds vs) (k : ∀ u F' H', Stp [] F H F' H' → RD F' (.tup ds) u → Q u H') : ∀ p, H p = none → Q (.ref p) (upd H p (.tup vs)) := fun p n => by
  have s : Stp [] F H (upd F p (.tup vs)) (upd H p (.tup vs)) := Stp.new e n
  exact k _ _ _ s ⟨p, vs, rfl, upd_same, h.up s.ex⟩
/-- a new list of ours -/
theorem nw_own {o : HO} (e : Same F H) (k : ∀ L F' H', Stp [] F H F' H' → Fre H L → Own F' H' L o → Q (.ref L) H') : ∀ p, H p = none → Q (.ref p) (upd H p o) := fun p n =>
  k p _ _ (Stp.newO e n) n ⟨e.free n, upd_same⟩
theorem newL (z : vs.length ≤ 1000000) (e : Same F H) (h : RDs F ds vs) (k : ∀ u F' H', Stp [] F H F' H' → RD F' (.lst ds) u → Q u H') : NewL vs H Q := ⟨sz_le z, nw_lst e h k⟩
theorem newT (z : vs.length ≤ 1000000) (e : Same F H) (h : RDs F ds vs) (k : ∀ u F' H', Stp [] F H F' H' → RD F' (.tup ds) u → Q u H') : NewT vs H Q := ⟨sz_le z, nw_tup e h k⟩
theorem newO (z : vs.length ≤ 1000000) (e : Same F H) (k : ∀ L F' H', Stp [] F H F' H' → Fre H L → Own F' H' L (.lst vs) → Q (.ref L) H') : NewL vs H Q := ⟨sz_le z, nw_own e k⟩
/-- made.append(e) -/
theorem st_bm {T : String} {r : V → List V → Hp → VK → Prop} {to : TE} {t : TA} (k : to σ H fun x H1 => tyV K T x H1 ∧ t σ H1 fun xs H2 => r x xs H2 Q) : tBM K T r to t σ H Q := k
theorem st_bm0 {T : String} {r : V → List V → Hp → VK → Prop} {to : TE} (k : to σ H fun x H1 => tyV K T x H1 ∧ r x [] H1 Q) : tBM0 K T r to σ H Q := k
theorem ty_own (h : Own F H L (.lst xs)) : tyV K "list" (.ref L) H := .inl ⟨rfl, _, SqL.of h.h⟩
theorem st_app (e : Same F H) (h : Own F H L (.lst xs)) (z : xs.length < 1000000) (k : ∀ F' H', Stp [L] F H F' H' → Own F' H' L (.lst (xs ++ [v])) → Q .non H') : rAppend (.ref L) [v] H Q :=
  ⟨L, xs, v, rfl, rfl, h.h, sz_lt z, k _ _ (Stp.put e h) ⟨h.f, upd_same⟩⟩
theorem st_setO {n : Nat} {Q : Hp → Prop} (e : Same F H) (h : Own F H L (.lst xs)) (hn : ixN xs.length i = some n) (k : ∀ F' H', Stp [L] F H F' H' → Own F' H' L (.lst (xs.set n v)) → Q H') : rSetL (.ref L) (.int i) v H Q :=
  ⟨L, xs, i, n, rfl, rfl, h.h, hn, k _ _ (Stp.put e h) ⟨h.f, upd_same⟩⟩
/-- tuple(x) of a list of ours, of frozen data -/
theorem st_tupO (e : Same F H) (h : Own F H L (.lst xs)) (hd : RDs F ds xs) (k : ∀ u F' H', Stp [] F H F' H' → RD F' (.tup ds) u → Q u H') : rTupU K [.ref L] H Q :=
  ⟨L, xs, rfl, .inl ⟨SqL.of h.h, nw_tup e hd k⟩⟩
theorem st_tupL (e : Same F H) (h : RD F (.lst ds) v) (k : ∀ u F' H', Stp [] F H F' H' → RD F' (.tup ds) u → Q u H') : rTupU K [v] H Q := by
  obtain ⟨a, vs, rfl, h1, h2⟩ := h
  exact ⟨a, vs, rfl, .inl ⟨same_l e h1, nw_tup e h2 k⟩⟩
theorem st_tupT (e : Same F H) (h : RD F (.tup ds) v) (k : Q v H) : rTupU K [v] H Q := by
  obtain ⟨a, vs, rfl, h1, h2⟩ := h
  exact ⟨a, vs, rfl, .inr ⟨same_t e h1, k⟩⟩
theorem st_lstL (e : Same F H) (h : RD F (.lst ds) v) (k : ∀ u F' H', Stp [] F H F' H' → RD F' (.lst ds) u → Q u H') : rListU K [v] H Q := by
  obtain ⟨a, vs, rfl, h1, h2⟩ := h
  exact ⟨a, vs, rfl, .inl (same_l e h1), nw_lst e h2 k⟩
theorem st_lstT (e : Same F H) (h : RD F (.tup ds) v) (k : ∀ u F' H', Stp [] F H F' H' → RD F' (.lst ds) u → Q u H') : rListU K [v] H Q := by
  obtain ⟨a, vs, rfl, h1, h2⟩ := h
  exact ⟨a, vs, rfl, .inr (same_t e h1), nw_lst e h2 k⟩
/-- a, b = .. of a frozen tuple -/
theorem st_gtup {n : Nat} {t : TGs} {Q : Sg → Hp → Prop} (e : Same F H) (h : RD F (.tup ds) v) (hn : ds.length = n) (k : ∀ vs, RDs F ds vs → t vs σ H Q) : gTupU K n t v σ H Q := by
  obtain ⟨a, vs, rfl, h1, h2⟩ := h
  exact .inl ⟨a, vs, rfl, same_t e h1, by rw [h2.len, hn], k vs h2⟩
theorem st_gcons {t : TG} {u : TGs} {r : List V} {Q : Sg → Hp → Prop} (k : t v σ H fun σ' H' => u r σ' H' Q) : gCons t u (v :: r) σ H Q := ⟨v, r, rfl, k⟩
theorem st_gnil {Q : Sg → Hp → Prop} (k : Q σ H) : gNil [] σ H Q := ⟨rfl, k⟩

/-! ### loops -/
theorem st_for {wi : TI} {g : TG} {tb : TS} (k : wi σ H fun J H1 => ∃ W : Nat → Nat → Sg → Hp → Prop, (∃ m, W 0 m σ H1) ∧ ∀ i m σ H, W i m σ H →
  (J.stop i H ∧ D.nx σ H) ∨ (J.go i H ∧ ∃ N : Sg → Hp → Prop, (∀ σ' H', N σ' H' → ∃ m', m' < m ∧ W (i + 1) m' σ' H') ∧ ∀ x H', J.yld i H x H' → g x σ H' fun σ2 H2 => tb { D with nx := N, ct := N, bk := D.nx } σ2 H2)) : tFor wi g tb D σ H := k
/-- what a for owes once its iterable is known -/
abbrev LoopOwes (g : TG) (tb : TS) (D : Ends) (σ : Sg) (J : It) (H1 : Hp) : Prop := ∃ W : Nat → Nat → Sg → Hp → Prop, (∃ m, W 0 m σ H1) ∧ ∀ i m σ H, W i m σ H →
  (J.stop i H ∧ D.nx σ H) ∨ (J.go i H ∧ ∃ N : Sg → Hp → Prop, (∀ σ' H', N σ' H' → ∃ m', m' < m ∧ W (i + 1) m' σ' H') ∧ ∀ x H', J.yld i H x H' → g x σ H' fun σ2 H2 => tb { D with nx := N, ct := N, bk := D.nx } σ2 H2)
theorem st_iseqL {R : It → Hp → Prop} (k : te σ H fun x H1 => ∃ a, x = .ref a ∧ (∃ xs, SqL K H1 a xs) ∧ R (Itl K a) H1) : iSeq K te σ H R := .inl k
theorem st_iseqT {R : It → Hp → Prop} (k : te σ H fun x H1 => ∃ a, x = .ref a ∧ (∃ xs, SqT K H1 a xs) ∧ R (Itt K a) H1) : iSeq K te σ H R := .inr k
variable {g : TG} {tl : TS}
/-- a for over frozen data: the invariant by the turn, the slots and the heap; the frozen heap F stays within -/
theorem lp_lst (e : Same F H) (h : RD F (.lst ds) v) (Pv : Nat → Sg → Hp → Prop) (h0 : Pv 0 σ H) (hG : ∀ i σ H, Pv i σ H → Same F H)
    (hs : ∀ i d x σ H, ds[i]? = some d → RD F d x → Pv i σ H → g x σ H fun σ2 H2 => tl { D with nx := Pv (i + 1), ct := Pv (i + 1), bk := D.nx } σ2 H2) (hd : ∀ σ H, Pv ds.length σ H → D.nx σ H) :
    ∃ a, v = .ref a ∧ (∃ xs, SqL K H a xs) ∧ LoopOwes g tl D σ (Itl K a) H := by
  obtain ⟨a, vs, rfl, h1, h2⟩ := h
  refine ⟨a, rfl, ⟨vs, same_l e h1⟩, for_it (walk_list (xs := vs)) Pv h0 (fun i σ H _ p => same_l (hG i σ H p) h1) (fun i x σ H H' hi p y => ?_) fun σ H p => hd σ H (by rw [← h2.len]; exact p)⟩
  obtain ⟨rfl, hx⟩ := y
  obtain ⟨d, hd, r⟩ := h2.of_at hx
  exact hs i d x σ _ hd r p
theorem lp_tup (e : Same F H) (h : RD F (.tup ds) v) (Pv : Nat → Sg → Hp → Prop) (h0 : Pv 0 σ H) (hG : ∀ i σ H, Pv i σ H → Same F H)
    (hs : ∀ i d x σ H, ds[i]? = some d → RD F d x → Pv i σ H → g x σ H fun σ2 H2 => tl { D with nx := Pv (i + 1), ct := Pv (i + 1), bk := D.nx } σ2 H2) (hd : ∀ σ H, Pv ds.length σ H → D.nx σ H) :
    ∃ a, v = .ref a ∧ (∃ xs, SqT K H a xs) ∧ LoopOwes g tl D σ (Itt K a) H := by
  obtain ⟨a, vs, rfl, h1, h2⟩ := h
  refine ⟨a, rfl, ⟨vs, same_t e h1⟩, for_it (walk_tup (xs := vs)) Pv h0 (fun i σ H _ p => same_t (hG i σ H p) h1) (fun i x σ H H' hi p y => ?_) fun σ H p => hd σ H (by rw [← h2.len]; exact p)⟩
  obtain ⟨rfl, hx⟩ := y
  obtain ⟨d, hd, r⟩ := h2.of_at hx
  exact hs i d x σ _ hd r p
/-- for over range(n), range(a, b) -/
theorem st_rng1 {t : TA} {R : It → Hp → Prop} (k : t σ H fun vs H1 => ∃ j : Int, vs = [.int j] ∧ -(2 ^ 62) ≤ j ∧ j < 2 ^ 62 ∧ R (Itr 0 j.toNat) H1) : iRng1 t σ H R := k
theorem st_rng2 {t : TA} {R : It → Hp → Prop} (k : t σ H fun vs H1 => ∃ i j : Int, vs = [.int i, .int j] ∧ (-(2 ^ 62) ≤ i ∧ i < 2 ^ 62 ∧ -(2 ^ 62) ≤ j ∧ j < 2 ^ 62) ∧ R (Itr i (j - i).toNat) H1) : iRng2 t σ H R := k
theorem st_rng3 {t : TA} {R : It → Hp → Prop} (k : t σ H fun vs H1 => ∃ (i j c : Int) (n : Nat), vs = [.int i, .int j, .int c] ∧ RgC i j c n ∧ R (Itc i c n) H1) : iRng3 t σ H R := k
theorem lp_rng {lo : Int} {n : Nat} (Pv : Nat → Sg → Hp → Prop) (h0 : Pv 0 σ H) (hs : ∀ i σ H, i < n → Pv i σ H → g (.int (lo + i)) σ H fun σ2 H2 => tl { D with nx := Pv (i + 1), ct := Pv (i + 1), bk := D.nx } σ2 H2)
    (hd : ∀ σ H, Pv n σ H → D.nx σ H) : LoopOwes g tl D σ (Itr lo n) H :=
  for_it walk_range Pv h0 (fun _ _ _ _ _ => trivial) (fun i x σ H H' hi p y => by
    obtain ⟨rfl, rfl⟩ := y
    exact hs i σ _ hi p) hd
theorem lp_rng0 {n : Nat} (Pv : Nat → Sg → Hp → Prop) (h0 : Pv 0 σ H) (hs : ∀ (i : Nat) σ H, i < n → Pv i σ H → g (.int (i : Int)) σ H fun σ2 H2 => tl { D with nx := Pv (i + 1), ct := Pv (i + 1), bk := D.nx } σ2 H2)
    (hd : ∀ σ H, Pv n σ H → D.nx σ H) : LoopOwes g tl D σ (Itr 0 n) H :=
  lp_rng Pv h0 (fun i σ H hi p => by rw [Int.zero_add]; exact hs i σ H hi p) hd
end

theorem atI_zero {α : Type} {a : α} {l : List α} : atI (a :: l) 0 = some a := atI_nat (j := 0) rfl
/-! ### a list or a tuple -/
def IsSeq (d : Dat) (ds : List Dat) : Prop := d = .lst ds ∨ d = .tup ds
theorem IsSeq.l {ds : List Dat} : IsSeq (.lst ds) ds := .inl rfl
theorem IsSeq.t {ds : List Dat} : IsSeq (.tup ds) ds := .inr rfl
section
variable {K : PySem.W.Frag} {F H : Hp} {σ : Sg} {Q : VK} {D : Ends} {v : V} {i : Int} {d d2 : Dat} {ds : List Dat} {g : TG} {tl : TS}
theorem st_lenQ (e : Same F H) (h : RD F d v) (q : IsSeq d ds) (k : Q (.int (ds.length : Nat)) H) : rLenU K [v] H Q := by
  rcases q with rfl | rfl
  · exact st_lenL e h k
  · exact st_lenT e h k
theorem st_ixQ (e : Same F H) (h : RD F d v) (q : IsSeq d ds) (hd : atI ds i = some d2) (k : ∀ u, RD F d2 u → Q u H) : rIxU K v (.int i) H Q := by
  rcases q with rfl | rfl
  · exact st_ixL e h hd k
  · exact st_ixT e h hd k
theorem st_tupQ (e : Same F H) (h : RD F d v) (q : IsSeq d ds) (k : ∀ u F' H', Stp [] F H F' H' → RD F' (.tup ds) u → Q u H') : rTupU K [v] H Q := by
  rcases q with rfl | rfl
  · exact st_tupL e h k
  · exact st_tupT e h (k v F H (Stp.refl e) h)
theorem st_lstQ (e : Same F H) (h : RD F d v) (q : IsSeq d ds) (k : ∀ u F' H', Stp [] F H F' H' → RD F' (.lst ds) u → Q u H') : rListU K [v] H Q := by
  rcases q with rfl | rfl
  · exact st_lstL e h k
  · exact st_lstT e h k
theorem lp_seqV {n : Nat} (hv : σ[n]? = some (some v)) (e : Same F H) (h : RD F d v) (q : IsSeq d ds) (Pv : Nat → Sg → Hp → Prop) (h0 : Pv 0 σ H) (hG : ∀ i σ H, Pv i σ H → Same F H)
    (hs : ∀ i d x σ H, ds[i]? = some d → RD F d x → Pv i σ H → g x σ H fun σ2 H2 => tl { D with nx := Pv (i + 1), ct := Pv (i + 1), bk := D.nx } σ2 H2) (hd : ∀ σ H, Pv ds.length σ H → D.nx σ H) :
    iSeq K (tVar n) σ H fun J H1 => LoopOwes g tl D σ J H1 := by
  rcases q with rfl | rfl
  · exact .inl ⟨v, hv, lp_lst e h Pv h0 hG hs hd⟩
  · exact .inr ⟨v, hv, lp_tup e h Pv h0 hG hs hd⟩
end

/-! ### the script -/
structure Scr (K : PySem.W.Frag) (F : Hp) (v : V) (ns : List Int) : Prop where
  at_ : ∃ a, v = .ref a ∧ SqL K F a (ns.map V.int)
  len : ns.length ≤ 63
section
variable {K : PySem.W.Frag} {S : List Addr} {F H F1 H1 : Hp} {Q : VK} {v : V} {ns : List Int} {i : Int}
theorem Scr.up (a : Stp S F H F1 H1) (h : Scr K F v ns) : Scr K F1 v ns := by
  obtain ⟨x, e, q⟩ := h.at_
  exact ⟨⟨x, e, Same.seq a.ex q⟩, h.len⟩
theorem st_lenS (e : Same F H) (h : Scr K F v ns) (k : Q (.int (ns.length : Nat)) H) : rLenU K [v] H Q := by
  obtain ⟨a, rfl, q⟩ := h.at_
  exact ⟨_, _, rfl, .inl ⟨_, Same.seq e q, rfl⟩, by rw [List.length_map]; exact k⟩
theorem st_ixS (e : Same F H) (h : Scr K F v ns) (h0 : 0 ≤ i) (h1 : i < ns.length) (k : ∀ z, ns[i.toNat]? = some z → Q (.int z) H) : rIxU K v (.int i) H Q := by
  obtain ⟨a, rfl, q⟩ := h.at_
  obtain ⟨z, hz, hz2⟩ := atI_in h0 h1
  exact .inl ⟨a, _, i, .int z, rfl, rfl, Same.seq e q, atI_map hz2, k z hz⟩
end

/-! ### the end of a law -/
theorem walk_ofX {l : PySem.W.OpenLaw} {n k : Nat} {q : Program} {loose : List Str} {XP : (Str → Option Value) → Heap → Prop} {YP : World → Heap → Prop} {d : DefRec} {x : Str}
    (hn : l.most = some n) (hn2 : n ≤ sizeLine) (hdf : d.params.defaults = []) (hr : Room k callerA)
    (F : ∀ (w : World) (mg : Str → Option Value) (fa : Addr) (h : Heap), YP w h → h.Ns mainGlobals mg → mg d.name = some (.ref fa) →
      ∃ (K : PySem.W.Frag) (fd : FuncData) (sp : Sp), K.In h ∧ (∀ (s : Shared) (u : Value), BindsTo s fd ⟨[u], []⟩ [(x, u)]) ∧
        (∀ (H : Hp) (a : Addr) (ns : List Int), ns.length ≤ n → Only H → SqL K H a (ns.map V.int) → sp [.ref a] H (fun v _ => v = .bl true) fun _ _ _ => False) ∧
        ∀ base : Heap, K.In base → base.Ns mainGlobals mg → FnOk l.prog w K mg base (L2.CX l.prog w) k fa fd [x] sp) :
    PySem.W.WalkO q loose XP YP l.row.toRowW d [] (fun f vs => PySem.call f vs) := by
  refine Att.attach_call hn hdf fun w s₀ s₁ mg mb fa o pm cd doc a vs ns G Y ho hd hcd hmg hobj hints hlen hg => ?_
  obtain ⟨K, fd, sp, KX, hb, hsp, hF⟩ := F w mg fa _ Y G.T.g hmg
  exact law_call KX G.T.g G.T.b G.T.builtins G.T.nolimit hg hobj hints (Nat.le_trans hlen hn2) hr hF hb (fun H hO hS => hsp H a ns hlen hO hS) fun H e s' z => by
    obtain ⟨_, _, _, _, _, _, _, _, _, _, _, _, z⟩ := z
    exact z.elim
end DK
set_option maxRecDepth 100000
set_option maxHeartbeats 2000000
/-! DK, third part: mirrors. A def's mirror computes on plain data; Post tells what is owed of its outcome. -/
namespace DK
open PySem PySem.Spec PyProof.Rows L2
inductive Rs (α : Type) where
  | ok (a : α) | exc (c m : Str) | bad
  deriving DecidableEq
namespace Rs
def bnd {α β : Type} : Rs α → (α → Rs β) → Rs β
  | .ok a, k => k a
  | .exc c m, _ => .exc c m
  | .bad, _ => .bad
@[simp] theorem bnd_ok {α β : Type} {a : α} {k : α → Rs β} : (Rs.ok a).bnd k = k a := rfl
@[simp] theorem bnd_bad {α β : Type} {k : α → Rs β} : (Rs.bad : Rs α).bnd k = .bad := rfl
@[simp] theorem bnd_exc {α β : Type} {c m : Str} {k : α → Rs β} : (Rs.exc c m : Rs α).bnd k = .exc c m := rfl
end Rs
inductive Ctl (S R : Type) where
  | nx (s : S) | bk (s : S) | rt (r : R)
def Ctl.on {S R : Type} (A B : S → Prop) (C : R → Prop) : Ctl S R → Prop
  | .nx s => A s
  | .bk s => B s
  | .rt r => C r
def Ctl.go {S R β : Type} (k : S → Rs β) (r : R → Rs β) : Ctl S R → Rs β
  | .nx s => k s
  | .bk s => k s
  | .rt x => r x
@[simp] theorem Ctl.go_nx {S R β : Type} {k : S → Rs β} {r : R → Rs β} {s : S} : Ctl.go k r (.nx s) = k s := rfl
@[simp] theorem Ctl.go_bk {S R β : Type} {k : S → Rs β} {r : R → Rs β} {s : S} : Ctl.go k r (.bk s) = k s := rfl
@[simp] theorem Ctl.go_rt {S R β : Type} {k : S → Rs β} {r : R → Rs β} {s : R} : Ctl.go k r (.rt s : Ctl S R) = r s := rfl
def Rs.thn {S R β : Type} (m : Rs (Ctl S R)) (k : S → Rs β) (r : R → Rs β) : Rs β := m.bnd (Ctl.go k r)
@[simp] theorem Rs.thn_nx {S R β : Type} {k : S → Rs β} {r : R → Rs β} {s : S} : (Rs.ok (Ctl.nx s : Ctl S R)).thn k r = k s := rfl
@[simp] theorem Rs.thn_bk {S R β : Type} {k : S → Rs β} {r : R → Rs β} {s : S} : (Rs.ok (Ctl.bk s : Ctl S R)).thn k r = k s := rfl
@[simp] theorem Rs.thn_rt {S R β : Type} {k : S → Rs β} {r : R → Rs β} {s : R} : (Rs.ok (Ctl.rt s : Ctl S R)).thn k r = r s := rfl
/-- what is owed of an outcome -/
def Post {α : Type} (m : Rs α) (P : α → Prop) (X : Str → Str → Prop) : Prop := match m with
  | .ok a => P a
  | .exc c t => X c t
  | .bad => False
def forR {α S R : Type} (f : S → α → Rs (Ctl S R)) : List α → S → Rs (Ctl S R)
  | [], s => .ok (.nx s)
  | x :: xs, s => (f s x).bnd fun
    | .nx s' => forR f xs s'
    | .bk s' => .ok (.nx s')
    | .rt r => .ok (.rt r)
def whileR {S R : Type} (c : S → Rs Bool) (f : S → Rs (Ctl S R)) : Nat → S → Rs (Ctl S R)
  | 0, _ => .bad
  | n + 1, s => (c s).bnd fun b => if b = true then (f s).bnd fun
    | .nx s' => whileR c f n s'
    | .bk s' => .ok (.nx s')
    | .rt r => .ok (.rt r) else .ok (.nx s)
def mapR {α β : Type} (f : α → Rs (Option β)) : List α → Rs (List β)
  | [] => .ok []
  | x :: xs => (f x).bnd fun o => (mapR f xs).bnd fun r => .ok (match o with | some y => y :: r | none => r)
def ixR {α : Type} (xs : List α) (i : Int) : Rs α := match atI xs i with
  | some x => .ok x
  | none => .bad
abbrev grd {α : Type} (p : Prop) [Decidable p] (k : Rs α) : Rs α := if p then k else .bad
def divOk (j : Int) : Bool := decide (0 < j) && decide (j.natAbs.log2 < 9000)
def mulOk (i j : Int) : Bool := decide (i.natAbs.log2 + j.natAbs.log2 < 1000000)
def rngI (lo hi : Int) : List Int := (List.range (hi - lo).toNat).map fun k => lo + (k : Nat)
def rngS (lo hi c : Int) : List Int := (List.range (Builtin.Range.rangeSize lo hi c).toNat).map fun k => lo + (k : Nat) * c
def rngOk (lo hi : Int) : Bool := decide (-(2 ^ 62) ≤ lo) && decide (lo < 2 ^ 62) && decide (-(2 ^ 62) ≤ hi) && decide (hi < 2 ^ 62)
def rngSOk (lo hi c : Int) : Bool := decide (c ≠ 0) && decide (c.natAbs < 1073741824) && Builtin.Range.small lo hi c
def cutL {α : Type} (xs : List α) (lo hi : Option Int) : List α := (xs.drop (HT.sIx xs.length 0 lo)).take (HT.sIx xs.length xs.length hi - HT.sIx xs.length 0 lo)

section
variable {α β S R : Type} {m : Rs α} {k : α → Rs β} {P : β → Prop} {X : Str → Str → Prop} {i j : Int}
theorem Post.b (h : Post (m.bnd k) P X) : Post m (fun a => Post (k a) P X) X := by
  cases m <;> exact h
theorem Post.mono {P Q : α → Prop} (h : Post m P X) (z : ∀ a, P a → Q a) : Post m Q X := by
  cases m with
  | ok a => exact z a h
  | exc c t => exact h
  | bad => exact h
theorem Post.t {m : Rs (Ctl S R)} {k : S → Rs β} {r : R → Rs β} (h : Post (m.thn k r) P X) : Post m (Ctl.on (fun s => Post (k s) P X) (fun s => Post (k s) P X) fun x => Post (r x) P X) X :=
  h.b.mono fun a p => by cases a <;> exact p
theorem Post.g {p : Prop} {_ : Decidable p} {m : Rs β} (h : Post (grd p m) P X) : p ∧ Post m P X := by
  by_cases z : p
  · rw [grd, if_pos z] at h; exact ⟨z, h⟩
  · rw [grd, if_neg z] at h; exact h.elim
theorem Post.ix {xs : List α} (h : Post ((ixR xs i).bnd k) P X) : ∃ x, atI xs i = some x ∧ Post (k x) P X := by
  unfold ixR at h
  cases q : atI xs i with
  | none => rw [q] at h; exact h.elim
  | some x => rw [q] at h; exact ⟨x, rfl, h⟩
theorem divOk.c (h : divOk j = true) : CDivU i j := by
  simp only [divOk, Bool.and_eq_true, decide_eq_true_eq] at h
  exact .inr h
theorem mulOk.c (h : mulOk i j = true) : CMulU i j := by
  simp only [mulOk, decide_eq_true_eq] at h
  exact .inr h
theorem brP {A B p : Prop} {_ : Decidable p} {m n : Rs β} (h : Post (if p then m else n) P X) (h1 : p → Post m P X → A) (h2 : ¬ p → Post n P X → B) : if decide p = true then A else B := by
  by_cases z : p
  · rw [if_pos z] at h; rw [if_pos (by simp [z])]; exact h1 z h
  · rw [if_neg z] at h; rw [if_neg (by simp [z])]; exact h2 z h
theorem brN {A B p : Prop} {_ : Decidable p} {m n : Rs β} (h : Post (if p then m else n) P X) (h1 : ¬ p → Post n P X → A) (h2 : p → Post m P X → B) : if (!decide p) = true then A else B := by
  by_cases z : p
  · rw [if_pos z] at h; rw [if_neg (by simp [z])]; exact h2 z h
  · rw [if_neg z] at h; rw [if_pos (by simp [z])]; exact h1 z h
theorem brB {A B : Prop} {b : Bool} {m n : Rs β} (h : Post (if b = true then m else n) P X) (h1 : b = true → Post m P X → A) (h2 : ¬ b = true → Post n P X → B) : if b = true then A else B := by
  by_cases z : b = true
  · rw [if_pos z] at h; rw [if_pos z]; exact h1 z h
  · rw [if_neg z] at h; rw [if_neg z]; exact h2 z h
theorem brNB {A B : Prop} {b : Bool} {m n : Rs β} (h : Post (if b = true then m else n) P X) (h1 : ¬ b = true → Post n P X → A) (h2 : b = true → Post m P X → B) : if (!b) = true then A else B := by
  cases b with
  | true => rw [if_pos rfl] at h; rw [if_neg (by decide)]; exact h2 rfl h
  | false => rw [if_neg (by decide)] at h; rw [if_pos (by decide)]; exact h1 (by decide) h
end

/-! ### encodings -/
abbrev eL {α : Type} (e : α → Dat) (xs : List α) : Dat := .lst (xs.map e)
abbrev eT {α : Type} (e : α → Dat) (xs : List α) : Dat := .tup (xs.map e)
abbrev eP {α β : Type} (e : α → Dat) (g : β → Dat) (p : α × β) : Dat := .tup [e p.1, g p.2]
abbrev eP3 {α β γ : Type} (e : α → Dat) (g : β → Dat) (f : γ → Dat) (p : α × β × γ) : Dat := .tup [e p.1, g p.2.1, f p.2.2]
def eQ {α : Type} (b : Bool) (e : α → Dat) (xs : List α) : Dat := match b with
  | true => .tup (xs.map e)
  | false => .lst (xs.map e)

/-! ### cuts -/
section
variable {S R β : Type} {K : PySem.W.Frag} {F H : Hp} {σ : Sg} {Q : VK} {D : Ends} {P : β → Prop} {X : Str → Str → Prop}
theorem cutS {t : TS} {m : Rs (Ctl S R)} {k : S → Rs β} {r : R → Rs β} (hm : Post (m.thn k r) P X) (I : S → Sg → Hp → Prop)
    (h1 : ∀ nx : Sg → Hp → Prop, (∀ s σ' H', I s σ' H' → Post (k s) P X → nx σ' H') → Post m (Ctl.on (fun s => Post (k s) P X) (fun s => Post (k s) P X) fun x => Post (r x) P X) X → t { D with nx := nx } σ H)
    (h2 : ∀ s σ' H', I s σ' H' → Post (k s) P X → D.nx σ' H') : t D σ H := h1 D.nx h2 hm.t
/-- a test, cut -/
theorem cutT {c : TT} {m : Rs Bool} {k : Bool → Rs β} {Q : Bool → Hp → Prop} (F H : Hp) (hm : Post (m.bnd k) P X)
    (h1 : ∀ Q' : Bool → Hp → Prop, (∀ b F' H', Stp [] F H F' H' → Post (k b) P X → Q' b H') → Post m (fun b => Post (k b) P X) X → c σ H Q')
    (h2 : ∀ b F' H', Stp [] F H F' H' → Post (k b) P X → Q b H') : c σ H Q := h1 Q h2 hm.b
/-- a value, cut: a bool -/
theorem cutB {c : TE} {m : Rs Bool} {k : Bool → Rs β} (F H : Hp) (hm : Post (m.bnd k) P X)
    (h1 : ∀ Q' : VK, (∀ b F' H', Stp [] F H F' H' → Post (k b) P X → Q' (.bl b) H') → Post m (fun b => Post (k b) P X) X → c σ H Q')
    (h2 : ∀ b F' H', Stp [] F H F' H' → Post (k b) P X → Q (.bl b) H') : c σ H Q := h1 Q h2 hm.b
/-- a value, cut: a datum -/
theorem cutE {α : Type} {c : TE} {m : Rs α} {k : α → Rs β} (enc : α → Dat) (F H : Hp) (hm : Post (m.bnd k) P X)
    (h1 : ∀ Q' : VK, (∀ b u F' H', Stp [] F H F' H' → RD F' (enc b) u → Post (k b) P X → Q' u H') → Post m (fun b => Post (k b) P X) X → c σ H Q')
    (h2 : ∀ b u F' H', Stp [] F H F' H' → RD F' (enc b) u → Post (k b) P X → Q u H') : c σ H Q := h1 Q h2 hm.b
end

/-! ### steps told by data -/
section
variable {α β S R : Type} {K : PySem.W.Frag} {F H : Hp} {σ : Sg} {Q : VK} {D : Ends} {X : Str → Str → Prop} {i : Int} {v : V} {L : Addr} {vs : List V} {e : α → Dat} {zs : List α} {z : α} {lo hi : Option Int} {b : Bool}
theorem sm_ixL (s : Same F H) (h : RD F (.lst (zs.map e)) v) (hz : atI zs i = some z) (k : ∀ u, RD F (e z) u → Q u H) : rIxU K v (.int i) H Q := st_ixL s h (atI_map hz) k
theorem sm_ixT (s : Same F H) (h : RD F (.tup (zs.map e)) v) (hz : atI zs i = some z) (k : ∀ u, RD F (e z) u → Q u H) : rIxU K v (.int i) H Q := st_ixT s h (atI_map hz) k
theorem sm_ixQ (s : Same F H) (h : RD F (eQ b e zs) v) (hz : atI zs i = some z) (k : ∀ u, RD F (e z) u → Q u H) : rIxU K v (.int i) H Q := by
  cases b with
  | true => exact sm_ixT s h hz k
  | false => exact sm_ixL s h hz k
theorem sm_ixO (h : Own F H L (.lst vs)) (hd : RDs F (zs.map e) vs) (hz : atI zs i = some z) (k : ∀ u, RD F (e z) u → Q u H) : rIxU K (.ref L) (.int i) H Q := by
  have hz2 := atI_map (f := e) hz
  unfold atI at hz2
  cases q : ixN (zs.map e).length i with
  | none => rw [q] at hz2; cases hz2
  | some n =>
    rw [q] at hz2
    obtain ⟨u, hu, r⟩ := hd.at (show (zs.map e)[n]? = some (e z) from hz2)
    exact st_ixO h (by unfold atI; rw [hd.len, q]; exact hu) (k u r)
theorem sm_ixS {ns : List Int} {z : Int} (s : Same F H) (h : Scr K F v ns) (hz : atI ns i = some z) (k : Q (.int z) H) : rIxU K v (.int i) H Q := by
  obtain ⟨a, rfl, q⟩ := h.at_
  exact .inl ⟨a, _, i, .int z, rfl, rfl, Same.seq s q, atI_map hz, k⟩
theorem sm_lenQ (s : Same F H) (h : RD F (eQ b e zs) v) (k : Q (.int (zs.length : Nat)) H) : rLenU K [v] H Q := by
  cases b with
  | true => exact st_lenMT s h k
  | false => exact st_lenM s h k
theorem sm_lenO (h : Own F H L (.lst vs)) (hd : RDs F (zs.map e) vs) (k : Q (.int (zs.length : Nat)) H) : rLenU K [.ref L] H Q :=
  st_lenO h (by rw [show vs.length = zs.length by rw [hd.len, List.length_map]]; exact k)
theorem cutV_RDs (h : RDs F (zs.map e) vs) : RDs F ((cutL zs lo hi).map e) (cutV vs lo hi) := by
  have hl : vs.length = zs.length := by rw [h.len, List.length_map]
  unfold cutV cutL
  rw [hl, List.map_take, List.map_drop]
  exact (h.drop _).take _
theorem sm_slL (s : Same F H) (h : RD F (.lst (zs.map e)) v) (k : ∀ u F' H', Stp [] F H F' H' → RD F' (.lst ((cutL zs lo hi).map e)) u → Q u H') : rSlU K v lo hi H Q := by
  obtain ⟨a, vs, rfl, h1, h2⟩ := h
  exact .inl ⟨a, vs, rfl, same_l s h1, nw_lst s (cutV_RDs h2) k⟩
theorem sm_slT (s : Same F H) (h : RD F (.tup (zs.map e)) v) (k : ∀ u F' H', Stp [] F H F' H' → RD F' (.tup ((cutL zs lo hi).map e)) u → Q u H') : rSlU K v lo hi H Q := by
  have h' := h
  obtain ⟨a, vs, rfl, h1, h2⟩ := h
  by_cases w : HT.sIx vs.length 0 lo = 0 ∧ HT.sIx vs.length vs.length hi = vs.length
  · refine .inr (.inr ⟨a, vs, rfl, same_t s h1, w, k _ F H (Stp.refl s) ?_⟩)
    have hl : vs.length = zs.length := by rw [h2.len, List.length_map]
    have : cutL zs lo hi = zs := by
      unfold cutL
      rw [← hl, w.1, w.2, hl]
      simp
    rw [this]; exact h'
  · exact .inr (.inl ⟨a, vs, rfl, same_t s h1, w, nw_tup s (cutV_RDs h2) k⟩)
theorem sm_slO (s : Same F H) (h : Own F H L (.lst vs)) (hd : RDs F (zs.map e) vs) (k : ∀ u F' H', Stp [] F H F' H' → RD F' (.lst ((cutL zs lo hi).map e)) u → Q u H') : rSlU K (.ref L) lo hi H Q :=
  .inl ⟨L, vs, rfl, SqL.of h.h, nw_lst s (cutV_RDs hd) k⟩
theorem sm_add {i j : Int} (k : Q (.int (i + j)) H) : rAddU K (.int i) (.int j) H Q := st_add k
/-- two lists in one -/
theorem rd_lst {F H : Hp} (s : Same F H) (h : RD F (.lst (zs.map e)) v) : ∃ a vs, v = .ref a ∧ F a = some (.lst vs) ∧ H a = some (.lst vs) ∧ RDs F (zs.map e) vs := by
  obtain ⟨a, vs, rfl, h1, h2⟩ := h
  exact ⟨a, vs, rfl, h1, s a _ h1, h2⟩
theorem own_rd {S : List Addr} {F H F1 H1 : Hp} {L : Addr} (s : Stp S F H F1 H1) (n : Fre H L) (o : Own F1 H1 L (.lst vs)) (hd : RDs F1 (zs.map e) vs) : ∃ F2, Stp S F H F2 H1 ∧ RD F2 (.lst (zs.map e)) (.ref L) := by
  have t := Stp.frz s.inn o
  refine ⟨_, Stp.trans s t (sub_new n sub_nil), L, vs, rfl, upd_same, ?_⟩
  exact hd.up t.ex
/-- a step that freezes a list of ours -/
theorem own_fz {F H : Hp} {L : Addr} (s : Same F H) (o : Own F H L (.lst vs)) (hd : RDs F (zs.map e) vs) : ∃ F2, Stp [L] F H F2 H ∧ RD F2 (.lst (zs.map e)) (.ref L) := by
  have t := Stp.frz s o
  exact ⟨_, t, L, vs, rfl, upd_same, hd.up t.ex⟩
end
end DK
set_option maxRecDepth 100000
set_option maxHeartbeats 2000000
/-! DK, fourth part: loops and comprehensions told by mirrors. -/
namespace DK
open PySem PySem.Spec PyProof.Rows L2
section
variable {α S R : Type} {K : PySem.W.Frag} {F H : Hp} {σ : Sg} {D : Ends} {X : Str → Str → Prop} {P : Ctl S R → Prop} {f : S → α → Rs (Ctl S R)} {zs : List α} {s0 : S} {g : TG} {tl : TS} {v : V} {e : α → Dat} {L : Addr} {vs : List V}
/-- what a turn owes -/
abbrev Turn (f : S → α → Rs (Ctl S R)) (P : Ctl S R → Prop) (rest : List α) (X : Str → Str → Prop) : Ctl S R → Prop := Ctl.on (fun s' => Post (forR f rest s') P X) (fun s' => P (.nx s')) fun r => P (.rt r)
abbrev NxF (I : S → Sg → Hp → Prop) (f : S → α → Rs (Ctl S R)) (P : Ctl S R → Prop) (rest : List α) (X : Str → Str → Prop) : Sg → Hp → Prop := fun σ' H' => ∃ s', I s' σ' H' ∧ Post (forR f rest s') P X
theorem Post.turn {x : α} {rest : List α} {s : S} (h : Post (forR f (x :: rest) s) P X) : Post (f s x) (Turn f P rest X) X := by
  unfold forR at h
  exact h.b.mono fun a p => by cases a <;> exact p
theorem fr_core {J : It} {n : Nat} {G : Hp → Prop} {Y : Nat → Hp → V → Hp → Prop} (w : Walk J n G Y) (hn : n = zs.length) (I : S → Sg → Hp → Prop) (hp : Post (forR f zs s0) P X) (h0 : I s0 σ H) (hG : ∀ s σ H', I s σ H' → G H')
    (hs : ∀ (i : Nat) (x : α) (rest : List α) (s : S) (u : V) σ' H1 H2, zs[i]? = some x → I s σ' H1 → Y i H1 u H2 → Post (f s x) (Turn f P rest X) X → g u σ' H2 fun σ2 H3 => tl { D with nx := NxF I f P rest X, ct := NxF I f P rest X, bk := D.nx } σ2 H3)
    (hd : ∀ s σ H, I s σ H → P (.nx s) → D.nx σ H) : LoopOwes g tl D σ J H := by
  refine for_it w (fun i σ H => ∃ s, I s σ H ∧ Post (forR f (zs.drop i) s) P X) ⟨s0, h0, hp⟩ (fun i σ H _ ⟨s, q, _⟩ => hG s σ H q) ?_ ?_
  · rintro i u σ1 H1 H2 hi ⟨s, q, p⟩ y
    have hl : i < zs.length := hn ▸ hi
    rw [List.drop_eq_getElem_cons hl] at p
    exact hs i zs[i] _ s u σ1 H1 H2 (List.getElem?_eq_getElem hl) q y p.turn
  · rintro σ1 H1 ⟨s, q, p⟩
    rw [hn, List.drop_length] at p
    exact hd s σ1 H1 q p
theorem fr_L (h : RD F (.lst (zs.map e)) v) (s : Same F H) (hp : Post (forR f zs s0) P X) (I : S → Sg → Hp → Prop) (h0 : I s0 σ H) (hG : ∀ s σ H', I s σ H' → Same F H')
    (hs : ∀ (x : α) (rest : List α) (s : S) (u : V) σ' H1, RD F (e x) u → I s σ' H1 → Post (f s x) (Turn f P rest X) X → g u σ' H1 fun σ2 H3 => tl { D with nx := NxF I f P rest X, ct := NxF I f P rest X, bk := D.nx } σ2 H3)
    (hd : ∀ s σ H, I s σ H → P (.nx s) → D.nx σ H) : ∃ a, v = .ref a ∧ (∃ xs, SqL K H a xs) ∧ LoopOwes g tl D σ (Itl K a) H := by
  obtain ⟨a, vs, rfl, h1, h2⟩ := h
  refine ⟨a, rfl, ⟨vs, same_l s h1⟩, fr_core (walk_list (xs := vs)) (by rw [h2.len, List.length_map]) I hp h0 (fun s σ H' q => same_l (hG s σ H' q) h1) ?_ hd⟩
  rintro i x rest s u σ' H1 H2 hx q ⟨rfl, hu⟩ p
  obtain ⟨d, hd, r⟩ := h2.of_at hu
  rw [List.getElem?_map, hx] at hd
  cases hd
  exact hs x rest s u σ' _ r q p
theorem fr_T (h : RD F (.tup (zs.map e)) v) (s : Same F H) (hp : Post (forR f zs s0) P X) (I : S → Sg → Hp → Prop) (h0 : I s0 σ H) (hG : ∀ s σ H', I s σ H' → Same F H')
    (hs : ∀ (x : α) (rest : List α) (s : S) (u : V) σ' H1, RD F (e x) u → I s σ' H1 → Post (f s x) (Turn f P rest X) X → g u σ' H1 fun σ2 H3 => tl { D with nx := NxF I f P rest X, ct := NxF I f P rest X, bk := D.nx } σ2 H3)
    (hd : ∀ s σ H, I s σ H → P (.nx s) → D.nx σ H) : ∃ a, v = .ref a ∧ (∃ xs, SqT K H a xs) ∧ LoopOwes g tl D σ (Itt K a) H := by
  obtain ⟨a, vs, rfl, h1, h2⟩ := h
  refine ⟨a, rfl, ⟨vs, same_t s h1⟩, fr_core (walk_tup (xs := vs)) (by rw [h2.len, List.length_map]) I hp h0 (fun s σ H' q => same_t (hG s σ H' q) h1) ?_ hd⟩
  rintro i x rest s u σ' H1 H2 hx q ⟨rfl, hu⟩ p
  obtain ⟨d, hd, r⟩ := h2.of_at hu
  rw [List.getElem?_map, hx] at hd
  cases hd
  exact hs x rest s u σ' _ r q p
/-- over a list of ours that the loop leaves alone -/
theorem fr_O (o : Own F H L (.lst vs)) (h : RDs F (zs.map e) vs) (hp : Post (forR f zs s0) P X) (I : S → Sg → Hp → Prop) (h0 : I s0 σ H) (hG : ∀ s σ H', I s σ H' → ∃ F', Own F' H' L (.lst vs))
    (hs : ∀ (x : α) (rest : List α) (s : S) (u : V) σ' H1, RD F (e x) u → I s σ' H1 → Post (f s x) (Turn f P rest X) X → g u σ' H1 fun σ2 H3 => tl { D with nx := NxF I f P rest X, ct := NxF I f P rest X, bk := D.nx } σ2 H3)
    (hd : ∀ s σ H, I s σ H → P (.nx s) → D.nx σ H) : ∃ a, V.ref L = .ref a ∧ (∃ xs, SqL K H a xs) ∧ LoopOwes g tl D σ (Itl K a) H := by
  refine ⟨L, rfl, ⟨vs, SqL.of o.h⟩, fr_core (walk_list (xs := vs)) (by rw [h.len, List.length_map]) I hp h0 (fun s σ H' q => SqL.of (hG s σ H' q).choose_spec.h) ?_ hd⟩
  rintro i x rest s u σ' H1 H2 hx q ⟨rfl, hu⟩ p
  obtain ⟨d, hd, r⟩ := h.of_at hu
  rw [List.getElem?_map, hx] at hd
  cases hd
  exact hs x rest s u σ' _ r q p
theorem fr_Q {b : Bool} {te : TE} (h : RD F (eQ b e zs) v) (s : Same F H) (hp : Post (forR f zs s0) P X) (hv : ∀ Q : VK, Q v H → te σ H Q) (I : S → Sg → Hp → Prop) (h0 : I s0 σ H) (hG : ∀ s σ H', I s σ H' → Same F H')
    (hs : ∀ (x : α) (rest : List α) (s : S) (u : V) σ' H1, RD F (e x) u → I s σ' H1 → Post (f s x) (Turn f P rest X) X → g u σ' H1 fun σ2 H3 => tl { D with nx := NxF I f P rest X, ct := NxF I f P rest X, bk := D.nx } σ2 H3)
    (hd : ∀ s σ H, I s σ H → P (.nx s) → D.nx σ H) : iSeq K te σ H fun J H1 => LoopOwes g tl D σ J H1 := by
  cases b with
  | true => exact .inr (hv _ (fr_T h s hp I h0 hG hs hd))
  | false => exact .inl (hv _ (fr_L h s hp I h0 hG hs hd))
theorem rngI_at {lo hi : Int} {i : Nat} {x : Int} (h : (rngI lo hi)[i]? = some x) : x = lo + (i : Nat) := by
  unfold rngI at h
  rw [List.getElem?_map] at h
  cases q : (List.range (hi - lo).toNat)[i]? with
  | none => rw [q] at h; cases h
  | some j =>
    rw [q] at h
    cases h
    have := List.getElem?_eq_some_iff.mp q
    obtain ⟨h1, h2⟩ := this
    rw [← h2, List.getElem_range]
theorem fr_R {lo hi : Int} {f : S → Int → Rs (Ctl S R)} (hp : Post (forR f (rngI lo hi) s0) P X) (I : S → Sg → Hp → Prop) (h0 : I s0 σ H)
    (hs : ∀ (x : Int) (rest : List Int) (s : S) σ' H1, I s σ' H1 → Post (f s x) (Turn f P rest X) X → g (.int x) σ' H1 fun σ2 H3 => tl { D with nx := NxF I f P rest X, ct := NxF I f P rest X, bk := D.nx } σ2 H3)
    (hd : ∀ s σ H, I s σ H → P (.nx s) → D.nx σ H) : LoopOwes g tl D σ (Itr lo (hi - lo).toNat) H := by
  refine fr_core (walk_range (lo := lo) (n := (hi - lo).toNat)) (by simp [rngI]) I hp h0 (fun _ _ _ _ => trivial) ?_ hd
  rintro i x rest s u σ' H1 H2 hx q ⟨rfl, rfl⟩ p
  have := rngI_at hx
  subst this
  exact hs _ rest s σ' _ q p
theorem fr_R1 {hi : Int} {f : S → Int → Rs (Ctl S R)} (hb : rngOk 0 hi = true) (hp : Post (forR f (rngI 0 hi) s0) P X) (I : S → Sg → Hp → Prop) (h0 : I s0 σ H)
    (hs : ∀ (x : Int) (rest : List Int) (s : S) σ' H1, I s σ' H1 → Post (f s x) (Turn f P rest X) X → g (.int x) σ' H1 fun σ2 H3 => tl { D with nx := NxF I f P rest X, ct := NxF I f P rest X, bk := D.nx } σ2 H3)
    (hd : ∀ s σ H, I s σ H → P (.nx s) → D.nx σ H) : ∃ j : Int, [V.int hi] = [.int j] ∧ -(2 ^ 62) ≤ j ∧ j < 2 ^ 62 ∧ LoopOwes g tl D σ (Itr 0 j.toNat) H := by
  simp only [rngOk, Bool.and_eq_true, decide_eq_true_eq] at hb
  have := fr_R (lo := 0) hp I h0 hs hd
  rw [Int.sub_zero] at this
  exact ⟨hi, rfl, hb.1.2, hb.2, this⟩
theorem fr_R2 {lo hi : Int} {f : S → Int → Rs (Ctl S R)} (hb : rngOk lo hi = true) (hp : Post (forR f (rngI lo hi) s0) P X) (I : S → Sg → Hp → Prop) (h0 : I s0 σ H)
    (hs : ∀ (x : Int) (rest : List Int) (s : S) σ' H1, I s σ' H1 → Post (f s x) (Turn f P rest X) X → g (.int x) σ' H1 fun σ2 H3 => tl { D with nx := NxF I f P rest X, ct := NxF I f P rest X, bk := D.nx } σ2 H3)
    (hd : ∀ s σ H, I s σ H → P (.nx s) → D.nx σ H) : ∃ i j : Int, [V.int lo, V.int hi] = [.int i, .int j] ∧ (-(2 ^ 62) ≤ i ∧ i < 2 ^ 62 ∧ -(2 ^ 62) ≤ j ∧ j < 2 ^ 62) ∧ LoopOwes g tl D σ (Itr i (j - i).toNat) H := by
  simp only [rngOk, Bool.and_eq_true, decide_eq_true_eq] at hb
  exact ⟨lo, hi, rfl, ⟨hb.1.1.1, hb.1.1.2, hb.1.2, hb.2⟩, fr_R hp I h0 hs hd⟩
theorem rngS_at {lo hi c : Int} {i : Nat} {x : Int} (h : (rngS lo hi c)[i]? = some x) : x = lo + (i : Nat) * c := by
  unfold rngS at h
  rw [List.getElem?_map] at h
  cases q : (List.range (Builtin.Range.rangeSize lo hi c).toNat)[i]? with
  | none => rw [q] at h; cases h
  | some j =>
    rw [q] at h
    cases h
    obtain ⟨h1, h2⟩ := List.getElem?_eq_some_iff.mp q
    rw [← h2, List.getElem_range]
theorem size_nn {lo hi c : Int} (hc : c ≠ 0) : 0 ≤ Builtin.Range.rangeSize lo hi c := by
  unfold Builtin.Range.rangeSize
  split
  · split
    · have := Int.ediv_nonneg (a := hi - lo - 1) (b := c) (by omega) (by omega); omega
    · omega
  · split
    · have := Int.ediv_nonneg (a := lo - hi - 1) (b := -c) (by omega) (by omega); omega
    · omega
theorem fr_R3 {lo hi c : Int} {f : S → Int → Rs (Ctl S R)} (hb : rngSOk lo hi c = true) (hp : Post (forR f (rngS lo hi c) s0) P X) (I : S → Sg → Hp → Prop) (h0 : I s0 σ H)
    (hs : ∀ (x : Int) (rest : List Int) (s : S) σ' H1, I s σ' H1 → Post (f s x) (Turn f P rest X) X → g (.int x) σ' H1 fun σ2 H3 => tl { D with nx := NxF I f P rest X, ct := NxF I f P rest X, bk := D.nx } σ2 H3)
    (hd : ∀ s σ H, I s σ H → P (.nx s) → D.nx σ H) : ∃ (i j c' : Int) (n : Nat), [V.int lo, V.int hi, V.int c] = [.int i, .int j, .int c'] ∧ RgC i j c' n ∧ LoopOwes g tl D σ (Itc i c' n) H := by
  simp only [rngSOk, Bool.and_eq_true, decide_eq_true_eq] at hb
  refine ⟨lo, hi, c, (Builtin.Range.rangeSize lo hi c).toNat, rfl, ⟨hb.1.1, hb.1.2, hb.2, ?_⟩, ?_⟩
  · have := size_nn (lo := lo) (hi := hi) hb.1.1; omega
  · refine fr_core (walk_rangeC (lo := lo) (c := c) (n := (Builtin.Range.rangeSize lo hi c).toNat)) (by simp [rngS]) I hp h0 (fun _ _ _ _ => trivial) ?_ hd
    rintro i x rest s u σ' H1 H2 hx q ⟨rfl, rfl⟩ p
    have := rngS_at hx
    subst this
    exact hs _ rest s σ' _ q p
/-- enumerate -/
def enumI (zs : List α) : List (Int × α) := zs.zipIdx.map fun p => ((p.2 : Nat), p.1)
theorem enumI_len : (enumI zs).length = zs.length := by simp [enumI]
theorem enumI_at {i : Nat} {p : Int × α} (h : (enumI zs)[i]? = some p) : zs[i]? = some p.2 ∧ p.1 = (i : Nat) := by
  unfold enumI at h
  rw [List.getElem?_map, List.getElem?_zipIdx] at h
  cases q : zs[i]? with
  | none => rw [q] at h; cases h
  | some x => rw [q] at h; cases h; simp
theorem en_step {H1 H2 : Hp} {vs : List V} {i : Nat} {p : Int × α} {u : V} {Fr : Hp} (h2 : RDs F (zs.map e) vs) (hp : (enumI zs)[i]? = some p) (y : YPair (fun i => some (.int (i : Nat))) (fun i => vs[i]?) i H1 u H2) (xx : Same F Fr) (s : Same Fr H1) :
    ∃ F2, Stp [] Fr H1 F2 H2 ∧ RD F2 (eP Dat.int e p) u := by
  obtain ⟨T, x, z, rfl, n, rfl, hx, hz⟩ := y
  obtain ⟨hx1, hx2⟩ := enumI_at hp
  cases hx
  obtain ⟨d, hd, r⟩ := h2.of_at hz
  rw [List.getElem?_map, hx1] at hd
  cases hd
  have t : Stp [] Fr H1 (upd Fr T (.tup [.int (i : Nat), z])) (upd H1 T (.tup [.int (i : Nat), z])) := Stp.new s n
  refine ⟨_, t, T, _, rfl, upd_same, ?_⟩
  rw [hx2]
  exact RDs.cons RD.int_ (RDs.cons (r.up (xx.trans t.ex)) RDs.nil)
theorem fr_EL {f : S → Int × α → Rs (Ctl S R)} (h : RD F (.lst (zs.map e)) v) (s : Same F H) (hp : Post (forR f (enumI zs) s0) P X) (I : S → Hp → Sg → Hp → Prop) (h0 : I s0 F σ H) (hG : ∀ s F' σ H', I s F' σ H' → Same F F' ∧ Same F' H')
    (hs : ∀ (x : Int × α) (rest : List (Int × α)) (s : S) (u : V) F1 σ' H1 F2 H2, I s F1 σ' H1 → Stp [] F1 H1 F2 H2 → RD F2 (eP Dat.int e x) u → Post (f s x) (Turn f P rest X) X → g u σ' H2 fun σ2 H3 => tl { D with nx := NxF (fun s σ H => ∃ F, I s F σ H) f P rest X, ct := NxF (fun s σ H => ∃ F, I s F σ H) f P rest X, bk := D.nx } σ2 H3)
    (hd : ∀ s σ H, (∃ F, I s F σ H) → P (.nx s) → D.nx σ H) : ∃ a xs, [v] = [V.ref a] ∧ SqL K H a xs ∧ LoopOwes g tl D σ (Ite K a) H := by
  obtain ⟨a, vs, rfl, h1, h2⟩ := h
  refine ⟨a, vs, rfl, same_l s h1, fr_core (walk_enum (xs := vs)) (by rw [enumI_len, h2.len, List.length_map]) (fun s σ H => ∃ F, I s F σ H) hp ⟨F, h0⟩ (fun s σ H' ⟨F', q⟩ => same_l ((hG s F' σ H' q).1.trans (hG s F' σ H' q).2) h1) ?_ hd⟩
  rintro i x rest s u σ' H1 H2 hx ⟨F1, q⟩ y p
  obtain ⟨F2, t, r⟩ := en_step h2 hx y (hG _ _ _ _ q).1 (hG _ _ _ _ q).2
  exact hs x rest s u F1 σ' H1 F2 H2 q t r p
theorem fr_ET {f : S → Int × α → Rs (Ctl S R)} (h : RD F (.tup (zs.map e)) v) (s : Same F H) (hp : Post (forR f (enumI zs) s0) P X) (I : S → Hp → Sg → Hp → Prop) (h0 : I s0 F σ H) (hG : ∀ s F' σ H', I s F' σ H' → Same F F' ∧ Same F' H')
    (hs : ∀ (x : Int × α) (rest : List (Int × α)) (s : S) (u : V) F1 σ' H1 F2 H2, I s F1 σ' H1 → Stp [] F1 H1 F2 H2 → RD F2 (eP Dat.int e x) u → Post (f s x) (Turn f P rest X) X → g u σ' H2 fun σ2 H3 => tl { D with nx := NxF (fun s σ H => ∃ F, I s F σ H) f P rest X, ct := NxF (fun s σ H => ∃ F, I s F σ H) f P rest X, bk := D.nx } σ2 H3)
    (hd : ∀ s σ H, (∃ F, I s F σ H) → P (.nx s) → D.nx σ H) : ∃ a xs, [v] = [V.ref a] ∧ SqT K H a xs ∧ LoopOwes g tl D σ (IteT K a) H := by
  obtain ⟨a, vs, rfl, h1, h2⟩ := h
  refine ⟨a, vs, rfl, same_t s h1, fr_core (walk_enumT (xs := vs)) (by rw [enumI_len, h2.len, List.length_map]) (fun s σ H => ∃ F, I s F σ H) hp ⟨F, h0⟩ (fun s σ H' ⟨F', q⟩ => same_t ((hG s F' σ H' q).1.trans (hG s F' σ H' q).2) h1) ?_ hd⟩
  rintro i x rest s u σ' H1 H2 hx ⟨F1, q⟩ y p
  obtain ⟨F2, t, r⟩ := en_step h2 hx y (hG _ _ _ _ q).1 (hG _ _ _ _ q).2
  exact hs x rest s u F1 σ' H1 F2 H2 q t r p
/-- while -/
abbrev WhB (c : S → Rs Bool) (fw : S → Rs (Ctl S R)) (n : Nat) (s : S) (b : Bool) : Rs (Ctl S R) := if b = true then (fw s).bnd fun
    | .nx s' => whileR c fw n s'
    | .bk s' => .ok (.nx s')
    | .rt r => .ok (.rt r) else .ok (.nx s)
abbrev TurnW (c : S → Rs Bool) (fw : S → Rs (Ctl S R)) (n : Nat) (P : Ctl S R → Prop) (X : Str → Str → Prop) : Ctl S R → Prop := Ctl.on (fun s' => Post (whileR c fw n s') P X) (fun s' => P (.nx s')) fun r => P (.rt r)
theorem wh_R {c : S → Rs Bool} {fw : S → Rs (Ctl S R)} {n : Nat} {ct : TT} (hp : Post (whileR c fw n s0) P X) (I : S → Sg → Hp → Prop) (h0 : I s0 σ H)
    (hs : ∀ (n : Nat) (s : S) σ' H' (Nx : Sg → Hp → Prop) (QQ : Bool → Hp → Prop), I s σ' H' → (∀ s' σ2 H2, I s' σ2 H2 → Post (whileR c fw n s') P X → Nx σ2 H2) →
      (∀ H2, tl { D with nx := Nx, ct := Nx, bk := D.nx } σ' H2 → QQ true H2) → (∀ H2, D.nx σ' H2 → QQ false H2) →
      Post (c s) (fun b => Post (WhB c fw n s b) P X) X → ct σ' H' QQ) : tWhile ct tl D σ H := by
  refine ⟨fun m σ H => ∃ s, I s σ H ∧ Post (whileR c fw m s) P X, ⟨n, s0, h0, hp⟩, ?_⟩
  rintro m σ1 H1 ⟨s, q, p⟩
  cases m with
  | zero => exact p.elim
  | succ m =>
    refine hs m s σ1 H1 (fun σ' H' => ∃ m', m' < m + 1 ∧ ∃ s, I s σ' H' ∧ Post (whileR c fw m' s) P X) _ q (fun s' σ2 H2 q2 p2 => ⟨m, Nat.lt_succ_self m, s', q2, p2⟩) (fun H2 k => ?_) (fun H2 k => ?_) ?_
    · rw [if_pos rfl]; exact ⟨_, fun σ' H' z => z, k⟩
    · rw [if_neg (by decide)]; exact k
    · unfold whileR at p; exact p.b
theorem wh_d {c : S → Rs Bool} {fw : S → Rs (Ctl S R)} {n : Nat} {s : S} {QQ : Bool → Hp → Prop} {p : Prop} {_ : Decidable p} (h : Post (WhB c fw n s (decide p)) P X)
    (h1 : p → Post (fw s) (TurnW c fw n P X) X → QQ true H) (h2 : ¬ p → P (.nx s) → QQ false H) : QQ (decide p) H := by
  unfold WhB at h
  by_cases z : p
  · rw [if_pos (decide_eq_true z)] at h
    rw [decide_eq_true z]
    exact h1 z (h.b.mono fun a q => by cases a <;> exact q)
  · rw [if_neg (by simp [z])] at h
    rw [decide_eq_false z]
    exact h2 z h
theorem wh_b {c : S → Rs Bool} {fw : S → Rs (Ctl S R)} {n : Nat} {s : S} {QQ : Bool → Hp → Prop} {p : Bool} (h : Post (WhB c fw n s p) P X)
    (h1 : p = true → Post (fw s) (TurnW c fw n P X) X → QQ true H) (h2 : ¬ p = true → P (.nx s) → QQ false H) : QQ p H := by
  unfold WhB at h
  by_cases z : p = true
  · rw [if_pos z] at h
    subst z
    exact h1 rfl (h.b.mono fun a q => by cases a <;> exact q)
  · rw [if_neg z] at h
    have z2 : p = false := by simpa using z
    subst z2
    exact h2 z h
end

/-! ### comprehensions -/
section
variable {α β γ : Type} {K : PySem.W.Frag} {F H : Hp} {σ : Sg} {Q : VK} {X : Str → Str → Prop} {f : α → Rs (Option β)} {zs : List α} {g : TG} {tt : TT} {te : TE} {v : V} {e : α → Dat} {e2 : β → Dat} {L : Addr} {vs : List V} {ws : List Nat}
abbrev LcOwes (g : TG) (tt : TT) (te : TE) (ws : List Nat) (σ : Sg) (Q : VK) (J : It) (H1 : Hp) : Prop := ∀ D, H1 D = none → ∃ W : Nat → Nat → Hp → Prop, (∃ m, W 0 m (upd H1 D (.lst []))) ∧ ∀ i m H, W i m H →
  (J.stop i H ∧ Q (.ref D) H) ∨ (J.go i H ∧ ∃ Nx : Hp → Prop, (∀ H', Nx H' → ∃ m', m' < m ∧ W (i + 1) m' H') ∧ ∀ x H', J.yld i H x H' → g x (wipe σ ws) H' fun σ2 H2 => wipe σ2 ws = wipe σ ws ∧ tt σ2 H2 fun b H3 =>
    if b = true then te σ2 H3 fun y H4 => ∃ acc, H4 D = some (.lst acc) ∧ acc.length < sizeLine ∧ Nx (upd H4 D (.lst (acc ++ [y]))) else Nx H3)
theorem st_lc {wi : TI} (k : wi σ H fun J H1 => LcOwes g tt te ws σ Q J H1) : tLc wi g tt te ws σ H Q := k
theorem Post.mapc {x : α} {xs : List α} {P : List β → Prop} (h : Post (mapR f (x :: xs)) P X) : Post (f x) (fun o => Post (mapR f xs) (fun r => P (match o with | some y => y :: r | none => r)) X) X := by
  unfold mapR at h
  exact h.b.mono fun a p => p.b
/-- what a turn of a comprehension owes: the test and the item, for all ends -/
abbrev LcTurn (g : TG) (tt : TT) (te : TE) (ws : List Nat) (σ : Sg) (e2 : β → Dat) (F1 H1 F2 H2 : Hp) (m : Rs (Option β)) (X : Str → Str → Prop) (u : V) : Prop :=
  ∀ (PN : Option β → Prop) (NY : VK) (NN : Hp → Prop), (∀ y b F4 H4, Stp [] F1 H1 F4 H4 → RD F4 (e2 b) y → PN (some b) → NY y H4) → (∀ F4 H4, Stp [] F1 H1 F4 H4 → PN none → NN H4) → Post m PN X →
    g u (wipe σ ws) H2 fun σ2 H3 => wipe σ2 ws = wipe σ ws ∧ tt σ2 H3 fun b H4 => if b = true then te σ2 H4 NY else NN H4
theorem lc_core2 {J : It} {n : Nat} {G : Hp → Prop} {Y : Nat → Hp → V → Hp → Prop} {P : List β → Prop} (w : Walk J n G Y) (hn : n = zs.length) (hz : zs.length ≤ 1000000) (s : Same F H) (hp : Post (mapR f zs) P X) (hG : ∀ F' H', Stp [] F H F' H' → G H')
    (hs : ∀ (i : Nat) (x : α) (u : V) F1 H1 H2, zs[i]? = some x → Stp [] F H F1 H1 → Y i H1 u H2 → ∃ F2, Stp [] F1 H1 F2 H2 ∧ LcTurn g tt te ws σ e2 F2 H2 F2 H2 (f x) X u)
    (hd : ∀ L vs r F' H', Stp [] F H F' H' → Fre H L → Own F' H' L (.lst vs) → RDs F' (r.map e2) vs → P r → Q (.ref L) H') : LcOwes g tt te ws σ Q J H := by
  intro D nD
  have key : ∀ (F' H' : Hp), Stp [D] F (upd H D (.lst [])) F' H' → G H' := fun F' H' t =>
    hG F' H' ((Stp.newO s nD).trans t (sub_new nD sub_nil))
  refine lc_it w (fun i H' => ∃ F' acc r0, Stp [] F H F' H' ∧ Own F' H' D (.lst acc) ∧ RDs F' (r0.map e2) acc ∧ acc.length ≤ i ∧ Post (mapR f (zs.drop i)) (fun r => P (r0 ++ r)) X) ?_ ?_ ?_ ?_
  · exact ⟨F, [], [], Stp.newO s nD, ⟨s.free nD, upd_same⟩, RDs.nil, Nat.le_refl _, hp⟩
  · rintro i H' _ ⟨F', _, _, t, _⟩
    exact hG F' H' t
  · rintro i u H1 H2 hi ⟨F1, acc, r0, t, o, hr, hl, p⟩ y
    have hlt : i < zs.length := hn ▸ hi
    rw [List.drop_eq_getElem_cons hlt] at p
    obtain ⟨F2, t2, T⟩ := hs i zs[i] u F1 H1 H2 (List.getElem?_eq_getElem hlt) t y
    have o2 := t2.keep (by simp) o
    refine T _ _ _ ?_ ?_ p.mapc
    · rintro y b F4 H4 t4 hy q
      have o4 := t4.keep (by simp) o2
      refine ⟨acc, o4.h, sz_lt (by omega), ?_⟩
      have tp := Stp.put (o' := .lst (acc ++ [y])) t4.inn o4
      refine ⟨F4, acc ++ [y], r0 ++ [b], ((t.trans t2 sub_nil).trans t4 sub_nil).trans tp (sub_new nD sub_nil), ⟨o4.f, upd_same⟩, ?_, ?_, ?_⟩
      · rw [List.map_append]
        exact ((t2.trans t4 sub_nil).ups hr).snoc hy
      · rw [List.length_append]; simp; omega
      · exact q.mono fun r z => by rw [List.append_assoc]; exact z
    · rintro F4 H4 t4 q
      exact ⟨F4, acc, r0, (t.trans t2 sub_nil).trans t4 sub_nil, t4.keep (by simp) o2, (t2.trans t4 sub_nil).ups hr, by omega, q⟩
  · rintro H' ⟨F', acc, r0, t, o, hr, _, p⟩
    rw [hn, List.drop_length] at p
    have p' : P (r0 ++ []) := p
    rw [List.append_nil] at p'
    exact hd D acc r0 F' H' t nD o hr p'
theorem lc_L {P : List β → Prop} (h : RD F (.lst (zs.map e)) v) (s : Same F H) (hz : zs.length ≤ 1000000) (hp : Post (mapR f zs) P X)
    (hs : ∀ (x : α) (u : V) F1 H1, RD F1 (e x) u → Stp [] F H F1 H1 → LcTurn g tt te ws σ e2 F1 H1 F1 H1 (f x) X u)
    (hd : ∀ L vs r F' H', Stp [] F H F' H' → Fre H L → Own F' H' L (.lst vs) → RDs F' (r.map e2) vs → P r → Q (.ref L) H') : ∃ a, v = .ref a ∧ (∃ xs, SqL K H a xs) ∧ LcOwes g tt te ws σ Q (Itl K a) H := by
  obtain ⟨a, vs, rfl, h1, h2⟩ := h
  refine ⟨a, rfl, ⟨vs, same_l s h1⟩, lc_core2 (walk_list (xs := vs)) (by rw [h2.len, List.length_map]) hz s hp (fun F' H' t => same_l (t.ex.trans t.inn) h1) ?_ hd⟩
  rintro i x u F1 H1 H2 hx t ⟨rfl, hu⟩
  obtain ⟨d, hd, r⟩ := h2.of_at hu
  rw [List.getElem?_map, hx] at hd
  cases hd
  exact ⟨F1, Stp.refl t.inn, hs x u F1 _ (r.up t.ex) t⟩
theorem lc_T {P : List β → Prop} (h : RD F (.tup (zs.map e)) v) (s : Same F H) (hz : zs.length ≤ 1000000) (hp : Post (mapR f zs) P X)
    (hs : ∀ (x : α) (u : V) F1 H1, RD F1 (e x) u → Stp [] F H F1 H1 → LcTurn g tt te ws σ e2 F1 H1 F1 H1 (f x) X u)
    (hd : ∀ L vs r F' H', Stp [] F H F' H' → Fre H L → Own F' H' L (.lst vs) → RDs F' (r.map e2) vs → P r → Q (.ref L) H') : ∃ a, v = .ref a ∧ (∃ xs, SqT K H a xs) ∧ LcOwes g tt te ws σ Q (Itt K a) H := by
  obtain ⟨a, vs, rfl, h1, h2⟩ := h
  refine ⟨a, rfl, ⟨vs, same_t s h1⟩, lc_core2 (walk_tup (xs := vs)) (by rw [h2.len, List.length_map]) hz s hp (fun F' H' t => same_t (t.ex.trans t.inn) h1) ?_ hd⟩
  rintro i x u F1 H1 H2 hx t ⟨rfl, hu⟩
  obtain ⟨d, hd, r⟩ := h2.of_at hu
  rw [List.getElem?_map, hx] at hd
  cases hd
  exact ⟨F1, Stp.refl t.inn, hs x u F1 _ (r.up t.ex) t⟩
theorem lc_O {P : List β → Prop} (o : Own F H L (.lst vs)) (h : RDs F (zs.map e) vs) (s : Same F H) (hz : zs.length ≤ 1000000) (hp : Post (mapR f zs) P X)
    (hs : ∀ (x : α) (u : V) F1 H1, RD F1 (e x) u → Stp [] F H F1 H1 → LcTurn g tt te ws σ e2 F1 H1 F1 H1 (f x) X u)
    (hd : ∀ L vs r F' H', Stp [] F H F' H' → Fre H L → Own F' H' L (.lst vs) → RDs F' (r.map e2) vs → P r → Q (.ref L) H') : ∃ a, V.ref L = .ref a ∧ (∃ xs, SqL K H a xs) ∧ LcOwes g tt te ws σ Q (Itl K a) H := by
  refine ⟨L, rfl, ⟨vs, SqL.of o.h⟩, lc_core2 (walk_list (xs := vs)) (by rw [h.len, List.length_map]) hz s hp (fun F' H' t => SqL.of (t.keep (by simp) o).h) ?_ hd⟩
  rintro i x u F1 H1 H2 hx t ⟨rfl, hu⟩
  obtain ⟨d, hd, r⟩ := h.of_at hu
  rw [List.getElem?_map, hx] at hd
  cases hd
  exact ⟨F1, Stp.refl t.inn, hs x u F1 _ (r.up t.ex) t⟩
theorem lc_R {lo hi : Int} {P : List β → Prop} {f : Int → Rs (Option β)} (s : Same F H) (hz : (hi - lo).toNat ≤ 1000000) (hp : Post (mapR f (rngI lo hi)) P X)
    (hs : ∀ (x : Int) F1 H1, Stp [] F H F1 H1 → LcTurn g tt te ws σ e2 F1 H1 F1 H1 (f x) X (.int x))
    (hd : ∀ L vs r F' H', Stp [] F H F' H' → Fre H L → Own F' H' L (.lst vs) → RDs F' (r.map e2) vs → P r → Q (.ref L) H') : LcOwes g tt te ws σ Q (Itr lo (hi - lo).toNat) H := by
  refine lc_core2 (walk_range (lo := lo) (n := (hi - lo).toNat)) (by simp [rngI]) (by simpa [rngI] using hz) s hp (fun _ _ _ => trivial) ?_ hd
  rintro i x u F1 H1 H2 hx t ⟨rfl, rfl⟩
  have := rngI_at hx
  subst this
  exact ⟨F1, Stp.refl t.inn, hs _ F1 _ t⟩
theorem lc_R1 {hi : Int} {P : List β → Prop} {f : Int → Rs (Option β)} (hb : rngOk 0 hi = true) (s : Same F H) (hz : (hi - 0).toNat ≤ 1000000) (hp : Post (mapR f (rngI 0 hi)) P X)
    (hs : ∀ (x : Int) F1 H1, Stp [] F H F1 H1 → LcTurn g tt te ws σ e2 F1 H1 F1 H1 (f x) X (.int x))
    (hd : ∀ L vs r F' H', Stp [] F H F' H' → Fre H L → Own F' H' L (.lst vs) → RDs F' (r.map e2) vs → P r → Q (.ref L) H') : ∃ j : Int, [V.int hi] = [.int j] ∧ -(2 ^ 62) ≤ j ∧ j < 2 ^ 62 ∧ LcOwes g tt te ws σ Q (Itr 0 j.toNat) H := by
  simp only [rngOk, Bool.and_eq_true, decide_eq_true_eq] at hb
  have := lc_R (lo := 0) s hz hp hs hd
  rw [Int.sub_zero] at this
  exact ⟨hi, rfl, hb.1.2, hb.2, this⟩
theorem lc_R2 {lo hi : Int} {P : List β → Prop} {f : Int → Rs (Option β)} (hb : rngOk lo hi = true) (s : Same F H) (hz : (hi - lo).toNat ≤ 1000000) (hp : Post (mapR f (rngI lo hi)) P X)
    (hs : ∀ (x : Int) F1 H1, Stp [] F H F1 H1 → LcTurn g tt te ws σ e2 F1 H1 F1 H1 (f x) X (.int x))
    (hd : ∀ L vs r F' H', Stp [] F H F' H' → Fre H L → Own F' H' L (.lst vs) → RDs F' (r.map e2) vs → P r → Q (.ref L) H') : ∃ i j : Int, [V.int lo, V.int hi] = [.int i, .int j] ∧ (-(2 ^ 62) ≤ i ∧ i < 2 ^ 62 ∧ -(2 ^ 62) ≤ j ∧ j < 2 ^ 62) ∧ LcOwes g tt te ws σ Q (Itr i (j - i).toNat) H := by
  simp only [rngOk, Bool.and_eq_true, decide_eq_true_eq] at hb
  exact ⟨lo, hi, rfl, ⟨hb.1.1.1, hb.1.1.2, hb.1.2, hb.2⟩, lc_R s hz hp hs hd⟩
/-- a list of ours is as well a frozen one -/
theorem mk_rd {P : List β → Prop} (k : ∀ u r F' H', Stp [] F H F' H' → RD F' (.lst (r.map e2)) u → P r → Q u H') : ∀ L vs r F' H', Stp [] F H F' H' → Fre H L → Own F' H' L (.lst vs) → RDs F' (r.map e2) vs → P r → Q (.ref L) H' := fun L vs r F' H' s n o hr p => by
  obtain ⟨F2, s2, r2⟩ := own_rd s n o hr
  exact k _ r F2 H' s2 r2 p
/-- x + y of two frozen lists -/
theorem sm_cat {u w : V} {xs ys : List α} (s : Same F H) (h1 : RD F (.lst (xs.map e)) u) (h2 : RD F (.lst (ys.map e)) w) (z : xs.length + ys.length ≤ 1000000)
    (k : ∀ x F' H', Stp [] F H F' H' → RD F' (.lst ((xs ++ ys).map e)) x → Q x H') : rAddU K u w H Q := by
  obtain ⟨a, vs, rfl, _, h3, h4⟩ := rd_lst s h1
  obtain ⟨b, ws, rfl, _, h5, h6⟩ := rd_lst s h2
  have l1 : vs.length = xs.length := by rw [h4.len, List.length_map]
  have l2 : ws.length = ys.length := by rw [h6.len, List.length_map]
  refine .inr (.inl ⟨a, b, vs, ws, rfl, rfl, h3, h5, sz_le (by omega), nw_lst s (ds := (xs ++ ys).map e) ?_ k⟩)
  rw [List.map_append]
  exact h4.app h6
/-- made.append(x), the data told -/
theorem sm_app {x : α} {u : V} (s : Same F H) (o : Own F H L (.lst vs)) (hd : RDs F (zs.map e) vs) (hx : RD F (e x) u) (z : zs.length < 1000000)
    (k : ∀ ws F' H', Stp [L] F H F' H' → Own F' H' L (.lst ws) → RDs F' ((zs ++ [x]).map e) ws → Q .non H') : rAppend (.ref L) [u] H Q := by
  refine st_app s o (by rw [hd.len, List.length_map]; exact z) fun F' H' t o' => k _ F' H' t o' ?_
  rw [List.map_append]
  exact (t.ups hd).snoc (t.up hx)
def setR {γ : Type} (xs : List γ) (i : Int) (x : γ) (k : List γ → Rs β) : Rs β := match ixN xs.length i with
  | some n => k (xs.set n x)
  | none => .bad
theorem Post.st {P : β → Prop} {xs : List α} {i : Int} {x : α} {k : List α → Rs β} (h : Post (setR xs i x k) P X) : ∃ n, ixN xs.length i = some n ∧ Post (k (xs.set n x)) P X := by
  unfold setR at h
  cases q : ixN xs.length i with
  | none => rw [q] at h; exact h.elim
  | some n => rw [q] at h; exact ⟨n, rfl, h⟩
theorem sm_set {x : α} {u : V} {i : Int} {n : Nat} {Q : Hp → Prop} (s : Same F H) (o : Own F H L (.lst vs)) (hd : RDs F (zs.map e) vs) (hx : RD F (e x) u) (hn : ixN zs.length i = some n)
    (k : ∀ ws F' H', Stp [L] F H F' H' → Own F' H' L (.lst ws) → RDs F' ((zs.set n x).map e) ws → Q H') : rSetL (.ref L) (.int i) u H Q := by
  refine st_setO s o (n := n) (by rw [hd.len, List.length_map]; exact hn) fun F' H' t o' => k _ F' H' t o' ?_
  rw [List.map_set]
  exact RDs.set n (t.ups hd) (t.up hx)
/-- a new instance, told by its promise -/
theorem sm_make {C : Addr} {ws : List V} {E : XK} {sp : Sp} (s : Same F H)
    (k : ∀ L dx F' H', Stp [] F H F' H' → Fre H L → Own F' H' L (.ins C dx []) → sp (.ref L :: ws) H' (fun v H2 => v = .non ∧ Q (.ref L) H2) E) :
    ∀ x dx, H x = none → H dx = none → dx ≠ x → sp (.ref x :: ws) (upd (upd H dx (.own x)) x (.ins C dx [])) (fun v H2 => v = .non ∧ Q (.ref x) H2) E := fun x dx h1 h2 h3 => by
  have t1 : Stp [] F H F (upd H dx (.own x)) := Stp.newO s h2
  have h4 : upd H dx (.own x) x = none := by rw [upd_ne (Ne.symm h3)]; exact h1
  have t2 : Stp [] F (upd H dx (.own x)) F (upd (upd H dx (.own x)) x (.ins C dx [])) := Stp.newO t1.inn h4
  exact k x dx F _ (t1.trans t2 sub_nil) h1 ⟨s.free h1, upd_same⟩
theorem own_rdI {S : List Addr} {F H F1 H1 : Hp} {L C dx : Addr} {nms : List Str} {ds : List Dat} (s : Stp S F H F1 H1) (n : Fre H L) (o : Own F1 H1 L (.ins C dx (nms.zip vs))) (hd : RDs F1 ds vs) : ∃ F2, Stp S F H F2 H1 ∧ RD F2 (.obj C nms ds) (.ref L) := by
  have t := Stp.frz s.inn o
  exact ⟨_, Stp.trans s t (sub_new n sub_nil), L, dx, vs, rfl, upd_same, hd.up t.ex⟩
/-- self.f = x -/
theorem st_sfld {tv ta : TE} {fn : Str} {D : Ends} (k : tv σ H fun y H1 => ta σ H1 fun x H2 => ∃ a C dx fs, x = .ref a ∧ H2 a = some (.ins C dx fs) ∧ Cls K C ∧ NoAttr K C fn ∧ fs.length < 1000 ∧ D.nx σ (upd H2 a (.ins C dx (putF fn y fs)))) : sFld K ta tv fn D σ H := k
theorem sm_sfld {C dx : Addr} {fs fs' : List (Str × V)} {fn : Str} {u : V} {P : Hp → Prop} (s : Same F H) (o : Own F H L (.ins C dx fs)) (cl : Cls K C) (na : NoAttr K C fn) (hl : fs.length < 1000) (hp : putF fn u fs = fs')
    (k : ∀ F' H', Stp [L] F H F' H' → Own F' H' L (.ins C dx fs') → P H') : ∃ a C dx fs, V.ref L = .ref a ∧ H a = some (.ins C dx fs) ∧ Cls K C ∧ NoAttr K C fn ∧ fs.length < 1000 ∧ P (upd H a (.ins C dx (putF fn u fs))) :=
  ⟨L, C, dx, fs, rfl, o.h, cl, na, hl, k _ _ (Stp.put s o) ⟨o.f, by rw [upd_same, hp]⟩⟩
/-- divmod(i, j) -/
theorem sm_divmod {i j : Int} (s : Same F H) (h : divOk j = true) (k : ∀ u F' H', Stp [] F H F' H' → RD F' (.tup [.int (i / j), .int (i % j)]) u → Q u H') : rDivmodU [.int i, .int j] H Q :=
  ⟨i, j, rfl, divOk.c h, nw_tup s (ds := [.int (i / j), .int (i % j)]) (RDs.cons RD.int_ (RDs.cons RD.int_ RDs.nil)) k⟩
theorem sm_int {i : Int} (k : Q (.int i) H) : rInt1 [.int i] H Q := .inl ⟨i, rfl, k⟩
theorem sm_intB {b : Bool} (k : Q (.int (if b = true then 1 else 0)) H) : rInt1 [.bl b] H Q := .inr ⟨b, rfl, k⟩
/-- a, b = .. -/
theorem sm_g2 {d1 d2 : Dat} {t : TGs} {Q : Sg → Hp → Prop} (s : Same F H) (h : RD F (.tup [d1, d2]) v) (k : ∀ x y, RD F d1 x → RD F d2 y → t [x, y] σ H Q) : gTupU K 2 t v σ H Q :=
  st_gtup s h rfl fun vs h => by
    obtain ⟨x, r, rfl, h1, y, r2, rfl, h2, h3⟩ := h
    cases (show r2 = [] from h3)
    exact k x y h1 h2
theorem own_fzI {F H : Hp} {L C dx : Addr} {nms : List Str} {ds : List Dat} (s : Same F H) (o : Own F H L (.ins C dx (nms.zip vs))) (hd : RDs F ds vs) : ∃ F2, Stp [L] F H F2 H ∧ RD F2 (.obj C nms ds) (.ref L) := by
  have t := Stp.frz s o
  exact ⟨_, t, L, dx, vs, rfl, upd_same, hd.up t.ex⟩
theorem sm_tupQ {b : Bool} (s : Same F H) (h : RD F (eQ b e zs) v) (k : ∀ u F' H', Stp [] F H F' H' → RD F' (.tup (zs.map e)) u → Q u H') : rTupU K [v] H Q := by
  cases b with
  | true => exact st_tupT s h (k v F H (Stp.refl s) h)
  | false => exact st_tupL s h k
/-- None or a thing -/
def eO (e : α → Dat) : Option α → Dat
  | none => .non
  | some x => e x
def isRef : Dat → Bool
  | .lst _ => true
  | .tup _ => true
  | .obj _ _ _ => true
  | _ => false
theorem rd_ref {d : Dat} {u : V} (h : RD F d u) (z : isRef d = true) : u ≠ .non := by
  cases d with
  | lst ds => obtain ⟨a, vs, rfl, _⟩ := h; exact fun q => by cases q
  | tup ds => obtain ⟨a, vs, rfl, _⟩ := h; exact fun q => by cases q
  | obj C n ds => obtain ⟨a, dx, vs, rfl, _⟩ := h; exact fun q => by cases q
  | _ => cases z
theorem sm_isN {o : Option α} {u : V} (h : RD F (eO e o) u) (z : ∀ x, isRef (e x) = true) (k : Q (.bl o.isNone) H) : rIsN u .non H Q := by
  cases o with
  | none => rw [show u = V.non from h]; exact st_isN1 k
  | some x => exact st_isN0 (rd_ref (show RD F (e x) u from h) (z x)) k
theorem sm_notN {o : Option α} {u : V} (h : RD F (eO e o) u) (z : ∀ x, isRef (e x) = true) (k : Q (.bl (!o.isNone)) H) : rNotN u .non H Q := by
  cases o with
  | none => rw [show u = V.non from h]; exact st_notN1 k
  | some x => exact st_notN0 (rd_ref (show RD F (e x) u from h) (z x)) k
def somR (o : Option α) (k : α → Rs β) : Rs β := match o with
  | some x => k x
  | none => .bad
theorem Post.som {P : β → Prop} {o : Option α} {k : α → Rs β} (h : Post (somR o k) P X) : ∃ x, o = some x ∧ Post (k x) P X := by
  cases o with
  | none => exact h.elim
  | some x => exact ⟨x, rfl, h⟩
theorem st_yes {Q : Bool → Hp → Prop} (k : Q true H) : tYes σ H Q := k
theorem st_sl {r : V → Option Int → Option Int → Hp → VK → Prop} {t : TE} {tl th : TO} (k : t σ H fun x H1 => tl σ H1 fun l H2 => th σ H2 fun u H3 => r x l u H3 Q) : tSl r t tl th σ H Q := k
theorem st_nopart {Q : Option Int → Hp → Prop} (k : Q none H) : tNoPart σ H Q := k
theorem st_part {t : TE} {Q : Option Int → Hp → Prop} (k : t σ H fun x H1 => ∃ i, x = .int i ∧ Q (some i) H1) : tPart t σ H Q := k
theorem st_exi {i : Int} {P : Int → Prop} (k : P i) : ∃ j, V.int i = .int j ∧ P j := ⟨i, rfl, k⟩
theorem st_make {C : Addr} {sp : Sp} {dvs : List V} {E : XK} {t : TA} (k : t σ H fun vs H1 => ∀ x dx, H1 x = none → H1 dx = none → dx ≠ x → sp (.ref x :: (vs ++ dvs)) (upd (upd H1 dx (.own x)) x (.ins C dx [])) (fun v H2 => v = .non ∧ Q (.ref x) H2) E) : tMake C sp dvs E t σ H Q := k
end
section
variable {S R β : Type} {F H : Hp} {σ : Sg} {D : Ends} {P : β → Prop} {X : Str → Str → Prop} {m : Rs (Ctl S R)} {k : S → Rs β} {r : R → Rs β} {wi : TI} {g : TG} {tb u : TS} {c : TT}
theorem cutF (hm : Post (m.thn k r) P X) (I : S → Sg → Hp → Prop)
    (h1 : ∀ nx : Sg → Hp → Prop, (∀ s σ' H', I s σ' H' → Post (k s) P X → nx σ' H') → Post m (Ctl.on (fun s => Post (k s) P X) (fun s => Post (k s) P X) fun x => Post (r x) P X) X → tFor wi g tb { D with nx := nx } σ H)
    (h2 : ∀ s σ' H', I s σ' H' → Post (k s) P X → D.nx σ' H') : tFor wi g tb D σ H := cutS hm I h1 h2
theorem cutW (hm : Post (m.thn k r) P X) (I : S → Sg → Hp → Prop)
    (h1 : ∀ nx : Sg → Hp → Prop, (∀ s σ' H', I s σ' H' → Post (k s) P X → nx σ' H') → Post m (Ctl.on (fun s => Post (k s) P X) (fun s => Post (k s) P X) fun x => Post (r x) P X) X → tWhile c tb { D with nx := nx } σ H)
    (h2 : ∀ s σ' H', I s σ' H' → Post (k s) P X → D.nx σ' H') : tWhile c tb D σ H := cutS hm I h1 h2
theorem cutI (hm : Post (m.thn k r) P X) (I : S → Sg → Hp → Prop)
    (h1 : ∀ nx : Sg → Hp → Prop, (∀ s σ' H', I s σ' H' → Post (k s) P X → nx σ' H') → Post m (Ctl.on (fun s => Post (k s) P X) (fun s => Post (k s) P X) fun x => Post (r x) P X) X → tIfS c tb u { D with nx := nx } σ H)
    (h2 : ∀ s σ' H', I s σ' H' → Post (k s) P X → D.nx σ' H') : tIfS c tb u D σ H := cutS hm I h1 h2
variable {K : PySem.W.Frag} {R0 : It → Hp → Prop} {ta : TA}
theorem st_enumL (k : ta σ H fun vs H1 => ∃ a xs, vs = [.ref a] ∧ SqL K H1 a xs ∧ R0 (Ite K a) H1) : iEnumU K ta σ H R0 := .inl k
theorem st_enumT (k : ta σ H fun vs H1 => ∃ a xs, vs = [.ref a] ∧ SqT K H1 a xs ∧ R0 (IteT K a) H1) : iEnumU K ta σ H R0 := .inr k
end
end DK
set_option maxRecDepth 100000
set_option maxHeartbeats 2000000
/-! DK, fifth part: what mirrors compute. -/
namespace DK
open PySem PySem.Spec PyProof.Rows L2
section
variable {α β γ S R : Type}
theorem log2_lt {n k : Nat} (h : n < 2 ^ k) (hk : 0 < k) : n.log2 < k := by
  by_cases z : n = 0
  · subst z; simpa using hk
  · exact (Nat.log2_lt z).mpr h
theorem mulOk_of {i j : Int} (h1 : -(2 ^ 64) < i) (h2 : i < 2 ^ 64) (h3 : -(2 ^ 64) < j) (h4 : j < 2 ^ 64) : mulOk i j = true := by
  have a : i.natAbs.log2 < 64 := log2_lt (by omega) (by decide)
  have b : j.natAbs.log2 < 64 := log2_lt (by omega) (by decide)
  simp only [mulOk, decide_eq_true_eq]; omega
theorem divOk_of {j : Int} (h1 : 0 < j) (h2 : j < 2 ^ 64) : divOk j = true := by
  have b : j.natAbs.log2 < 64 := log2_lt (by omega) (by decide)
  simp only [divOk, Bool.and_eq_true, decide_eq_true_eq]; omega
theorem grd_of {p : Prop} {_ : Decidable p} {m : Rs α} (h : p) : grd p m = m := if_pos h
theorem atI_of {xs : List α} {i : Nat} {x : α} (h : xs[i]? = some x) : atI xs (i : Nat) = some x := by
  have hl := (List.getElem?_eq_some_iff.mp h).1
  unfold atI ixN
  rw [if_pos (by omega), if_pos (by omega)]
  simpa using h
theorem ixR_of {xs : List α} {i : Nat} {x : α} (h : xs[i]? = some x) : ixR xs (i : Nat) = .ok x := by
  unfold ixR; rw [atI_of h]
theorem ixR_zero {x : α} {xs : List α} : ixR (x :: xs) 0 = .ok x := ixR_of (i := 0) rfl
theorem setR_zero {k : List α → Rs β} {x y : α} {xs : List α} : setR (y :: xs) 0 x k = k (x :: xs) := by
  unfold setR ixN
  rw [if_pos (by decide), if_pos (by simp)]
  rfl
/-- an index within -/
theorem ixR_in {xs : List α} {i : Int} (h0 : 0 ≤ i) (h1 : i < xs.length) : ∃ x, ixR xs i = .ok x ∧ xs[i.toNat]? = some x := by
  have hl : i.toNat < xs.length := by omega
  refine ⟨xs[i.toNat], ?_, List.getElem?_eq_getElem hl⟩
  have e : i = (i.toNat : Int) := by omega
  have := ixR_of (List.getElem?_eq_getElem hl)
  rw [← e] at this
  exact this
/-- a loop that always goes on -/
theorem forR_ok {f : S → α → Rs (Ctl S R)} (g : S → α → S) (I : List α → S → Prop) (hs : ∀ x rest s, I (x :: rest) s → f s x = .ok (.nx (g s x)) ∧ I rest (g s x)) : ∀ (xs : List α) (s : S), I xs s → forR f xs s = .ok (.nx (xs.foldl g s))
  | [], _, _ => rfl
  | x :: xs, s, h => by
    obtain ⟨h1, h2⟩ := hs x xs s h
    unfold forR
    rw [h1, Rs.bnd_ok, List.foldl_cons]
    exact forR_ok g I hs xs _ h2
/-- a loop told by an invariant -/
theorem forR_inv {f : S → α → Rs (Ctl S R)} (I : List α → S → Prop) (hs : ∀ x rest s, I (x :: rest) s → ∃ s', f s x = .ok (.nx s') ∧ I rest s') : ∀ (xs : List α) (s : S), I xs s → ∃ s', forR f xs s = .ok (.nx s') ∧ I [] s'
  | [], s, h => ⟨s, rfl, h⟩
  | x :: xs, s, h => by
    obtain ⟨s', h1, h2⟩ := hs x xs s h
    obtain ⟨s2, h3, h4⟩ := forR_inv I hs xs s' h2
    refine ⟨s2, ?_, h4⟩
    unfold forR
    rw [h1, Rs.bnd_ok]
    exact h3
theorem forR_congr {f f' : S → α → Rs (Ctl S R)} : ∀ (xs : List α) (s : S), (∀ x ∈ xs, ∀ s, f s x = f' s x) → forR f xs s = forR f' xs s
  | [], _, _ => rfl
  | x :: xs, s, h => by
    unfold forR
    rw [h x List.mem_cons_self]
    congr 1
    funext c
    cases c with
    | nx s' => exact forR_congr xs s' fun y hy => h y (List.mem_cons_of_mem _ hy)
    | bk s' => rfl
    | rt r => rfl
/-- a loop that appends -/
theorem forR_app {f : List β → α → Rs (Ctl (List β) R)} (g : α → β) : ∀ (xs : List α) (acc : List β), (∀ x ∈ xs, ∀ s : List β, s.length < 1000000 → f s x = .ok (.nx (s ++ [g x]))) → acc.length + xs.length ≤ 1000000 → forR f xs acc = .ok (.nx (acc ++ xs.map g))
  | [], acc, _, _ => by simp [forR]
  | x :: xs, acc, h, hl => by
    rw [List.length_cons] at hl
    unfold forR
    rw [h x List.mem_cons_self acc (by omega), Rs.bnd_ok]
    show forR f xs (acc ++ [g x]) = _
    rw [forR_app g xs _ (fun y hy => h y (List.mem_cons_of_mem _ hy)) (by rw [List.length_append]; simp; omega)]
    simp
/-- a loop that only looks -/
theorem forR_look {f : Unit → α → Rs (Ctl Unit R)} : ∀ (xs : List α), (∀ x ∈ xs, f () x = .ok (.nx ())) → forR f xs () = .ok (.nx ())
  | [], _ => rfl
  | x :: xs, h => by
    unfold forR
    rw [h x List.mem_cons_self, Rs.bnd_ok]
    exact forR_look xs fun y hy => h y (List.mem_cons_of_mem _ hy)
theorem mapR_ok {f : α → Rs (Option β)} (g : α → Option β) : ∀ (xs : List α), (∀ x ∈ xs, f x = .ok (g x)) → mapR f xs = .ok (xs.filterMap g)
  | [], _ => rfl
  | x :: xs, h => by
    unfold mapR
    rw [h x List.mem_cons_self, Rs.bnd_ok, mapR_ok g xs fun y hy => h y (List.mem_cons_of_mem _ hy), Rs.bnd_ok, List.filterMap_cons]
    cases g x <;> rfl
theorem mapR_map {f : α → Rs (Option β)} (g : α → β) (xs : List α) (h : ∀ x ∈ xs, f x = .ok (some (g x))) : mapR f xs = .ok (xs.map g) := by
  rw [mapR_ok (fun x => some (g x)) xs h]
  simp
theorem mapR_filter {f : α → Rs (Option α)} (p : α → Bool) (xs : List α) (h : ∀ x ∈ xs, f x = .ok (if p x = true then some x else none)) : mapR f xs = .ok (xs.filter p) := by
  rw [mapR_ok (fun x => if p x = true then some x else none) xs h]
  congr 1
  clear h
  induction xs with
  | nil => rfl
  | cons x xs ih => rw [List.filterMap_cons, List.filter_cons]; by_cases z : p x = true <;> simp [z, ih]
theorem whileR_step {c : S → Rs Bool} {f : S → Rs (Ctl S R)} {n : Nat} {s s' : S} (h1 : c s = .ok true) (h2 : f s = .ok (.nx s')) : whileR c f (n + 1) s = whileR c f n s' := by
  rw [whileR, h1, Rs.bnd_ok, if_pos rfl, h2]; rfl
theorem whileR_end {c : S → Rs Bool} {f : S → Rs (Ctl S R)} {n : Nat} {s : S} (h1 : c s = .ok false) : whileR c f (n + 1) s = .ok (.nx s) := by
  rw [whileR, h1]; rfl
/-- a while told by an invariant and a measure -/
theorem whileR_inv {c : S → Rs Bool} {f : S → Rs (Ctl S R)} (I : S → Prop) (μ : S → Nat) (p : S → Bool) (hc : ∀ s, I s → c s = .ok (p s)) (hs : ∀ s, I s → p s = true → ∃ s', f s = .ok (.nx s') ∧ I s' ∧ μ s' < μ s) :
    ∀ (n : Nat) (s : S), I s → μ s < n → ∃ s', whileR c f n s = .ok (.nx s') ∧ I s' ∧ p s' = false
  | 0, _, _, h => by omega
  | n + 1, s, h, hn => by
    by_cases z : p s = true
    · obtain ⟨s', h1, h2, h3⟩ := hs s h z
      rw [whileR_step (by rw [hc s h, z]) h1]
      exact whileR_inv I μ p hc hs n s' h2 (by omega)
    · have z2 : p s = false := by simpa using z
      exact ⟨s, whileR_end (by rw [hc s h, z2]), h, z2⟩
theorem rngI_mem {lo hi x : Int} (h : x ∈ rngI lo hi) : lo ≤ x ∧ x < hi := by
  unfold rngI at h
  obtain ⟨k, hk, rfl⟩ := List.mem_map.mp h
  rw [List.mem_range] at hk
  omega
theorem rngI_len {lo hi : Int} : (rngI lo hi).length = (hi - lo).toNat := by simp [rngI]
/-! what is owed, backwards -/
variable {m : Rs α} {k : α → Rs β} {P : β → Prop} {X : Str → Str → Prop}
theorem w_ok {a : β} (h : P a) : Post (.ok a) P X := h
theorem w_bnd (h : Post m (fun a => Post (k a) P X) X) : Post (m.bnd k) P X := by
  cases m <;> exact h
theorem w_call {Q : α → Prop} (h : Post m Q X) (z : ∀ a, Q a → Post (k a) P X) : Post (m.bnd k) P X := w_bnd (h.mono z)
theorem w_thn {m : Rs (Ctl S R)} {k : S → Rs β} {r : R → Rs β} (h : Post m (Ctl.on (fun s => Post (k s) P X) (fun s => Post (k s) P X) fun x => Post (r x) P X) X) : Post (m.thn k r) P X :=
  w_bnd (h.mono fun a p => by cases a <;> exact p)
theorem w_grd {p : Prop} {_ : Decidable p} {m : Rs β} (h : p) (k : Post m P X) : Post (grd p m) P X := by rw [grd_of h]; exact k
theorem w_if {p : Prop} {_ : Decidable p} {m n : Rs β} (h1 : p → Post m P X) (h2 : ¬ p → Post n P X) : Post (if p then m else n) P X := by
  by_cases z : p
  · rw [if_pos z]; exact h1 z
  · rw [if_neg z]; exact h2 z
theorem w_eq {a : β} {m : Rs β} (e : m = .ok a) (h : P a) : Post m P X := by rw [e]; exact h
theorem w_get {m : Rs β} (h : Post m P fun _ _ => False) : ∃ a, m = .ok a ∧ P a := by
  cases m with
  | ok a => exact ⟨a, rfl, h⟩
  | exc c t => exact h.elim
  | bad => exact h.elim
theorem w_ix {xs : List α} {i : Int} (h0 : 0 ≤ i) (h1 : i < xs.length) (z : ∀ x, xs[i.toNat]? = some x → Post (k x) P X) : Post ((ixR xs i).bnd k) P X := by
  obtain ⟨x, h2, h3⟩ := ixR_in h0 h1
  rw [h2]; exact z x h3
theorem w_for {f : S → α → Rs (Ctl S R)} {P : Ctl S R → Prop} (I : List α → S → Prop) (hs : ∀ x rest s, I (x :: rest) s → Post (f s x) (Ctl.on (fun s' => I rest s') (fun s' => P (.nx s')) fun r => P (.rt r)) X) (hk : ∀ s, I [] s → P (.nx s)) :
    ∀ (xs : List α) (s : S), I xs s → Post (forR f xs s) P X
  | [], s, h => hk s h
  | x :: xs, s, h => by
    unfold forR
    refine w_bnd ((hs x xs s h).mono fun c p => ?_)
    cases c with
    | nx s' => exact w_for I hs hk xs s' p
    | bk s' => exact p
    | rt r => exact p
theorem w_while {c : S → Rs Bool} {f : S → Rs (Ctl S R)} {P : Ctl S R → Prop} (I : S → Prop) (μ : S → Nat) (hs : ∀ s, I s → Post (c s) (fun b => if b = true then Post (f s) (Ctl.on (fun s' => I s' ∧ μ s' < μ s) (fun s' => P (.nx s')) fun r => P (.rt r)) X else P (.nx s)) X) :
    ∀ (n : Nat) (s : S), I s → μ s < n → Post (whileR c f n s) P X
  | 0, _, _, h => by omega
  | n + 1, s, h, hn => by
    unfold whileR
    refine w_bnd ((hs s h).mono fun b p => ?_)
    by_cases z : b = true
    · rw [if_pos z] at p
      rw [if_pos z]
      refine w_bnd (p.mono fun c p => ?_)
      cases c with
      | nx s' => exact w_while I μ hs n s' p.1 (by have := p.2; omega)
      | bk s' => exact p
      | rt r => exact p
    · rw [if_neg z] at p
      rw [if_neg z]
      exact p
end
end DK
namespace Dot
open PySem PySem.Spec PyProof.Rows L2 DK
abbrev topS (i : Nat) : Stmt := PySem.Challenge.pw_dotscreen_k12_doubled_even.main.body.getD i (.Pass ⟨0, 0, 0, 0⟩)
abbrev s_rows_kept : Stmt := topS 4
abbrev n_rows_kept : List Str := (["rows", "low", "top", "made", "row", "number"] : List Str)
theorem sc_rows_kept : FnScope n_rows_kept (["rows", "low", "top"] : List Str) (defScope s_rows_kept) := ⟨rfl, rfl, rfl, by decide +kernel, rfl, by decide +kernel, by decide +kernel⟩
abbrev d_rows_kept : He.DefD := ⟨("rows_kept", none), "rows_kept", "rows_kept", defArgs s_rows_kept, defBody s_rows_kept, defScope s_rows_kept, [], []⟩
abbrev s_Tile_init : Stmt := inClass (topS 6) 0
abbrev n_Tile_init : List Str := (["self", "count", "rows", "kept"] : List Str)
theorem sc_Tile_init : FnScope n_Tile_init (["self", "count", "rows"] : List Str) (defScope s_Tile_init) := ⟨rfl, rfl, rfl, by decide +kernel, rfl, by decide +kernel, by decide +kernel⟩
abbrev d_Tile_init : He.DefD := ⟨("Tile", some "__init__"), "__init__", "Tile.__init__", defArgs s_Tile_init, defBody s_Tile_init, defScope s_Tile_init, [], []⟩
abbrev s_level_of : Stmt := topS 7
abbrev n_level_of : List Str := (["tile", "level", "cells", "r", "row", "c", "threshold"] : List Str)
theorem sc_level_of : FnScope n_level_of (["tile", "level"] : List Str) (defScope s_level_of) := ⟨rfl, rfl, rfl, by decide +kernel, rfl, by decide +kernel, by decide +kernel⟩
abbrev d_level_of : He.DefD := ⟨("level_of", none), "level_of", "level_of", defArgs s_level_of, defBody s_level_of, defScope s_level_of, [], []⟩
abbrev s_doubled_once : Stmt := topS 9
abbrev n_doubled_once : List Str := (["rows", "ahead", "made", "row", "threshold"] : List Str)
theorem sc_doubled_once : FnScope n_doubled_once (["rows"] : List Str) (defScope s_doubled_once) := ⟨rfl, rfl, rfl, by decide +kernel, rfl, by decide +kernel, by decide +kernel⟩
abbrev d_doubled_once : He.DefD := ⟨("doubled_once", none), "doubled_once", "doubled_once", defArgs s_doubled_once, defBody s_doubled_once, defScope s_doubled_once, [], []⟩
abbrev s_doubled_tile : Stmt := topS 10
abbrev n_doubled_tile : List Str := (["times", "rows", "turn"] : List Str)
theorem sc_doubled_tile : FnScope n_doubled_tile (["times"] : List Str) (defScope s_doubled_tile) := ⟨rfl, rfl, rfl, by decide +kernel, rfl, by decide +kernel, by decide +kernel⟩
abbrev d_doubled_tile : He.DefD := ⟨("doubled_tile", none), "doubled_tile", "doubled_tile", defArgs s_doubled_tile, defBody s_doubled_tile, defScope s_doubled_tile, [], []⟩
abbrev s_law_next : Stmt := topS 12
abbrev n_law_next : List Str := (["_law_script", "_law_at", "_law_cell", "_law_m"] : List Str)
theorem sc_law_next : FnScope n_law_next (["_law_script", "_law_at"] : List Str) (defScope s_law_next) := ⟨rfl, rfl, rfl, by decide +kernel, rfl, by decide +kernel, by decide +kernel⟩
abbrev d_law_next : He.DefD := ⟨("_law_next", none), "_law_next", "_law_next", defArgs s_law_next, defBody s_law_next, defScope s_law_next, [], []⟩
abbrev s_law_squares : Stmt := topS 13
abbrev n_law_squares : List Str := (["_law_rows", "_law_side", "_law_level", "_law_found", "_law_top", "_law_left", "_law_many", "_law_row", "_law_threshold"] : List Str)
theorem sc_law_squares : FnScope n_law_squares (["_law_rows", "_law_side", "_law_level"] : List Str) (defScope s_law_squares) := ⟨rfl, rfl, rfl, by decide +kernel, rfl, by decide +kernel, by decide +kernel⟩
abbrev d_law_squares : He.DefD := ⟨("_law_squares", none), "_law_squares", "_law_squares", defArgs s_law_squares, defBody s_law_squares, defScope s_law_squares, [], []⟩
abbrev s_law_even : Stmt := topS 14
abbrev n_law_even : List Str := (["_law_tile", "_law_level", "_law_side", "_law_squares_here", "_law_low", "_law_rest", "_law_many"] : List Str)
theorem sc_law_even : FnScope n_law_even (["_law_tile", "_law_level"] : List Str) (defScope s_law_even) := ⟨rfl, rfl, rfl, by decide +kernel, rfl, by decide +kernel, by decide +kernel⟩
abbrev d_law_even : He.DefD := ⟨("_law_even", none), "_law_even", "_law_even", defArgs s_law_even, defBody s_law_even, defScope s_law_even, [], []⟩
abbrev s_law : Stmt := topS 15
abbrev n_law : List Str := (["_law_script", "_law_at", "_law_turn", "_law_m", "_law_tile", "_law_k", "_law_n", "_law_level"] : List Str)
theorem sc_law : FnScope n_law (["_law_script"] : List Str) (defScope s_law) := ⟨rfl, rfl, rfl, by decide +kernel, rfl, by decide +kernel, by decide +kernel⟩
abbrev d_law : He.DefD := ⟨("law", none), "law", "law", defArgs s_law, defBody s_law, defScope s_law, [], []⟩
def fns : List He.DefD := [d_rows_kept, d_Tile_init, d_level_of, d_doubled_once, d_doubled_tile, d_law_next, d_law_squares, d_law_even, d_law]
def fas : List He.Fa := [.free "len", .free "tuple", .exc "NoTile", .glo "NoTile", .free "enumerate", .free "range", .free "divmod", .free "int", .glo "rows_kept", .glo "level_of", .glo "doubled_once", .glo "doubled_tile", .glo "_law_next", .glo "_law_squares", .glo "_law_even", .glo "law", .glo "DotError", .exc "DotError", .glo "Tile", .cls "Tile", .mkr "Tile", .noat "Tile" "count", .noat "Tile" "rows"]
abbrev TX (K : PySem.W.Frag) (mg : Str → Option Value) : Prop := Facts fas fns K mg
section
variable {K : PySem.W.Frag} {mg : Str → Option Value}
theorem tx_glo_NoTile (T : TX K mg) : mg "NoTile" = some (.ref (He.ga K "NoTile")) := T.glo 3
theorem tx_glo_DotError (T : TX K mg) : mg "DotError" = some (.ref (He.ga K "DotError")) := T.glo 16
theorem tx_glo_Tile (T : TX K mg) : mg "Tile" = some (.ref (He.ga K "Tile")) := T.glo 18
theorem tx_cls_Tile (T : TX K mg) : Cls K (He.ga K "Tile") := T.cls 19
theorem tx_noat_Tile_count (T : TX K mg) : NoAttr K (He.ga K "Tile") "count" := T.noat 21
theorem tx_noat_Tile_rows (T : TX K mg) : NoAttr K (He.ga K "Tile") "rows" := T.noat 22
end
abbrev fs_Tile : List Str := (["count", "rows"] : List Str)
abbrev e_Tile (K : PySem.W.Frag) (t : (Int × (List (List Int)))) : Dat := .obj (He.ga K "Tile") fs_Tile [Dat.int t.1, (eT (eT Dat.int)) t.2]
abbrev RR : PySem.W.OpenRow := PySem.W.OpenLaw.row PySem.Challenge.rw_dotscreen_k12_doubled_even
abbrev hk : PySem.W.Hook := He.hookD 5 fas fns
def ob (s : PySem.W.SharedT) : He.AlD := He.obsDG 5 fas fns (HandSHeadRun.getT s)
theorem ob_eq (s : PySem.W.SharedT) : ob s = hk.obs s.abs := He.obsDG_eq (HandSHeadRun.getT_eq s)
def loose : List PySem.Str := (["DotError", "NoTile", "rows_kept", "Tile", "level_of", "doubled_once", "doubled_tile", "_law_next", "_law_squares", "_law_even"] : List Str)
end Dot
namespace Dot
open PySem PySem.Spec PyProof.Rows L2 DK
set_option maxHeartbeats 0 in
theorem run (w : World) : HandSHeadRun.RunEq RR (PySem.W.view RR.prog [15]) hk ob 20000 loose w := by
  intro os
  kernel_rfl
end Dot
section
local macro_rules | `(tactic| lcg_src) => `(tactic| first | with_reducible assumption | with_reducible (refine' DK.Stp.inn ?si; (case si => assumption)) | with_reducible (refine' DK.Stp.pre ?sp; (case sp => assumption)))
local macro_rules | `(tactic| k_clsL) => `(tactic| first | with_reducible assumption | ((with_reducible refine' Ne.symm ?ny); (case ny => assumption)) | (refine' DK.Own.ne ?ah ?an; (case an => with_reducible assumption); (case ah => kat_tups)) | (refine' Ne.symm (DK.Own.ne ?bh ?bn); (case bn => with_reducible assumption); (case bh => kat_tups)))
local macro_rules | `(tactic| k_offL) => `(tactic| first | with_reducible exact DK.nm_nil | ((with_reducible refine DK.nm_cons ?mh ?mt); (case mh => k_clsL); (case mt => k_offL)) | with_reducible assumption)
local macro_rules | `(tactic| kat_tups) => `(tactic| first | with_reducible assumption | ((with_reducible refine' DK.Stp.keep ?ks ?kn ?kh); (case ks => assumption); (case kh => kat_tups); (case kn => k_offL)))
local macro_rules | `(tactic| k_subL) => `(tactic| first | with_reducible assumption | ((with_reducible refine' DK.Stp.back ?kv ?kb); (case kv => assumption); (case kb => k_subL)))
local macro_rules | `(tactic| kqd_all) => `(tactic| first | with_reducible assumption | with_reducible exact DK.RD.int_ | with_reducible exact DK.RD.bl_ | with_reducible exact DK.RD.str_ | with_reducible exact DK.RD.non_ | ((with_reducible refine' DK.Stp.up ?kv ?ku); (case kv => assumption); (case ku => kqd_all)))
local macro_rules | `(tactic| nest_cls) => `(tactic| first | with_reducible assumption | with_reducible exact DK.RDs.nil | ((with_reducible refine' DK.RDs.cons ?rh ?rt); (case rh => kqd_all); (case rt => nest_cls)) | with_reducible exact DK.RDs.of_ints _ | ((with_reducible refine' DK.Stp.ups ?kv ?ks); (case kv => assumption); (case ks => nest_cls)))
local macro_rules | `(tactic| lcg_off) => `(tactic| first | with_reducible exact DK.sub_nil | ((with_reducible refine' DK.sub_in ?fi ?ft); (case fi => first | exact List.mem_cons_self | exact List.mem_cons_of_mem _ List.mem_cons_self); (case ft => lcg_off)) | ((with_reducible refine DK.sub_new ?fn ?ft); (case fn => k_subL); (case ft => lcg_off)))
local macro_rules | `(tactic| kas_types) => `(tactic| first | with_reducible assumption | ((with_reducible refine DK.Stp.refl ?_); lcg_src) | ((with_reducible refine' DK.Stp.trans ?sa ?sm ?sb); (case sm => assumption); (case sa => kas_types); (case sb => lcg_off)))
local macro_rules | `(tactic| ktu_offI) => `(tactic| first | with_reducible assumption | ((with_reducible refine' DK.Scr.up ?kv ?kl); (case kv => assumption); (case kl => ktu_offI)))
local macro_rules | `(tactic| k_allIn) => `(tactic| first | with_reducible assumption | omega | decide | exact Int.emod_nonneg _ (by omega) | exact Int.emod_lt_of_pos _ (by omega))
local macro_rules | `(tactic| k_memK) => `(tactic| (simp only [L2.wipe, List.set_cons_succ, List.set_cons_zero]; exact rfl))
local macro_rules | `(tactic| kp_flats) => `(tactic| first
  | ((with_reducible refine DK.st_var (v := ?vv) ?hv ?kv); (case hv => exact rfl))
  | ((with_reducible refine DK.st_gname (σ' := ?sg) ?hg ?kg); (case hg => k_memK))
  | with_reducible refine DK.st_seq ?_
  | with_reducible refine DK.st_c ?_
  | with_reducible refine DK.st_op ?_
  | with_reducible refine DK.st_cb ?_
  | with_reducible refine DK.st_cons ?_
  | with_reducible refine DK.st_nil ?_
  | with_reducible refine DK.st_asg ?_
  | with_reducible refine DK.st_test ?_
  | with_reducible refine DK.st_B ?_
  | with_reducible refine DK.st_exb ?_
  | with_reducible refine DK.st_exi ?_
  | with_reducible refine DK.st_add ?_
  | with_reducible refine DK.st_I0 ?_
  | with_reducible refine DK.st_eqI ?_
  | with_reducible refine DK.st_neI ?_
  | with_reducible refine DK.br_t ?_
  | with_reducible refine DK.br_f ?_
  | with_reducible refine DK.br_nt ?_
  | with_reducible refine DK.br_nf ?_
  | with_reducible refine DK.st_call ?_
  | with_reducible refine DK.st_make ?_
  | with_reducible refine DK.st_fld ?_
  | with_reducible refine DK.st_drop ?_
  | with_reducible refine DK.st_next ?_
  | with_reducible refine DK.st_bm ?_
  | with_reducible refine DK.st_bm0 ?_
  | with_reducible refine DK.st_un ?_
  | with_reducible refine DK.st_rU ?_
  | with_reducible refine DK.st_not ?_
  | with_reducible refine DK.st_notV ?_
  | with_reducible refine DK.st_tup ?_
  | with_reducible refine DK.st_lst ?_
  | with_reducible refine DK.st_gsub ?_
  | with_reducible refine DK.st_rng1 ?_
  | with_reducible refine DK.st_rng2 ?_
  | with_reducible refine DK.st_rng3 ?_
  | with_reducible refine DK.st_gcons ?_
  | with_reducible refine DK.st_gnil ?_
  | with_reducible refine DK.st_ret ?_
  | with_reducible refine DK.st_retN ?_
  | with_reducible refine DK.st_yes ?_
  | with_reducible refine DK.st_sfld ?_
  | with_reducible refine DK.st_sl ?_
  | with_reducible refine DK.st_nopart ?_
  | with_reducible refine DK.st_part ?_)
local macro_rules | `(tactic| dl_open) => `(tactic| repeat kp_flats)
namespace Dot
open PySem PySem.Spec PyProof.Rows L2 DK
def m_law_next (z_script : List Int) (z_at : (List Int)) : Rs (Int × (List Int)) :=
(ixR z_at 0).bnd fun x1 =>
setR z_at 0 (x1 + 1) fun x2 =>
Rs.thn ((if 0 < (z_script.length : Int) then ((ixR x2 0).bnd fun x3 =>
grd (0 < (z_script.length : Int)) <| (ixR z_script (x3 % (z_script.length : Int))).bnd fun x4 =>
.ok (.nx x4)) else (.ok (.nx 0)) : (Rs (Ctl (Int) (Int × (List Int)))))) (fun x5 =>
(ixR x2 0).bnd fun x6 =>
(ixR x2 0).bnd fun x7 =>
grd (mulOk x6 x7 = true) <| grd (mulOk (((((x5 % 2147483647) + ((x6 * x7) * 7919)) + 11) * 48271) % 2147483647) (((((x5 % 2147483647) + ((x6 * x7) * 7919)) + 11) * 48271) % 2147483647) = true) <| .ok (((((((((x5 % 2147483647) + ((x6 * x7) * 7919)) + 11) * 48271) % 2147483647) * (((((x5 % 2147483647) + ((x6 * x7) * 7919)) + 11) * 48271) % 2147483647)) % 1999999973), x2))) (fun r => .ok r)
def sp_law_next (K : PySem.W.Frag) : Sp := fun vs H Q E => ∃ (v_script v_at : V), vs = [v_script, v_at] ∧ (∃ (F : Hp) (z_script : List Int) (z_at : (List Int)), Same F H ∧ Scr K F v_script z_script ∧ (∃ (a : Addr) (ws : List V), v_at = .ref a ∧ Own F H a (.lst ws) ∧ RDs F (List.map Dat.int z_at) ws) ∧ Post (m_law_next z_script z_at) (fun r => ∀ a, v_at = .ref a → ∀ F' H', Stp [a] F H F' H' → ∀ ws, Own F' H' a (.lst ws) → RDs F' (List.map Dat.int r.2) ws → Q (V.int r.1) H') (fun _ _ => False))
theorem len_law_next {K : PySem.W.Frag} : ∀ vs H Q E, sp_law_next K vs H Q E → vs.length = ((["_law_script", "_law_at"] : List Str)).length := fun vs H Q E h => by
  obtain ⟨_, _, rfl, _⟩ := h
  rfl
def t_law_next (K : PySem.W.Frag) (E : XK) : TS :=
  (tSeq (tAsg (tOp (rAddU K) (tOp (rIxU K) (tVar 1) (tC (.int 0))) (tC (.int 1))) (gSub (tVar 1) (tC (.int 0)) rSetL))
  (tSeq (tAsg (tC (.int 0)) (gName 2))
  (tSeq (tIfS (tTest (tOp rGtI (tCB (rLenU K) (tCons (tVar 0) tNil)) (tC (.int 0)))) (tAsg (tOp (rIxU K) (tVar 0) (tOp rModI (tOp (rIxU K) (tVar 1) (tC (.int 0))) (tCB (rLenU K) (tCons (tVar 0) tNil)))) (gName 2)) tNext)
  (tSeq (tAsg (tOp rModI (tOp rMulU (tOp (rAddU K) (tOp (rAddU K) (tOp rModI (tVar 2) (tC (.int 2147483647))) (tOp rMulU (tOp rMulU (tOp (rIxU K) (tVar 1) (tC (.int 0))) (tOp (rIxU K) (tVar 1) (tC (.int 0)))) (tC (.int 7919)))) (tC (.int 11))) (tC (.int 48271))) (tC (.int 2147483647))) (gName 3))
  (tRet (tOp rModI (tOp rMulU (tVar 3) (tVar 3)) (tC (.int 1999999973))))))))
section
variable {P : Program} {w : World} {K : PySem.W.Frag} {mg : Str → Option Value} {base : Heap}
theorem pure_law_next (T : TX K mg) (vs : List V) (H : Hp) (Q : VK) (E : XK) (h : sp_law_next K vs H Q E) : t_law_next K E { nx := fun _ H' => Q .non H', rt := Q } (start n_law_next vs) H := by
  obtain ⟨v_script, v_at, rfl, h⟩ := h
  change t_law_next K E _ [some v_script, some v_at, none, none] H
  unfold t_law_next
  obtain ⟨F, z_script, z_at, e0, hS1, ⟨a2, w_2, rfl, ho2, hr2⟩, h⟩ := h
  unfold m_law_next at h
  dl_open
  obtain ⟨x1, hx1, h⟩ := h.ix
  refine sm_ixO (e := Dat.int) (F := F) (by kat_tups) (by nest_cls) hx1 ?_
  intro u1 r1
  cases (show u1 = (V.int x1) from r1)
  dl_open
  dl_open
  dl_open
  obtain ⟨n1, hn1, h⟩ := h.st
  refine sm_set (e := Dat.int) (F := F) (by lcg_src) (by kat_tups) (by nest_cls) (by kqd_all) hn1 ?_
  intro w1 F1 H1 s1 o1 r2
  generalize List.set z_at n1 (x1 + 1) = x2 at h r2
  dl_open
  dl_open
  dl_open
  with_reducible refine cutI h (fun (s : Int) σ' H' => ∃ F', Stp [] F1 H1 F' H' ∧ σ' = [some v_script, some (V.ref a2), some (V.int s), none]) ?_ ?_
  · intro nx1 kk1 h
    with_reducible refine DK.st_if ?_
    dl_open
    dl_open
    refine st_lenS (F := F1) (by lcg_src) (by ktu_offI) ?_
    dl_open
    dl_open
    refine brP h (fun c1 h => ?_) (fun c1 h => ?_)
    · dl_open
      dl_open
      obtain ⟨x3, hx2, h⟩ := h.ix
      refine sm_ixO (e := Dat.int) (F := F1) (by kat_tups) (by nest_cls) hx2 ?_
      intro u2 r3
      cases (show u2 = (V.int x3) from r3)
      dl_open
      refine st_lenS (F := F1) (by lcg_src) (by ktu_offI) ?_
      dl_open
      obtain ⟨g1, h⟩ := h.g
      refine st_mod g1 ?_
      dl_open
      obtain ⟨x4, hx3, h⟩ := h.ix
      refine sm_ixS (F := F1) (by lcg_src) (by ktu_offI) hx3 ?_
      dl_open
      dl_open
      exact kk1 x4 _ _ ⟨F1, by kas_types, rfl⟩ h
    · dl_open
      dl_open
      exact kk1 0 _ _ ⟨F1, by kas_types, rfl⟩ h
  · rintro x5 σ_ H2 ⟨F2, s2, rfl⟩ h
    try dsimp only at h
    dl_open
    refine st_mod (by decide) ?_
    dl_open
    obtain ⟨x6, hx4, h⟩ := h.ix
    refine sm_ixO (e := Dat.int) (F := F2) (by kat_tups) (by nest_cls) hx4 ?_
    intro u4 r5
    cases (show u4 = (V.int x6) from r5)
    dl_open
    obtain ⟨x7, hx5, h⟩ := h.ix
    refine sm_ixO (e := Dat.int) (F := F2) (by kat_tups) (by nest_cls) hx5 ?_
    intro u5 r6
    cases (show u5 = (V.int x7) from r6)
    dl_open
    obtain ⟨g3, h⟩ := h.g
    refine st_mul (mulOk.c g3) ?_
    dl_open
    refine st_mul (mulR (by decide)) ?_
    dl_open
    dl_open
    dl_open
    refine st_mul (mulR (by decide)) ?_
    dl_open
    refine st_mod (by decide) ?_
    dl_open
    dl_open
    dl_open
    obtain ⟨g7, h⟩ := h.g
    refine st_mul (mulOk.c g7) ?_
    dl_open
    refine st_mod (by decide) ?_
    dl_open
    exact h a2 rfl F2 H2 (by kas_types) _ (by kat_tups) (by nest_cls)
theorem ok_law_next (T : TX K mg)  : CalOk P w K mg base "_law_next" 1 (["_law_script", "_law_at"] : List Str) (sp_law_next K) :=
  T.cal 5 12 (d := d_law_next) rfl rfl rfl rfl rfl sc_law_next (len_law_next) (fun _ _ _ _ _ _ _ us hl => match us, hl with | [_, _], _ => rfl) (fun cdv A outer s H vs Q E hr h => ⟨t_law_next K E, (by exact (pss_cons (ps_asg (pe_op op_addU (pe_ix ix_U (pv 1) pe_int (fun _ _ => rfl)) pe_int) (pg_sub (pv 1) pe_int set_list))
  (pss_cons (ps_set (i := 2) sc_law_next.nd rfl (by first | exact Or.inl rfl | exact Or.inr rfl) pe_int)
  (pss_cons (ps_if (pt_cmpR op_gt (pe_callB call_lenU (by rfl) (T.free 0) (by decide +kernel) (pa_cons (pv 0) pa_nil)) pe_int (nomark _)) (pss_one (ps_set (i := 2) sc_law_next.nd rfl (by first | exact Or.inl rfl | exact Or.inr rfl) (pe_ix ix_U (pv 0) (pe_op op_mod (pe_ix ix_U (pv 1) pe_int (fun _ _ => rfl)) (pe_callB call_lenU (by rfl) (T.free 0) (by decide +kernel) (pa_cons (pv 0) pa_nil))) (fun _ _ => rfl)))) pss_nil)
  (pss_cons (ps_set (i := 3) sc_law_next.nd rfl (by first | exact Or.inl rfl | exact Or.inr rfl) (pe_op op_mod (pe_op op_mulU (pe_op op_addU (pe_op op_addU (pe_op op_mod (pv 2) pe_int) (pe_op op_mulU (pe_op op_mulU (pe_ix ix_U (pv 1) pe_int (fun _ _ => rfl)) (pe_ix ix_U (pv 1) pe_int (fun _ _ => rfl))) pe_int)) pe_int) pe_int) pe_int))
  (pss_one (ps_ret (pe_op op_mod (pe_op op_mulU (pv 3) (pv 3)) pe_int)))))))), pure_law_next T vs H Q E h⟩)
end
end Dot
end
section
local macro_rules | `(tactic| lcg_src) => `(tactic| first | with_reducible assumption | with_reducible (refine' DK.Stp.inn ?si; (case si => assumption)) | with_reducible (refine' DK.Stp.pre ?sp; (case sp => assumption)))
local macro_rules | `(tactic| k_clsL) => `(tactic| first | with_reducible assumption | ((with_reducible refine' Ne.symm ?ny); (case ny => assumption)) | (refine' DK.Own.ne ?ah ?an; (case an => with_reducible assumption); (case ah => kat_tups)) | (refine' Ne.symm (DK.Own.ne ?bh ?bn); (case bn => with_reducible assumption); (case bh => kat_tups)))
local macro_rules | `(tactic| k_offL) => `(tactic| first | with_reducible exact DK.nm_nil | ((with_reducible refine DK.nm_cons ?mh ?mt); (case mh => k_clsL); (case mt => k_offL)) | with_reducible assumption)
local macro_rules | `(tactic| kat_tups) => `(tactic| first | with_reducible assumption | ((with_reducible refine' DK.Stp.keep ?ks ?kn ?kh); (case ks => assumption); (case kh => kat_tups); (case kn => k_offL)))
local macro_rules | `(tactic| k_subL) => `(tactic| first | with_reducible assumption | ((with_reducible refine' DK.Stp.back ?kv ?kb); (case kv => assumption); (case kb => k_subL)))
local macro_rules | `(tactic| kqd_all) => `(tactic| first | with_reducible assumption | with_reducible exact DK.RD.int_ | with_reducible exact DK.RD.bl_ | with_reducible exact DK.RD.str_ | with_reducible exact DK.RD.non_ | ((with_reducible refine' DK.Stp.up ?kv ?ku); (case kv => assumption); (case ku => kqd_all)))
local macro_rules | `(tactic| nest_cls) => `(tactic| first | with_reducible assumption | with_reducible exact DK.RDs.nil | ((with_reducible refine' DK.RDs.cons ?rh ?rt); (case rh => kqd_all); (case rt => nest_cls)) | with_reducible exact DK.RDs.of_ints _ | ((with_reducible refine' DK.Stp.ups ?kv ?ks); (case kv => assumption); (case ks => nest_cls)))
local macro_rules | `(tactic| lcg_off) => `(tactic| first | with_reducible exact DK.sub_nil | ((with_reducible refine' DK.sub_in ?fi ?ft); (case fi => first | exact List.mem_cons_self | exact List.mem_cons_of_mem _ List.mem_cons_self); (case ft => lcg_off)) | ((with_reducible refine DK.sub_new ?fn ?ft); (case fn => k_subL); (case ft => lcg_off)))
local macro_rules | `(tactic| kas_types) => `(tactic| first | with_reducible assumption | ((with_reducible refine DK.Stp.refl ?_); lcg_src) | ((with_reducible refine' DK.Stp.trans ?sa ?sm ?sb); (case sm => assumption); (case sa => kas_types); (case sb => lcg_off)))
local macro_rules | `(tactic| ktu_offI) => `(tactic| first | with_reducible assumption | ((with_reducible refine' DK.Scr.up ?kv ?kl); (case kv => assumption); (case kl => ktu_offI)))
local macro_rules | `(tactic| k_allIn) => `(tactic| first | with_reducible assumption | omega | decide | exact Int.emod_nonneg _ (by omega) | exact Int.emod_lt_of_pos _ (by omega))
local macro_rules | `(tactic| k_memK) => `(tactic| (simp only [L2.wipe, List.set_cons_succ, List.set_cons_zero]; exact rfl))
local macro_rules | `(tactic| kp_flats) => `(tactic| first
  | ((with_reducible refine DK.st_var (v := ?vv) ?hv ?kv); (case hv => exact rfl))
  | ((with_reducible refine DK.st_gname (σ' := ?sg) ?hg ?kg); (case hg => k_memK))
  | with_reducible refine DK.st_seq ?_
  | with_reducible refine DK.st_c ?_
  | with_reducible refine DK.st_op ?_
  | with_reducible refine DK.st_cb ?_
  | with_reducible refine DK.st_cons ?_
  | with_reducible refine DK.st_nil ?_
  | with_reducible refine DK.st_asg ?_
  | with_reducible refine DK.st_test ?_
  | with_reducible refine DK.st_B ?_
  | with_reducible refine DK.st_exb ?_
  | with_reducible refine DK.st_exi ?_
  | with_reducible refine DK.st_add ?_
  | with_reducible refine DK.st_I0 ?_
  | with_reducible refine DK.st_eqI ?_
  | with_reducible refine DK.st_neI ?_
  | with_reducible refine DK.br_t ?_
  | with_reducible refine DK.br_f ?_
  | with_reducible refine DK.br_nt ?_
  | with_reducible refine DK.br_nf ?_
  | with_reducible refine DK.st_call ?_
  | with_reducible refine DK.st_make ?_
  | with_reducible refine DK.st_fld ?_
  | with_reducible refine DK.st_drop ?_
  | with_reducible refine DK.st_next ?_
  | with_reducible refine DK.st_bm ?_
  | with_reducible refine DK.st_bm0 ?_
  | with_reducible refine DK.st_un ?_
  | with_reducible refine DK.st_rU ?_
  | with_reducible refine DK.st_not ?_
  | with_reducible refine DK.st_notV ?_
  | with_reducible refine DK.st_tup ?_
  | with_reducible refine DK.st_lst ?_
  | with_reducible refine DK.st_gsub ?_
  | with_reducible refine DK.st_rng1 ?_
  | with_reducible refine DK.st_rng2 ?_
  | with_reducible refine DK.st_rng3 ?_
  | with_reducible refine DK.st_gcons ?_
  | with_reducible refine DK.st_gnil ?_
  | with_reducible refine DK.st_ret ?_
  | with_reducible refine DK.st_retN ?_
  | with_reducible refine DK.st_yes ?_
  | with_reducible refine DK.st_sfld ?_
  | with_reducible refine DK.st_sl ?_
  | with_reducible refine DK.st_nopart ?_
  | with_reducible refine DK.st_part ?_)
local macro_rules | `(tactic| dl_open) => `(tactic| repeat kp_flats)
namespace Dot
open PySem PySem.Spec PyProof.Rows L2 DK
def m_doubled_once (z_rows : (List (List Int))) : Rs ((List (List Int))) :=
grd (z_rows.length ≤ 1000000) <| (mapR (fun (y1 : (List Int)) =>
 grd (y1.length ≤ 1000000) <| (mapR (fun (y2 : Int) =>
 .ok (some ((4 * y2) - 3))) y1).bnd fun x1 =>
.ok (some x1)) z_rows).bnd fun x1 =>
Rs.thn (forR (R := (List (List Int))) (fun (x3 : (List (List Int))) (y3 : (List Int)) =>
grd (y3.length ≤ 1000000) <| (mapR (fun (y4 : Int) =>
 .ok (some (y4 + 2))) y3).bnd fun x4 =>
grd (y3.length + x4.length ≤ 1000000) <| grd (x3.length < 1000000) <| .ok (.nx (x3 ++ [(y3 ++ x4)]))) x1 ([] : List (List Int))) (fun x5 =>
Rs.thn (forR (R := (List (List Int))) (fun (x6 : (List (List Int))) (y5 : (List Int)) =>
grd (y5.length ≤ 1000000) <| (mapR (fun (y6 : Int) =>
 .ok (some (y6 + 3))) y5).bnd fun x7 =>
grd (y5.length ≤ 1000000) <| (mapR (fun (y7 : Int) =>
 .ok (some (y7 + 1))) y5).bnd fun x8 =>
grd (x7.length + x8.length ≤ 1000000) <| grd (x6.length < 1000000) <| .ok (.nx (x6 ++ [(x7 ++ x8)]))) x1 x5) (fun x9 =>
.ok (x9)) (fun r => .ok r)) (fun r => .ok r)
def sp_doubled_once (K : PySem.W.Frag) : Sp := fun vs H Q E => ∃ (v_rows : V), vs = [v_rows] ∧ (∃ (F : Hp) (z_rows : (List (List Int))), Same F H ∧ RD F ((eL (eL Dat.int)) z_rows) v_rows ∧ Post (m_doubled_once z_rows) (fun r => ∀ F' H', Stp [] F H F' H' → ∀ L vs, Fre H L → Own F' H' L (.lst vs) → RDs F' (List.map (eL Dat.int) r) vs → Q (.ref L) H') (fun _ _ => False))
theorem len_doubled_once {K : PySem.W.Frag} : ∀ vs H Q E, sp_doubled_once K vs H Q E → vs.length = ((["rows"] : List Str)).length := fun vs H Q E h => by
  obtain ⟨_, rfl, _⟩ := h
  rfl
def t_doubled_once (K : PySem.W.Frag) (E : XK) : TS :=
  (tSeq (tAsg (tLc (iSeq K (tVar 0)) (gName 3) tYes (tLc (iSeq K (tVar 3)) (gName 4) tYes (tOp rSubI (tOp rMulU (tC (.int 4)) (tVar 4)) (tC (.int 3))) [4]) [3]) (gName 1))
  (tSeq (tAsg (tLst tNil) (gName 2))
  (tSeq (tFor (iSeq K (tVar 1)) (gName 3) (tDrop (tBM K "list" rAppend (tVar 2) (tCons (tOp (rAddU K) (tVar 3) (tLc (iSeq K (tVar 3)) (gName 4) tYes (tOp (rAddU K) (tVar 4) (tC (.int 2))) [4])) tNil))))
  (tSeq (tFor (iSeq K (tVar 1)) (gName 3) (tDrop (tBM K "list" rAppend (tVar 2) (tCons (tOp (rAddU K) (tLc (iSeq K (tVar 3)) (gName 4) tYes (tOp (rAddU K) (tVar 4) (tC (.int 3))) [4]) (tLc (iSeq K (tVar 3)) (gName 4) tYes (tOp (rAddU K) (tVar 4) (tC (.int 1))) [4])) tNil))))
  (tRet (tVar 2))))))
section
variable {P : Program} {w : World} {K : PySem.W.Frag} {mg : Str → Option Value} {base : Heap}
theorem pure_doubled_once (T : TX K mg) (vs : List V) (H : Hp) (Q : VK) (E : XK) (h : sp_doubled_once K vs H Q E) : t_doubled_once K E { nx := fun _ H' => Q .non H', rt := Q } (start n_doubled_once vs) H := by
  obtain ⟨v_rows, rfl, h⟩ := h
  change t_doubled_once K E _ [some v_rows, none, none, none, none] H
  unfold t_doubled_once
  obtain ⟨F, z_rows, e0, hr1, h⟩ := h
  unfold m_doubled_once at h
  dl_open
  refine st_lc ?_
  dl_open
  refine st_iseqL ?_
  dl_open
  dl_open
  obtain ⟨g1, h⟩ := h.g
  refine lc_L (e := (eL Dat.int)) (e2 := (eL Dat.int)) (F := F) (by kqd_all) (by lcg_src) g1 h.b ?_ ?_
  · intro y1 u1 F1 H1 r1 s1 PN1 NY1 NN1 kY1 kN1 h
    have r1 : RD F1 ((eL Dat.int) y1) u1 := r1
    dl_open
    dl_open
    refine ⟨rfl, ?_⟩
    dl_open
    dl_open
    refine st_lc ?_
    dl_open
    refine st_iseqL ?_
    dl_open
    dl_open
    obtain ⟨g2, h⟩ := h.g
    refine lc_L (e := Dat.int) (e2 := Dat.int) (F := F1) (by kqd_all) (by lcg_src) g2 h.b ?_ ?_
    · intro y2 u2 F2 H2 r2 s2 PN2 NY2 NN2 kY2 kN2 h
      cases (show u2 = (V.int y2) from r2)
      dl_open
      dl_open
      refine ⟨rfl, ?_⟩
      dl_open
      dl_open
      refine st_mul (mulL (by decide)) ?_
      dl_open
      dl_open
      exact kY2 _ _ F2 H2 (by kas_types) (by kqd_all) h
    intro L1 w1 x2 F3 H3 s3 n1 o1 r3 h
    obtain ⟨F4, s4, r4⟩ := own_fz (F := F3) s3.inn o1 r3
    dl_open
    exact kY1 _ _ F4 H3 (by kas_types) (by kqd_all) h
  intro L2 w2 x1 F5 H4 s5 n2 o2 r5 h
  obtain ⟨F6, s6, r6⟩ := own_fz (F := F5) s5.inn o2 r5
  dl_open
  dl_open
  refine newO (by simp) (F := F6) (by lcg_src) ?_
  intro L3 F7 H5 s7 n3 o3
  have r7 : RDs F7 (List.map (eL Dat.int) ([] : List (List Int))) [] := (show RDs F7 [] [] by nest_cls)
  dl_open
  dl_open
  with_reducible refine cutF h (fun (s : (List (List Int))) σ' H' => ∃ F', ∃ (o_1 : Option V) (w_0 : List V), Stp [L3] F7 H5 F' H' ∧ Own F' H' L3 (.lst w_0) ∧ RDs F' (List.map (eL Dat.int) s) w_0 ∧ σ' = [some v_rows, some (V.ref L2), some (V.ref L3), o_1, none]) ?_ ?_
  · intro nx1 kk1 h
    refine st_for ?_
    dl_open
    refine st_iseqL ?_
    dl_open
    dl_open
    refine fr_L (e := (eL Dat.int)) (F := F7) (by kqd_all) (by lcg_src) h (fun (s : (List (List Int))) σ' H' => ∃ F', ∃ (o_1 : Option V) (w_0 : List V), Stp [L3] F7 H5 F' H' ∧ Own F' H' L3 (.lst w_0) ∧ RDs F' (List.map (eL Dat.int) s) w_0 ∧ σ' = [some v_rows, some (V.ref L2), some (V.ref L3), o_1, none]) ⟨F7, _, _, by kas_types, by kat_tups, by nest_cls, rfl⟩ (by rintro _ _ _ ⟨_, _, _, t, _⟩; exact t.ex.trans t.inn) ?_ kk1
    rintro y3 rest1 x3 u3 σ_ H6 r8 ⟨F8, o_1, w3, s8, o4, r9, rfl⟩ h
    have r8 : RD F7 ((eL Dat.int) y3) u3 := r8
    try dsimp only at h
    dl_open
    dl_open
    refine ⟨ty_own (by kat_tups : Own F8 _ _ _), ?_⟩
    dl_open
    refine st_lc ?_
    dl_open
    refine st_iseqL ?_
    dl_open
    dl_open
    obtain ⟨g4, h⟩ := h.g
    refine lc_L (e := Dat.int) (e2 := Dat.int) (F := F8) (by kqd_all) (by lcg_src) g4 h.b ?_ ?_
    · intro y4 u4 F9 H7 r10 s9 PN3 NY3 NN3 kY3 kN3 h
      cases (show u4 = (V.int y4) from r10)
      dl_open
      dl_open
      refine ⟨rfl, ?_⟩
      dl_open
      dl_open
      dl_open
      exact kY3 _ _ F9 H7 (by kas_types) (by kqd_all) h
    intro L4 w4 x4 F10 H8 s10 n4 o5 r11 h
    obtain ⟨F11, s11, r12⟩ := own_fz (F := F10) s10.inn o5 r11
    dl_open
    obtain ⟨g5, h⟩ := h.g
    refine sm_cat (e := Dat.int) (F := F11) (by lcg_src) (by kqd_all) (by kqd_all) g5 ?_
    intro u5 F12 H9 s12 r13
    dl_open
    obtain ⟨g6, h⟩ := h.g
    refine sm_app (e := (eL Dat.int)) (x := (y3 ++ x4)) (F := F12) (by lcg_src) (by kat_tups) (by nest_cls) (by kqd_all) g6 ?_
    intro w5 F13 H10 s13 o6 r14
    dl_open
    dl_open
    exact ⟨(x3 ++ [(y3 ++ x4)]), ⟨F13, _, _, by kas_types, by kat_tups, by nest_cls, rfl⟩, h⟩
  · rintro x5 σ_ H11 ⟨F14, o_2, w6, s14, o7, r15, rfl⟩ h
    try dsimp only at h
    dl_open
    with_reducible refine cutF h (fun (s : (List (List Int))) σ' H' => ∃ F', ∃ (o_1 : Option V) (w_0 : List V), Stp [L3] F14 H11 F' H' ∧ Own F' H' L3 (.lst w_0) ∧ RDs F' (List.map (eL Dat.int) s) w_0 ∧ σ' = [some v_rows, some (V.ref L2), some (V.ref L3), o_1, none]) ?_ ?_
    · intro nx2 kk2 h
      refine st_for ?_
      dl_open
      refine st_iseqL ?_
      dl_open
      dl_open
      refine fr_L (e := (eL Dat.int)) (F := F14) (by kqd_all) (by lcg_src) h (fun (s : (List (List Int))) σ' H' => ∃ F', ∃ (o_1 : Option V) (w_0 : List V), Stp [L3] F14 H11 F' H' ∧ Own F' H' L3 (.lst w_0) ∧ RDs F' (List.map (eL Dat.int) s) w_0 ∧ σ' = [some v_rows, some (V.ref L2), some (V.ref L3), o_1, none]) ⟨F14, _, _, by kas_types, by kat_tups, by nest_cls, rfl⟩ (by rintro _ _ _ ⟨_, _, _, t, _⟩; exact t.ex.trans t.inn) ?_ kk2
      rintro y5 rest2 x6 u6 σ_ H12 r16 ⟨F15, o_3, w7, s15, o8, r17, rfl⟩ h
      have r16 : RD F14 ((eL Dat.int) y5) u6 := r16
      try dsimp only at h
      dl_open
      dl_open
      refine ⟨ty_own (by kat_tups : Own F15 _ _ _), ?_⟩
      dl_open
      refine st_lc ?_
      dl_open
      refine st_iseqL ?_
      dl_open
      dl_open
      obtain ⟨g7, h⟩ := h.g
      refine lc_L (e := Dat.int) (e2 := Dat.int) (F := F15) (by kqd_all) (by lcg_src) g7 h.b ?_ ?_
      · intro y6 u7 F16 H13 r18 s16 PN4 NY4 NN4 kY4 kN4 h
        cases (show u7 = (V.int y6) from r18)
        dl_open
        dl_open
        refine ⟨rfl, ?_⟩
        dl_open
        dl_open
        dl_open
        exact kY4 _ _ F16 H13 (by kas_types) (by kqd_all) h
      intro L5 w8 x7 F17 H14 s17 n5 o9 r19 h
      obtain ⟨F18, s18, r20⟩ := own_fz (F := F17) s17.inn o9 r19
      dl_open
      refine st_lc ?_
      dl_open
      refine st_iseqL ?_
      dl_open
      dl_open
      obtain ⟨g8, h⟩ := h.g
      refine lc_L (e := Dat.int) (e2 := Dat.int) (F := F18) (by kqd_all) (by lcg_src) g8 h.b ?_ ?_
      · intro y7 u8 F19 H15 r21 s19 PN5 NY5 NN5 kY5 kN5 h
        cases (show u8 = (V.int y7) from r21)
        dl_open
        dl_open
        refine ⟨rfl, ?_⟩
        dl_open
        dl_open
        dl_open
        exact kY5 _ _ F19 H15 (by kas_types) (by kqd_all) h
      intro L6 w9 x8 F20 H16 s20 n6 o10 r22 h
      obtain ⟨F21, s21, r23⟩ := own_fz (F := F20) s20.inn o10 r22
      dl_open
      obtain ⟨g9, h⟩ := h.g
      refine sm_cat (e := Dat.int) (F := F21) (by lcg_src) (by kqd_all) (by kqd_all) g9 ?_
      intro u9 F22 H17 s22 r24
      dl_open
      obtain ⟨g10, h⟩ := h.g
      refine sm_app (e := (eL Dat.int)) (x := (x7 ++ x8)) (F := F22) (by lcg_src) (by kat_tups) (by nest_cls) (by kqd_all) g10 ?_
      intro w10 F23 H18 s23 o11 r25
      dl_open
      dl_open
      exact ⟨(x6 ++ [(x7 ++ x8)]), ⟨F23, _, _, by kas_types, by kat_tups, by nest_cls, rfl⟩, h⟩
    · rintro x9 σ_ H19 ⟨F24, o_4, w11, s24, o12, r26, rfl⟩ h
      try dsimp only at h
      dl_open
      dl_open
      exact h F24 H19 (by kas_types) _ _ (by k_subL) (by kat_tups) (by nest_cls)
theorem ok_doubled_once (T : TX K mg)  : CalOk P w K mg base "doubled_once" 1 (["rows"] : List Str) (sp_doubled_once K) :=
  T.cal 3 10 (d := d_doubled_once) rfl rfl rfl rfl rfl sc_doubled_once (len_doubled_once) (fun _ _ _ _ _ _ _ us hl => match us, hl with | [_], _ => rfl) (fun cdv A outer s H vs Q E hr h => ⟨t_doubled_once K E, (by exact (pss_cons (ps_setLc (i := 1) (own := [("row", 3)]) (g := (gName 3)) (tt := tYes) (te := (tLc (iSeq K (tVar 3)) (gName 4) tYes (tOp rSubI (tOp rMulU (tC (.int 4)) (tVar 4)) (tC (.int 3))) [4]))  (by rfl) sc_doubled_once.nd rfl rfl (sw_true rfl rfl rfl (by decide +kernel)) (pi_seq (pv 0)) (blkOk_by (own := [("row", 3)]) (by rfl)) (fun _ _ _ _ _ => (pg_name (i := 3) sc_doubled_once.nd rfl (by first | exact Or.inl rfl | exact Or.inr rfl))) (fun _ _ _ _ _ => pts_nil) (fun _ _ _ _ _ => (pe_lc (own := [("threshold", 4)]) (g := (gName 4)) (tt := tYes) (te := (tOp rSubI (tOp rMulU (tC (.int 4)) (tVar 4)) (tC (.int 3)))) (by rfl) sc_doubled_once.nd (pi_seq (pv 3)) (blkOk_by (own := [("threshold", 4)]) (by rfl)) (fun _ _ _ _ _ => (pg_name (i := 4) sc_doubled_once.nd rfl (by first | exact Or.inl rfl | exact Or.inr rfl))) (fun _ _ _ _ _ => pts_nil) (fun _ _ _ _ _ => (pe_op op_sub (pe_op op_mulU pe_int (pv 4)) pe_int)))))
  (pss_cons (ps_set (i := 2) sc_doubled_once.nd rfl (by first | exact Or.inl rfl | exact Or.inr rfl) (pe_lst pa_nil))
  (pss_cons (ps_for (passes_of rfl) rfl (pi_seq (pv 1)) (pg_name (i := 3) sc_doubled_once.nd rfl (by first | exact Or.inl rfl | exact Or.inr rfl)) (pss_one (ps_expr (pe_bm PySem.F.plainAttrs_list PySem.F.slot_list_append PySem.F.type_list_append mt_append (pv 2) (pa_cons (pe_op op_addU (pv 3) (pe_lc (own := [("threshold", 4)]) (g := (gName 4)) (tt := tYes) (te := (tOp (rAddU K) (tVar 4) (tC (.int 2)))) (by rfl) sc_doubled_once.nd (pi_seq (pv 3)) (blkOk_by (own := [("threshold", 4)]) (by rfl)) (fun _ _ _ _ _ => (pg_name (i := 4) sc_doubled_once.nd rfl (by first | exact Or.inl rfl | exact Or.inr rfl))) (fun _ _ _ _ _ => pts_nil) (fun _ _ _ _ _ => (pe_op op_addU (pv 4) pe_int)))) pa_nil)))))
  (pss_cons (ps_for (passes_of rfl) rfl (pi_seq (pv 1)) (pg_name (i := 3) sc_doubled_once.nd rfl (by first | exact Or.inl rfl | exact Or.inr rfl)) (pss_one (ps_expr (pe_bm PySem.F.plainAttrs_list PySem.F.slot_list_append PySem.F.type_list_append mt_append (pv 2) (pa_cons (pe_op op_addU (pe_lc (own := [("threshold", 4)]) (g := (gName 4)) (tt := tYes) (te := (tOp (rAddU K) (tVar 4) (tC (.int 3)))) (by rfl) sc_doubled_once.nd (pi_seq (pv 3)) (blkOk_by (own := [("threshold", 4)]) (by rfl)) (fun _ _ _ _ _ => (pg_name (i := 4) sc_doubled_once.nd rfl (by first | exact Or.inl rfl | exact Or.inr rfl))) (fun _ _ _ _ _ => pts_nil) (fun _ _ _ _ _ => (pe_op op_addU (pv 4) pe_int))) (pe_lc (own := [("threshold", 4)]) (g := (gName 4)) (tt := tYes) (te := (tOp (rAddU K) (tVar 4) (tC (.int 1)))) (by rfl) sc_doubled_once.nd (pi_seq (pv 3)) (blkOk_by (own := [("threshold", 4)]) (by rfl)) (fun _ _ _ _ _ => (pg_name (i := 4) sc_doubled_once.nd rfl (by first | exact Or.inl rfl | exact Or.inr rfl))) (fun _ _ _ _ _ => pts_nil) (fun _ _ _ _ _ => (pe_op op_addU (pv 4) pe_int)))) pa_nil)))))
  (pss_one (ps_ret (pv 2)))))))), pure_doubled_once T vs H Q E h⟩)
end
end Dot
end
section
local macro_rules | `(tactic| lcg_src) => `(tactic| first | with_reducible assumption | with_reducible (refine' DK.Stp.inn ?si; (case si => assumption)) | with_reducible (refine' DK.Stp.pre ?sp; (case sp => assumption)))
local macro_rules | `(tactic| k_clsL) => `(tactic| first | with_reducible assumption | ((with_reducible refine' Ne.symm ?ny); (case ny => assumption)) | (refine' DK.Own.ne ?ah ?an; (case an => with_reducible assumption); (case ah => kat_tups)) | (refine' Ne.symm (DK.Own.ne ?bh ?bn); (case bn => with_reducible assumption); (case bh => kat_tups)))
local macro_rules | `(tactic| k_offL) => `(tactic| first | with_reducible exact DK.nm_nil | ((with_reducible refine DK.nm_cons ?mh ?mt); (case mh => k_clsL); (case mt => k_offL)) | with_reducible assumption)
local macro_rules | `(tactic| kat_tups) => `(tactic| first | with_reducible assumption | ((with_reducible refine' DK.Stp.keep ?ks ?kn ?kh); (case ks => assumption); (case kh => kat_tups); (case kn => k_offL)))
local macro_rules | `(tactic| k_subL) => `(tactic| first | with_reducible assumption | ((with_reducible refine' DK.Stp.back ?kv ?kb); (case kv => assumption); (case kb => k_subL)))
local macro_rules | `(tactic| kqd_all) => `(tactic| first | with_reducible assumption | with_reducible exact DK.RD.int_ | with_reducible exact DK.RD.bl_ | with_reducible exact DK.RD.str_ | with_reducible exact DK.RD.non_ | ((with_reducible refine' DK.Stp.up ?kv ?ku); (case kv => assumption); (case ku => kqd_all)))
local macro_rules | `(tactic| nest_cls) => `(tactic| first | with_reducible assumption | with_reducible exact DK.RDs.nil | ((with_reducible refine' DK.RDs.cons ?rh ?rt); (case rh => kqd_all); (case rt => nest_cls)) | with_reducible exact DK.RDs.of_ints _ | ((with_reducible refine' DK.Stp.ups ?kv ?ks); (case kv => assumption); (case ks => nest_cls)))
local macro_rules | `(tactic| lcg_off) => `(tactic| first | with_reducible exact DK.sub_nil | ((with_reducible refine' DK.sub_in ?fi ?ft); (case fi => first | exact List.mem_cons_self | exact List.mem_cons_of_mem _ List.mem_cons_self); (case ft => lcg_off)) | ((with_reducible refine DK.sub_new ?fn ?ft); (case fn => k_subL); (case ft => lcg_off)))
local macro_rules | `(tactic| kas_types) => `(tactic| first | with_reducible assumption | ((with_reducible refine DK.Stp.refl ?_); lcg_src) | ((with_reducible refine' DK.Stp.trans ?sa ?sm ?sb); (case sm => assumption); (case sa => kas_types); (case sb => lcg_off)))
local macro_rules | `(tactic| ktu_offI) => `(tactic| first | with_reducible assumption | ((with_reducible refine' DK.Scr.up ?kv ?kl); (case kv => assumption); (case kl => ktu_offI)))
local macro_rules | `(tactic| k_allIn) => `(tactic| first | with_reducible assumption | omega | decide | exact Int.emod_nonneg _ (by omega) | exact Int.emod_lt_of_pos _ (by omega))
local macro_rules | `(tactic| k_memK) => `(tactic| (simp only [L2.wipe, List.set_cons_succ, List.set_cons_zero]; exact rfl))
local macro_rules | `(tactic| kp_flats) => `(tactic| first
  | ((with_reducible refine DK.st_var (v := ?vv) ?hv ?kv); (case hv => exact rfl))
  | ((with_reducible refine DK.st_gname (σ' := ?sg) ?hg ?kg); (case hg => k_memK))
  | with_reducible refine DK.st_seq ?_
  | with_reducible refine DK.st_c ?_
  | with_reducible refine DK.st_op ?_
  | with_reducible refine DK.st_cb ?_
  | with_reducible refine DK.st_cons ?_
  | with_reducible refine DK.st_nil ?_
  | with_reducible refine DK.st_asg ?_
  | with_reducible refine DK.st_test ?_
  | with_reducible refine DK.st_B ?_
  | with_reducible refine DK.st_exb ?_
  | with_reducible refine DK.st_exi ?_
  | with_reducible refine DK.st_add ?_
  | with_reducible refine DK.st_I0 ?_
  | with_reducible refine DK.st_eqI ?_
  | with_reducible refine DK.st_neI ?_
  | with_reducible refine DK.br_t ?_
  | with_reducible refine DK.br_f ?_
  | with_reducible refine DK.br_nt ?_
  | with_reducible refine DK.br_nf ?_
  | with_reducible refine DK.st_call ?_
  | with_reducible refine DK.st_make ?_
  | with_reducible refine DK.st_fld ?_
  | with_reducible refine DK.st_drop ?_
  | with_reducible refine DK.st_next ?_
  | with_reducible refine DK.st_bm ?_
  | with_reducible refine DK.st_bm0 ?_
  | with_reducible refine DK.st_un ?_
  | with_reducible refine DK.st_rU ?_
  | with_reducible refine DK.st_not ?_
  | with_reducible refine DK.st_notV ?_
  | with_reducible refine DK.st_tup ?_
  | with_reducible refine DK.st_lst ?_
  | with_reducible refine DK.st_gsub ?_
  | with_reducible refine DK.st_rng1 ?_
  | with_reducible refine DK.st_rng2 ?_
  | with_reducible refine DK.st_rng3 ?_
  | with_reducible refine DK.st_gcons ?_
  | with_reducible refine DK.st_gnil ?_
  | with_reducible refine DK.st_ret ?_
  | with_reducible refine DK.st_retN ?_
  | with_reducible refine DK.st_yes ?_
  | with_reducible refine DK.st_sfld ?_
  | with_reducible refine DK.st_sl ?_
  | with_reducible refine DK.st_nopart ?_
  | with_reducible refine DK.st_part ?_)
local macro_rules | `(tactic| dl_open) => `(tactic| repeat kp_flats)
namespace Dot
open PySem PySem.Spec PyProof.Rows L2 DK
def m_rows_kept (z_rows : (List (List Int))) (z_low : Int) (z_top : Int) : Rs ((Option (List (List Int)))) :=
Rs.bnd (if (z_rows.length : Int) = 0 then (.ok true) else ((ixR z_rows 0).bnd fun x1 =>
.ok (decide ((x1.length : Int) = 0)))) fun b1 =>
if b1 = true then (.ok (none)) else (Rs.thn (forR (R := (Option (List (List Int)))) (fun (x2 : (List (List Int))) (y1 : (List Int)) =>
(ixR z_rows 0).bnd fun x3 =>
if (y1.length : Int) = (x3.length : Int) then (Rs.thn (forR (R := (Option (List (List Int)))) (fun (_ : Unit) (y2 : Int) =>
Rs.bnd (if z_low ≤ y2 then (.ok (decide (y2 ≤ z_top))) else (.ok false)) fun b2 =>
if b2 = true then (.ok (.nx ())) else (.ok (.rt none))) y1 ()) (fun _ =>
grd (x2.length < 1000000) <| .ok (.nx (x2 ++ [y1]))) (fun r => .ok (.rt r))) else (.ok (.rt none))) z_rows ([] : List (List Int))) (fun x4 =>
.ok ((some x4))) (fun r => .ok r))
def sp_rows_kept (K : PySem.W.Frag) : Sp := fun vs H Q E => ∃ (v_rows v_low v_top : V), vs = [v_rows, v_low, v_top] ∧ (∃ (F : Hp) (bq1 : Bool) (bq2 : Bool) (z_rows : (List (List Int))) (z_low : Int) (z_top : Int), Same F H ∧ RD F ((eQ bq1 (eQ bq2 Dat.int)) z_rows) v_rows ∧ v_low = (V.int z_low) ∧ v_top = (V.int z_top) ∧ Post (m_rows_kept z_rows z_low z_top) (fun r => ∀ F' H', Stp [] F H F' H' → ∀ u, RD F' ((eO (eT (eT Dat.int))) r) u → Q u H') (fun _ _ => False))
theorem len_rows_kept {K : PySem.W.Frag} : ∀ vs H Q E, sp_rows_kept K vs H Q E → vs.length = ((["rows", "low", "top"] : List Str)).length := fun vs H Q E h => by
  obtain ⟨_, _, _, rfl, _⟩ := h
  rfl
def t_rows_kept (K : PySem.W.Frag) (E : XK) : TS :=
  (tSeq (tIfS (tOr (tTest (tOp (rEqU K) (tCB (rLenU K) (tCons (tVar 0) tNil)) (tC (.int 0)))) (tTest (tOp (rEqU K) (tCB (rLenU K) (tCons (tOp (rIxU K) (tVar 0) (tC (.int 0))) tNil)) (tC (.int 0))))) (tRet (tC .non)) tNext)
  (tSeq (tAsg (tLst tNil) (gName 3))
  (tSeq (tFor (iSeq K (tVar 0)) (gName 4) (tSeq (tIfS (tTest (tOp (rNeU K) (tCB (rLenU K) (tCons (tVar 4) tNil)) (tCB (rLenU K) (tCons (tOp (rIxU K) (tVar 0) (tC (.int 0))) tNil)))) (tRet (tC .non)) tNext)
  (tSeq (tFor (iSeq K (tVar 4)) (gName 5) (tIfS (tNot (tTest (tChain rLeI rLeI (tVar 1) (tVar 5) (tVar 2)))) (tRet (tC .non)) tNext))
  (tDrop (tBM K "list" rAppend (tVar 3) (tCons (tCB (rTupU K) (tCons (tVar 4) tNil)) tNil))))))
  (tRet (tCB (rTupU K) (tCons (tVar 3) tNil))))))
section
variable {P : Program} {w : World} {K : PySem.W.Frag} {mg : Str → Option Value} {base : Heap}
theorem pure_rows_kept (T : TX K mg) (vs : List V) (H : Hp) (Q : VK) (E : XK) (h : sp_rows_kept K vs H Q E) : t_rows_kept K E { nx := fun _ H' => Q .non H', rt := Q } (start n_rows_kept vs) H := by
  obtain ⟨v_rows, v_low, v_top, rfl, h⟩ := h
  change t_rows_kept K E _ [some v_rows, some v_low, some v_top, none, none, none] H
  unfold t_rows_kept
  obtain ⟨F, bq1, bq2, z_rows, z_low, z_top, e0, hr1, rfl, rfl, h⟩ := h
  unfold m_rows_kept at h
  dl_open
  with_reducible refine DK.st_if ?_
  dl_open
  dl_open
  refine cutT F H h (fun Qkk1 kk1 h => ?_) (fun b1 F1 H1 s1 h => ?_)
  · refine st_or ?_
    dl_open
    refine sm_lenQ (e := (eQ bq2 Dat.int)) (F := F) (by lcg_src) (by kqd_all) ?_
    dl_open
    dl_open
    refine brP h (fun c1 h => ?_) (fun c1 h => ?_)
    · try dl_open
      exact kk1 _ F H (by kas_types) h
    · dl_open
      dl_open
      obtain ⟨x1, hx1, h⟩ := h.ix
      refine sm_ixQ (e := (eQ bq2 Dat.int)) (F := F) (by lcg_src) (by kqd_all) hx1 ?_
      intro u1 r1
      have r1 : RD F ((eQ bq2 Dat.int) x1) u1 := r1
      dl_open
      refine sm_lenQ (e := Dat.int) (F := F) (by lcg_src) (by kqd_all) ?_
      dl_open
      dl_open
      exact kk1 _ F H (by kas_types) h
  dl_open
  refine brB h (fun c2 h => ?_) (fun c2 h => ?_)
  · dl_open
    dl_open
    dl_open
    exact h F1 H1 (by kas_types) _ (show RD F1 Dat.non V.non from rfl)
  · dl_open
    dl_open
    refine newO (by simp) (F := F1) (by lcg_src) ?_
    intro L1 F2 H2 s2 n1 o1
    have r2 : RDs F2 (List.map (eT Dat.int) ([] : List (List Int))) [] := (show RDs F2 [] [] by nest_cls)
    dl_open
    dl_open
    with_reducible refine cutF h (fun (s : (List (List Int))) σ' H' => ∃ F', ∃ (o_0 : Option V) (o_2 : Option V) (w_0 : List V), Stp [L1] F2 H2 F' H' ∧ Own F' H' L1 (.lst w_0) ∧ RDs F' (List.map (eT Dat.int) s) w_0 ∧ σ' = [some v_rows, some (V.int z_low), some (V.int z_top), some (V.ref L1), o_2, o_0]) ?_ ?_
    · intro nx1 kk2 h
      refine st_for ?_
      dl_open
      refine fr_Q (e := (eQ bq2 Dat.int)) (F := F2) (show RD F2 ((eQ bq1 (eQ bq2 Dat.int)) z_rows) v_rows by kqd_all) (by lcg_src) h (fun _ q => ⟨_, rfl, q⟩) (fun (s : (List (List Int))) σ' H' => ∃ F', ∃ (o_0 : Option V) (o_2 : Option V) (w_0 : List V), Stp [L1] F2 H2 F' H' ∧ Own F' H' L1 (.lst w_0) ∧ RDs F' (List.map (eT Dat.int) s) w_0 ∧ σ' = [some v_rows, some (V.int z_low), some (V.int z_top), some (V.ref L1), o_2, o_0]) ⟨F2, _, _, _, by kas_types, by kat_tups, by nest_cls, rfl⟩ (by rintro _ _ _ ⟨_, _, _, _, t, _⟩; exact t.ex.trans t.inn) ?_ kk2
      rintro y1 rest1 x2 u2 σ_ H3 r3 ⟨F3, o_1, o_2, w1, s3, o2, r4, rfl⟩ h
      have r3 : RD F2 ((eQ bq2 Dat.int) y1) u2 := r3
      try dsimp only at h
      dl_open
      dl_open
      with_reducible refine DK.st_if ?_
      dl_open
      dl_open
      refine sm_lenQ (e := Dat.int) (F := F3) (by lcg_src) (by kqd_all) ?_
      dl_open
      obtain ⟨x3, hx2, h⟩ := h.ix
      refine sm_ixQ (e := (eQ bq2 Dat.int)) (F := F3) (by lcg_src) (by kqd_all) hx2 ?_
      intro u3 r5
      have r5 : RD F3 ((eQ bq2 Dat.int) x3) u3 := r5
      dl_open
      refine sm_lenQ (e := Dat.int) (F := F3) (by lcg_src) (by kqd_all) ?_
      dl_open
      dl_open
      refine brN h (fun c3 h => ?_) (fun c3 h => ?_)
      · dl_open
        dl_open
        dl_open
        exact h F3 H3 (by kas_types) _ (show RD F3 Dat.non V.non from rfl)
      · dl_open
        dl_open
        with_reducible refine cutF h (fun (s : Unit) σ' H' => ∃ F', ∃ (o_0 : Option V), Stp [] F3 H3 F' H' ∧ σ' = [some v_rows, some (V.int z_low), some (V.int z_top), some (V.ref L1), some u2, o_0]) ?_ ?_
        · intro nx2 kk3 h
          refine st_for ?_
          dl_open
          refine fr_Q (e := Dat.int) (F := F3) (show RD F3 ((eQ bq2 Dat.int) y1) u2 by kqd_all) (by lcg_src) h (fun _ q => ⟨_, rfl, q⟩) (fun (s : Unit) σ' H' => ∃ F', ∃ (o_0 : Option V), Stp [] F3 H3 F' H' ∧ σ' = [some v_rows, some (V.int z_low), some (V.int z_top), some (V.ref L1), some u2, o_0]) ⟨F3, _, by kas_types, rfl⟩ (by rintro _ _ _ ⟨_, _, t, _⟩; exact t.ex.trans t.inn) ?_ kk3
          rintro y2 rest2 _ u4 σ_ H4 r6 ⟨F4, o_3, s4, rfl⟩ h
          cases (show u4 = (V.int y2) from r6)
          try dsimp only at h
          dl_open
          dl_open
          with_reducible refine DK.st_if ?_
          dl_open
          dl_open
          dl_open
          refine cutB F4 H4 h (fun Qkk4 kk4 h => ?_) (fun b2 F5 H5 s5 h => ?_)
          · refine st_chain ?_
            dl_open
            refine brP h (fun c4 h => ?_) (fun c4 h => ?_)
            · dl_open
              dl_open
              exact kk4 _ F4 H4 (by kas_types) h
            · exact kk4 _ F4 H4 (by kas_types) h
          dl_open
          dl_open
          refine brNB h (fun c5 h => ?_) (fun c5 h => ?_)
          · dl_open
            dl_open
            dl_open
            exact h F5 H5 (by kas_types) _ (show RD F5 Dat.non V.non from rfl)
          · dl_open
            dl_open
            exact ⟨(), ⟨F5, _, by kas_types, rfl⟩, h⟩
        · rintro _ σ_ H6 ⟨F6, o_4, s6, rfl⟩ h
          try dsimp only at h
          dl_open
          refine ⟨ty_own (by kat_tups : Own F6 _ _ _), ?_⟩
          dl_open
          refine sm_tupQ (e := Dat.int) (F := F6) (by lcg_src) (by kqd_all) ?_
          intro u5 F7 H7 s7 r7
          have r7 : RD F7 ((eT Dat.int) y1) u5 := r7
          dl_open
          obtain ⟨g1, h⟩ := h.g
          refine sm_app (e := (eT Dat.int)) (x := y1) (F := F7) (by lcg_src) (by kat_tups) (by nest_cls) (by kqd_all) g1 ?_
          intro w2 F8 H8 s8 o3 r8
          dl_open
          dl_open
          exact ⟨(x2 ++ [y1]), ⟨F8, _, _, _, by kas_types, by kat_tups, by nest_cls, rfl⟩, h⟩
    · rintro x4 σ_ H9 ⟨F9, o_5, o_6, w3, s9, o4, r9, rfl⟩ h
      try dsimp only at h
      dl_open
      dl_open
      refine st_tupO (F := F9) (ds := List.map (eT Dat.int) x4) (by lcg_src) (by kat_tups) (by nest_cls) ?_
      intro u6 F10 H10 s10 r10
      have r10 : RD F10 ((eT (eT Dat.int)) x4) u6 := r10
      dl_open
      exact h F10 H10 (by kas_types) _ (show RD F10 ((eT (eT Dat.int)) x4) u6 by kqd_all)
theorem ok_rows_kept (T : TX K mg)  : CalOk P w K mg base "rows_kept" 1 (["rows", "low", "top"] : List Str) (sp_rows_kept K) :=
  T.cal 0 8 (d := d_rows_kept) rfl rfl rfl rfl rfl sc_rows_kept (len_rows_kept) (fun _ _ _ _ _ _ _ us hl => match us, hl with | [_, _, _], _ => rfl) (fun cdv A outer s H vs Q E hr h => ⟨t_rows_kept K E, (by exact (pss_cons (ps_if (PW.pt (pw_or (pt_cmpR (op_eqU hr.units) (pe_callB call_lenU (by rfl) (T.free 0) (by decide +kernel) (pa_cons (pv 0) pa_nil)) pe_int (nomark _)) (pw_or1 (pt_cmpR (op_eqU hr.units) (pe_callB call_lenU (by rfl) (T.free 0) (by decide +kernel) (pa_cons (pe_ix ix_U (pv 0) pe_int (fun _ _ => rfl)) pa_nil)) pe_int (nomark _))))) (pss_one (ps_ret pe_non)) pss_nil)
  (pss_cons (ps_set (i := 3) sc_rows_kept.nd rfl (by first | exact Or.inl rfl | exact Or.inr rfl) (pe_lst pa_nil))
  (pss_cons (ps_for (passes_of rfl) rfl (pi_seq (pv 0)) (pg_name (i := 4) sc_rows_kept.nd rfl (by first | exact Or.inl rfl | exact Or.inr rfl)) (pss_cons (ps_if (pt_cmpR (op_neU hr.units) (pe_callB call_lenU (by rfl) (T.free 0) (by decide +kernel) (pa_cons (pv 4) pa_nil)) (pe_callB call_lenU (by rfl) (T.free 0) (by decide +kernel) (pa_cons (pe_ix ix_U (pv 0) pe_int (fun _ _ => rfl)) pa_nil)) (nomark _)) (pss_one (ps_ret pe_non)) pss_nil)
  (pss_cons (ps_for (passes_of rfl) rfl (pi_seq (pv 4)) (pg_name (i := 5) sc_rows_kept.nd rfl (by first | exact Or.inl rfl | exact Or.inr rfl)) (pss_one (ps_if (pt_not (pt_chain op_le op_le (pv 1) (pv 5) (pv 2))) (pss_one (ps_ret pe_non)) pss_nil)))
  (pss_one (ps_expr (pe_bm PySem.F.plainAttrs_list PySem.F.slot_list_append PySem.F.type_list_append mt_append (pv 3) (pa_cons (pe_callTy call_tupU (by rfl) (T.free 1) (by decide +kernel) (pa_cons (pv 4) pa_nil)) pa_nil)))))))
  (pss_one (ps_ret (pe_callTy call_tupU (by rfl) (T.free 1) (by decide +kernel) (pa_cons (pv 3) pa_nil)))))))), pure_rows_kept T vs H Q E h⟩)
end
end Dot
end
section
local macro_rules | `(tactic| lcg_src) => `(tactic| first | with_reducible assumption | with_reducible (refine' DK.Stp.inn ?si; (case si => assumption)) | with_reducible (refine' DK.Stp.pre ?sp; (case sp => assumption)))
local macro_rules | `(tactic| k_clsL) => `(tactic| first | with_reducible assumption | ((with_reducible refine' Ne.symm ?ny); (case ny => assumption)) | (refine' DK.Own.ne ?ah ?an; (case an => with_reducible assumption); (case ah => kat_tups)) | (refine' Ne.symm (DK.Own.ne ?bh ?bn); (case bn => with_reducible assumption); (case bh => kat_tups)))
local macro_rules | `(tactic| k_offL) => `(tactic| first | with_reducible exact DK.nm_nil | ((with_reducible refine DK.nm_cons ?mh ?mt); (case mh => k_clsL); (case mt => k_offL)) | with_reducible assumption)
local macro_rules | `(tactic| kat_tups) => `(tactic| first | with_reducible assumption | ((with_reducible refine' DK.Stp.keep ?ks ?kn ?kh); (case ks => assumption); (case kh => kat_tups); (case kn => k_offL)))
local macro_rules | `(tactic| k_subL) => `(tactic| first | with_reducible assumption | ((with_reducible refine' DK.Stp.back ?kv ?kb); (case kv => assumption); (case kb => k_subL)))
local macro_rules | `(tactic| kqd_all) => `(tactic| first | with_reducible assumption | with_reducible exact DK.RD.int_ | with_reducible exact DK.RD.bl_ | with_reducible exact DK.RD.str_ | with_reducible exact DK.RD.non_ | ((with_reducible refine' DK.Stp.up ?kv ?ku); (case kv => assumption); (case ku => kqd_all)))
local macro_rules | `(tactic| nest_cls) => `(tactic| first | with_reducible assumption | with_reducible exact DK.RDs.nil | ((with_reducible refine' DK.RDs.cons ?rh ?rt); (case rh => kqd_all); (case rt => nest_cls)) | with_reducible exact DK.RDs.of_ints _ | ((with_reducible refine' DK.Stp.ups ?kv ?ks); (case kv => assumption); (case ks => nest_cls)))
local macro_rules | `(tactic| lcg_off) => `(tactic| first | with_reducible exact DK.sub_nil | ((with_reducible refine' DK.sub_in ?fi ?ft); (case fi => first | exact List.mem_cons_self | exact List.mem_cons_of_mem _ List.mem_cons_self); (case ft => lcg_off)) | ((with_reducible refine DK.sub_new ?fn ?ft); (case fn => k_subL); (case ft => lcg_off)))
local macro_rules | `(tactic| kas_types) => `(tactic| first | with_reducible assumption | ((with_reducible refine DK.Stp.refl ?_); lcg_src) | ((with_reducible refine' DK.Stp.trans ?sa ?sm ?sb); (case sm => assumption); (case sa => kas_types); (case sb => lcg_off)))
local macro_rules | `(tactic| ktu_offI) => `(tactic| first | with_reducible assumption | ((with_reducible refine' DK.Scr.up ?kv ?kl); (case kv => assumption); (case kl => ktu_offI)))
local macro_rules | `(tactic| k_allIn) => `(tactic| first | with_reducible assumption | omega | decide | exact Int.emod_nonneg _ (by omega) | exact Int.emod_lt_of_pos _ (by omega))
local macro_rules | `(tactic| k_memK) => `(tactic| (simp only [L2.wipe, List.set_cons_succ, List.set_cons_zero]; exact rfl))
local macro_rules | `(tactic| kp_flats) => `(tactic| first
  | ((with_reducible refine DK.st_var (v := ?vv) ?hv ?kv); (case hv => exact rfl))
  | ((with_reducible refine DK.st_gname (σ' := ?sg) ?hg ?kg); (case hg => k_memK))
  | with_reducible refine DK.st_seq ?_
  | with_reducible refine DK.st_c ?_
  | with_reducible refine DK.st_op ?_
  | with_reducible refine DK.st_cb ?_
  | with_reducible refine DK.st_cons ?_
  | with_reducible refine DK.st_nil ?_
  | with_reducible refine DK.st_asg ?_
  | with_reducible refine DK.st_test ?_
  | with_reducible refine DK.st_B ?_
  | with_reducible refine DK.st_exb ?_
  | with_reducible refine DK.st_exi ?_
  | with_reducible refine DK.st_add ?_
  | with_reducible refine DK.st_I0 ?_
  | with_reducible refine DK.st_eqI ?_
  | with_reducible refine DK.st_neI ?_
  | with_reducible refine DK.br_t ?_
  | with_reducible refine DK.br_f ?_
  | with_reducible refine DK.br_nt ?_
  | with_reducible refine DK.br_nf ?_
  | with_reducible refine DK.st_call ?_
  | with_reducible refine DK.st_make ?_
  | with_reducible refine DK.st_fld ?_
  | with_reducible refine DK.st_drop ?_
  | with_reducible refine DK.st_next ?_
  | with_reducible refine DK.st_bm ?_
  | with_reducible refine DK.st_bm0 ?_
  | with_reducible refine DK.st_un ?_
  | with_reducible refine DK.st_rU ?_
  | with_reducible refine DK.st_not ?_
  | with_reducible refine DK.st_notV ?_
  | with_reducible refine DK.st_tup ?_
  | with_reducible refine DK.st_lst ?_
  | with_reducible refine DK.st_gsub ?_
  | with_reducible refine DK.st_rng1 ?_
  | with_reducible refine DK.st_rng2 ?_
  | with_reducible refine DK.st_rng3 ?_
  | with_reducible refine DK.st_gcons ?_
  | with_reducible refine DK.st_gnil ?_
  | with_reducible refine DK.st_ret ?_
  | with_reducible refine DK.st_retN ?_
  | with_reducible refine DK.st_yes ?_
  | with_reducible refine DK.st_sfld ?_
  | with_reducible refine DK.st_sl ?_
  | with_reducible refine DK.st_nopart ?_
  | with_reducible refine DK.st_part ?_)
local macro_rules | `(tactic| dl_open) => `(tactic| repeat kp_flats)
namespace Dot
open PySem PySem.Spec PyProof.Rows L2 DK
def m_Tile_init (z_count : Int) (z_rows : (List (List Int))) : Rs ((Int × (List (List Int)))) :=
(m_rows_kept z_rows 1 z_count).bnd fun x1 =>
Rs.bnd (if z_count < 1 then (.ok true) else (.ok (x1.isNone))) fun b1 =>
if b1 = true then (.bad) else (somR x1 fun y1 =>
.ok (z_count, y1))
def sp_Tile_init (K : PySem.W.Frag) : Sp := fun vs H Q E => ∃ (v_self v_count v_rows : V), vs = [v_self, v_count, v_rows] ∧ (∃ (F : Hp) (bq1 : Bool) (bq2 : Bool) (L0 dx0 : Addr) (z_count : Int) (z_rows : (List (List Int))), Same F H ∧ v_self = .ref L0 ∧ Own F H L0 (.ins (He.ga K "Tile") dx0 []) ∧ v_count = (V.int z_count) ∧ RD F ((eQ bq1 (eQ bq2 Dat.int)) z_rows) v_rows ∧ Post (m_Tile_init z_count z_rows) (fun r => ∀ ws F' H', Stp [L0] F H F' H' → Own F' H' L0 (.ins (He.ga K "Tile") dx0 (fs_Tile.zip ws)) → RDs F' [Dat.int r.1, (eT (eT Dat.int)) r.2] ws → Q .non H') (fun _ _ => False))
theorem len_Tile_init {K : PySem.W.Frag} : ∀ vs H Q E, sp_Tile_init K vs H Q E → vs.length = ((["self", "count", "rows"] : List Str)).length := fun vs H Q E h => by
  obtain ⟨_, _, _, rfl, _⟩ := h
  rfl
def t_Tile_init (K : PySem.W.Frag) (E : XK) : TS :=
  (tSeq (tAsg (tCall (sp_rows_kept K) [] E (tCons (tVar 2) (tCons (tC (.int 1)) (tCons (tVar 1) tNil)))) (gName 3))
  (tSeq (tIfS (tOr (tTest (tOp rLtI (tVar 1) (tC (.int 1)))) (tTest (tOp rIsN (tVar 3) (tC .non)))) (tRaiseC (He.ga K "NoTile") (fun cls d _ H => E cls d H)) tNext)
  (tSeq (sFld K (tVar 0) (tVar 1) "count")
  (sFld K (tVar 0) (tVar 3) "rows"))))
section
variable {P : Program} {w : World} {K : PySem.W.Frag} {mg : Str → Option Value} {base : Heap}
theorem pure_Tile_init (T : TX K mg) (vs : List V) (H : Hp) (Q : VK) (E : XK) (h : sp_Tile_init K vs H Q E) : t_Tile_init K E { nx := fun _ H' => Q .non H', rt := Q } (start n_Tile_init vs) H := by
  obtain ⟨v_self, v_count, v_rows, rfl, h⟩ := h
  change t_Tile_init K E _ [some v_self, some v_count, some v_rows, none] H
  unfold t_Tile_init
  obtain ⟨F, bq1, bq2, L0, dx0, z_count, z_rows, e0, rfl, o0, rfl, hr2, h⟩ := h
  unfold m_Tile_init at h
  dl_open
  refine ⟨_, _, _, rfl, F, bq1, bq2, z_rows, 1, z_count, by lcg_src, (show RD F ((eQ bq1 (eQ bq2 Dat.int)) z_rows) _ by kqd_all), rfl, rfl, h.b.mono ?_⟩
  intro x1 h F1 H1 s1 u2 r1
  dl_open
  dl_open
  with_reducible refine DK.st_if ?_
  dl_open
  dl_open
  refine cutT F1 H1 h (fun Qkk1 kk1 h => ?_) (fun b1 F2 H2 s2 h => ?_)
  · refine st_or ?_
    dl_open
    dl_open
    refine brP h (fun c1 h => ?_) (fun c1 h => ?_)
    · try dl_open
      exact kk1 _ F1 H1 (by kas_types) h
    · dl_open
      dl_open
      refine sm_isN (e := (eT (eT Dat.int))) (F := F1) (by kqd_all) (fun _ => rfl) ?_
      dl_open
      dl_open
      exact kk1 _ F1 H1 (by kas_types) h
  dl_open
  refine brB h (fun c2 h => ?_) (fun c2 h => ?_)
  · dl_open
    exact h.elim
  · dl_open
    obtain ⟨y1, hy1, h⟩ := h.som
    have r2 : RD F2 (eO (eT (eT Dat.int)) (some y1)) u2 := hy1 ▸ (by kqd_all : RD F2 (eO (eT (eT Dat.int)) x1) u2)
    have r2 : RD F2 ((eT (eT Dat.int)) y1) u2 := r2
    dl_open
    dl_open
    refine sm_sfld (fs' := [("count", (V.int z_count))]) (F := F2) (by lcg_src) (by kat_tups) (tx_cls_Tile T) (tx_noat_Tile_count T) (by simp) (by kernel_rfl) ?_
    intro F3 H3 s3 o1
    dl_open
    dl_open
    refine sm_sfld (fs' := [("count", (V.int z_count)), ("rows", u2)]) (F := F3) (by lcg_src) (by kat_tups) (tx_cls_Tile T) (tx_noat_Tile_rows T) (by simp) (by kernel_rfl) ?_
    intro F4 H4 s4 o2
    dl_open
    have oo_ : Own F4 H4 L0 (.ins (He.ga K "Tile") dx0 (fs_Tile.zip [(V.int z_count), u2])) := (by kat_tups : Own F4 H4 L0 (.ins (He.ga K "Tile") dx0 [("count", (V.int z_count)), ("rows", u2)]))
    exact h [(V.int z_count), u2] F4 H4 (by kas_types) oo_ (by nest_cls)
theorem mk_Tile (T : TX K mg) (c_rows_kept : CalOk P w K mg base "rows_kept" 1 (["rows", "low", "top"] : List Str) (sp_rows_kept K)) : MakOk P w K mg base "Tile" 2 (["self", "count", "rows"] : List Str) (sp_Tile_init K) :=
  T.mak 1 18 20 (d := d_Tile_init) rfl rfl rfl rfl rfl rfl sc_Tile_init (len_Tile_init) (fun _ _ _ _ _ _ _ us hl => match us, hl with | [_, _, _], _ => rfl) (fun cdv A outer s H vs Q E hr h => ⟨t_Tile_init K E, (by exact (pss_cons (ps_set (i := 3) sc_Tile_init.nd rfl (by first | exact Or.inl rfl | exact Or.inr rfl) (pe_callC c_rows_kept (hr.mono (by decide)) rfl (passes_call (takes_of rfl rfl rfl rfl) (fun _ _ _ _ h => h)) (pa_cons (pv 2) (pa_cons pe_int (pa_cons (pv 1) pa_nil)))))
  (pss_cons (ps_if (PW.pt (pw_or (pt_cmpR op_lt (pv 1) pe_int (nomark _)) (pw_or1 (pt_cmpR op_isN1 (pv 3) pe_non (nomark _))))) (pss_one (ps_raiseC rfl (takes_of rfl rfl rfl rfl) (T.exc 2) (T.glo 3))) pss_nil)
  (pss_cons (ps_fld (pv 0) (pv 1) rfl)
  (pss_one (ps_fld (pv 0) (pv 3) rfl)))))), pure_Tile_init T vs H Q E h⟩)
end
end Dot
end
section
local macro_rules | `(tactic| lcg_src) => `(tactic| first | with_reducible assumption | with_reducible (refine' DK.Stp.inn ?si; (case si => assumption)) | with_reducible (refine' DK.Stp.pre ?sp; (case sp => assumption)))
local macro_rules | `(tactic| k_clsL) => `(tactic| first | with_reducible assumption | ((with_reducible refine' Ne.symm ?ny); (case ny => assumption)) | (refine' DK.Own.ne ?ah ?an; (case an => with_reducible assumption); (case ah => kat_tups)) | (refine' Ne.symm (DK.Own.ne ?bh ?bn); (case bn => with_reducible assumption); (case bh => kat_tups)))
local macro_rules | `(tactic| k_offL) => `(tactic| first | with_reducible exact DK.nm_nil | ((with_reducible refine DK.nm_cons ?mh ?mt); (case mh => k_clsL); (case mt => k_offL)) | with_reducible assumption)
local macro_rules | `(tactic| kat_tups) => `(tactic| first | with_reducible assumption | ((with_reducible refine' DK.Stp.keep ?ks ?kn ?kh); (case ks => assumption); (case kh => kat_tups); (case kn => k_offL)))
local macro_rules | `(tactic| k_subL) => `(tactic| first | with_reducible assumption | ((with_reducible refine' DK.Stp.back ?kv ?kb); (case kv => assumption); (case kb => k_subL)))
local macro_rules | `(tactic| kqd_all) => `(tactic| first | with_reducible assumption | with_reducible exact DK.RD.int_ | with_reducible exact DK.RD.bl_ | with_reducible exact DK.RD.str_ | with_reducible exact DK.RD.non_ | ((with_reducible refine' DK.Stp.up ?kv ?ku); (case kv => assumption); (case ku => kqd_all)))
local macro_rules | `(tactic| nest_cls) => `(tactic| first | with_reducible assumption | with_reducible exact DK.RDs.nil | ((with_reducible refine' DK.RDs.cons ?rh ?rt); (case rh => kqd_all); (case rt => nest_cls)) | with_reducible exact DK.RDs.of_ints _ | ((with_reducible refine' DK.Stp.ups ?kv ?ks); (case kv => assumption); (case ks => nest_cls)))
local macro_rules | `(tactic| lcg_off) => `(tactic| first | with_reducible exact DK.sub_nil | ((with_reducible refine' DK.sub_in ?fi ?ft); (case fi => first | exact List.mem_cons_self | exact List.mem_cons_of_mem _ List.mem_cons_self); (case ft => lcg_off)) | ((with_reducible refine DK.sub_new ?fn ?ft); (case fn => k_subL); (case ft => lcg_off)))
local macro_rules | `(tactic| kas_types) => `(tactic| first | with_reducible assumption | ((with_reducible refine DK.Stp.refl ?_); lcg_src) | ((with_reducible refine' DK.Stp.trans ?sa ?sm ?sb); (case sm => assumption); (case sa => kas_types); (case sb => lcg_off)))
local macro_rules | `(tactic| ktu_offI) => `(tactic| first | with_reducible assumption | ((with_reducible refine' DK.Scr.up ?kv ?kl); (case kv => assumption); (case kl => ktu_offI)))
local macro_rules | `(tactic| k_allIn) => `(tactic| first | with_reducible assumption | omega | decide | exact Int.emod_nonneg _ (by omega) | exact Int.emod_lt_of_pos _ (by omega))
local macro_rules | `(tactic| k_memK) => `(tactic| (simp only [L2.wipe, List.set_cons_succ, List.set_cons_zero]; exact rfl))
local macro_rules | `(tactic| kp_flats) => `(tactic| first
  | ((with_reducible refine DK.st_var (v := ?vv) ?hv ?kv); (case hv => exact rfl))
  | ((with_reducible refine DK.st_gname (σ' := ?sg) ?hg ?kg); (case hg => k_memK))
  | with_reducible refine DK.st_seq ?_
  | with_reducible refine DK.st_c ?_
  | with_reducible refine DK.st_op ?_
  | with_reducible refine DK.st_cb ?_
  | with_reducible refine DK.st_cons ?_
  | with_reducible refine DK.st_nil ?_
  | with_reducible refine DK.st_asg ?_
  | with_reducible refine DK.st_test ?_
  | with_reducible refine DK.st_B ?_
  | with_reducible refine DK.st_exb ?_
  | with_reducible refine DK.st_exi ?_
  | with_reducible refine DK.st_add ?_
  | with_reducible refine DK.st_I0 ?_
  | with_reducible refine DK.st_eqI ?_
  | with_reducible refine DK.st_neI ?_
  | with_reducible refine DK.br_t ?_
  | with_reducible refine DK.br_f ?_
  | with_reducible refine DK.br_nt ?_
  | with_reducible refine DK.br_nf ?_
  | with_reducible refine DK.st_call ?_
  | with_reducible refine DK.st_make ?_
  | with_reducible refine DK.st_fld ?_
  | with_reducible refine DK.st_drop ?_
  | with_reducible refine DK.st_next ?_
  | with_reducible refine DK.st_bm ?_
  | with_reducible refine DK.st_bm0 ?_
  | with_reducible refine DK.st_un ?_
  | with_reducible refine DK.st_rU ?_
  | with_reducible refine DK.st_not ?_
  | with_reducible refine DK.st_notV ?_
  | with_reducible refine DK.st_tup ?_
  | with_reducible refine DK.st_lst ?_
  | with_reducible refine DK.st_gsub ?_
  | with_reducible refine DK.st_rng1 ?_
  | with_reducible refine DK.st_rng2 ?_
  | with_reducible refine DK.st_rng3 ?_
  | with_reducible refine DK.st_gcons ?_
  | with_reducible refine DK.st_gnil ?_
  | with_reducible refine DK.st_ret ?_
  | with_reducible refine DK.st_retN ?_
  | with_reducible refine DK.st_yes ?_
  | with_reducible refine DK.st_sfld ?_
  | with_reducible refine DK.st_sl ?_
  | with_reducible refine DK.st_nopart ?_
  | with_reducible refine DK.st_part ?_)
local macro_rules | `(tactic| dl_open) => `(tactic| repeat kp_flats)
namespace Dot
open PySem PySem.Spec PyProof.Rows L2 DK
def m_doubled_tile (z_times : Int) : Rs ((Int × (List (List Int)))) :=
if z_times < 0 then (.bad) else (Rs.thn (grd (rngOk 0 z_times = true) <| forR (R := (Int × (List (List Int)))) (fun (x1 : (List (List Int))) (y1 : Int) =>
(m_doubled_once x1).bnd fun x2 =>
.ok (.nx x2)) (rngI 0 z_times) ([([1] : List Int)] : List (List Int))) (fun x3 =>
grd (mulOk (x3.length : Int) (x3.length : Int) = true) <| (m_Tile_init ((x3.length : Int) * (x3.length : Int)) x3).bnd fun x4 =>
.ok (x4)) (fun r => .ok r))
def sp_doubled_tile (K : PySem.W.Frag) : Sp := fun vs H Q E => ∃ (v_times : V), vs = [v_times] ∧ (∃ (F : Hp) (z_times : Int), Same F H ∧ v_times = (V.int z_times) ∧ Post (m_doubled_tile z_times) (fun r => ∀ F' H', Stp [] F H F' H' → ∀ u, RD F' ((e_Tile K) r) u → Q u H') (fun _ _ => False))
theorem len_doubled_tile {K : PySem.W.Frag} : ∀ vs H Q E, sp_doubled_tile K vs H Q E → vs.length = ((["times"] : List Str)).length := fun vs H Q E h => by
  obtain ⟨_, rfl, _⟩ := h
  rfl
def t_doubled_tile (K : PySem.W.Frag) (E : XK) : TS :=
  (tSeq (tIfS (tTest (tOp rLtI (tVar 0) (tC (.int 0)))) (tRaiseC (He.ga K "NoTile") (fun cls d _ H => E cls d H)) tNext)
  (tSeq (tAsg (tLst (tCons (tLst (tCons (tC (.int 1)) tNil)) tNil)) (gName 1))
  (tSeq (tFor (iRng1 (tCons (tVar 0) tNil)) (gName 2) (tAsg (tCall (sp_doubled_once K) [] E (tCons (tVar 1) tNil)) (gName 1)))
  (tRet (tMake (He.ga K "Tile") (sp_Tile_init K) [] E (tCons (tOp rMulU (tCB (rLenU K) (tCons (tVar 1) tNil)) (tCB (rLenU K) (tCons (tVar 1) tNil))) (tCons (tVar 1) tNil)))))))
section
variable {P : Program} {w : World} {K : PySem.W.Frag} {mg : Str → Option Value} {base : Heap}
theorem pure_doubled_tile (T : TX K mg) (vs : List V) (H : Hp) (Q : VK) (E : XK) (h : sp_doubled_tile K vs H Q E) : t_doubled_tile K E { nx := fun _ H' => Q .non H', rt := Q } (start n_doubled_tile vs) H := by
  obtain ⟨v_times, rfl, h⟩ := h
  change t_doubled_tile K E _ [some v_times, none, none] H
  unfold t_doubled_tile
  obtain ⟨F, z_times, e0, rfl, h⟩ := h
  unfold m_doubled_tile at h
  dl_open
  with_reducible refine DK.st_if ?_
  dl_open
  dl_open
  dl_open
  refine brP h (fun c1 h => ?_) (fun c1 h => ?_)
  · dl_open
    exact h.elim
  · dl_open
    dl_open
    refine newL (by simp) (F := F) (by lcg_src) (ds := [Dat.int 1]) (by nest_cls) ?_
    intro u1 F1 H1 s1 r1
    have r1 : RD F1 ((eL Dat.int) ([1] : List Int)) u1 := r1
    dl_open
    refine newL (by simp) (F := F1) (by lcg_src) (ds := [(eL Dat.int) ([1] : List Int)]) (by nest_cls) ?_
    intro u2 F2 H2 s2 r2
    have r2 : RD F2 ((eL (eL Dat.int)) ([([1] : List Int)] : List (List Int))) u2 := r2
    dl_open
    dl_open
    with_reducible refine cutF h (fun (s : (List (List Int))) σ' H' => ∃ F', ∃ (o_1 : Option V) (v_0 : V), Stp [] F2 H2 F' H' ∧ RD F' ((eL (eL Dat.int)) s) v_0 ∧ σ' = [some (V.int z_times), some v_0, o_1]) ?_ ?_
    · intro nx1 kk1 h
      refine st_for ?_
      dl_open
      dl_open
      obtain ⟨g1, h⟩ := h.g
      refine fr_R1 g1 h (fun (s : (List (List Int))) σ' H' => ∃ F', ∃ (o_1 : Option V) (v_0 : V), Stp [] F2 H2 F' H' ∧ RD F' ((eL (eL Dat.int)) s) v_0 ∧ σ' = [some (V.int z_times), some v_0, o_1]) ⟨F2, _, _, by kas_types, by kqd_all, rfl⟩ ?_ kk1
      rintro y1 rest1 x1 σ_ H3 ⟨F3, o_1, u4, s3, r4, rfl⟩ h
      try dsimp only at h
      dl_open
      dl_open
      refine ⟨_, rfl, F3, x1, by lcg_src, (by kqd_all), h.b.mono ?_⟩
      intro x2 h F4 H4 s4 L1 w1 n1 o1 r5
      obtain ⟨F5, s5, r6⟩ := own_fz (F := F4) s4.inn o1 r5
      dl_open
      dl_open
      exact ⟨x2, ⟨F5, _, _, by kas_types, by kqd_all, rfl⟩, h⟩
    · rintro x3 σ_ H5 ⟨F6, o_2, u6, s6, r7, rfl⟩ h
      try dsimp only at h
      dl_open
      dl_open
      refine st_lenM (f := (eL Dat.int)) (F := F6) (by lcg_src) (by kqd_all) ?_
      dl_open
      refine st_lenM (f := (eL Dat.int)) (F := F6) (by lcg_src) (by kqd_all) ?_
      dl_open
      obtain ⟨g2, h⟩ := h.g
      refine st_mul (mulOk.c g2) ?_
      dl_open
      refine sm_make (F := F6) (by lcg_src) ?_
      intro L2 dx1 F7 H6 s7 n2 o2
      refine ⟨_, _, _, rfl, F7, false, false, L2, dx1, ((x3.length : Int) * (x3.length : Int)), x3, by lcg_src, rfl, by kat_tups, rfl, (show RD F7 ((eL (eL Dat.int)) x3) _ by kqd_all), h.b.mono ?_⟩
      intro x4 h w2 F8 H7 s8 o3 r8
      refine ⟨rfl, ?_⟩
      obtain ⟨F9, s9, r9⟩ := own_fzI (nms := fs_Tile) s8.inn o3 r8
      have r9 : RD F9 ((e_Tile K) x4) (V.ref L2) := r9
      dl_open
      exact h F9 H7 (by kas_types) _ (show RD F9 ((e_Tile K) x4) (V.ref L2) by kqd_all)
theorem ok_doubled_tile (T : TX K mg) (c_doubled_once : CalOk P w K mg base "doubled_once" 1 (["rows"] : List Str) (sp_doubled_once K)) (m_Tile : MakOk P w K mg base "Tile" 2 (["self", "count", "rows"] : List Str) (sp_Tile_init K)) : CalOk P w K mg base "doubled_tile" 4 (["times"] : List Str) (sp_doubled_tile K) :=
  T.cal 4 11 (d := d_doubled_tile) rfl rfl rfl rfl rfl sc_doubled_tile (len_doubled_tile) (fun _ _ _ _ _ _ _ us hl => match us, hl with | [_], _ => rfl) (fun cdv A outer s H vs Q E hr h => ⟨t_doubled_tile K E, (by exact (pss_cons (ps_if (pt_cmpR op_lt (pv 0) pe_int (nomark _)) (pss_one (ps_raiseC rfl (takes_of rfl rfl rfl rfl) (T.exc 2) (T.glo 3))) pss_nil)
  (pss_cons (ps_set (i := 1) sc_doubled_tile.nd rfl (by first | exact Or.inl rfl | exact Or.inr rfl) (pe_lst (pa_cons (pe_lst (pa_cons pe_int pa_nil)) pa_nil)))
  (pss_cons (ps_for (passes_of rfl) rfl (pi_range1 rfl (T.free 5) (pa_cons (pv 0) pa_nil)) (pg_name (i := 2) sc_doubled_tile.nd rfl (by first | exact Or.inl rfl | exact Or.inr rfl)) (pss_one (ps_set (i := 1) sc_doubled_tile.nd rfl (by first | exact Or.inl rfl | exact Or.inr rfl) (pe_callC c_doubled_once (hr.mono (by decide)) rfl (passes_call (takes_of rfl rfl rfl rfl) (fun _ _ _ _ h => h)) (pa_cons (pv 1) pa_nil)))))
  (pss_one (ps_ret (pe_makeC m_Tile (hr.mono (by decide)) rfl (passes_call (takes_of rfl rfl rfl rfl) (fun _ _ _ _ h => h)) (pa_cons (pe_op op_mulU (pe_callB call_lenU (by rfl) (T.free 0) (by decide +kernel) (pa_cons (pv 1) pa_nil)) (pe_callB call_lenU (by rfl) (T.free 0) (by decide +kernel) (pa_cons (pv 1) pa_nil))) (pa_cons (pv 1) pa_nil))))))))), pure_doubled_tile T vs H Q E h⟩)
end
end Dot
end
section
local macro_rules | `(tactic| lcg_src) => `(tactic| first | with_reducible assumption | with_reducible (refine' DK.Stp.inn ?si; (case si => assumption)) | with_reducible (refine' DK.Stp.pre ?sp; (case sp => assumption)))
local macro_rules | `(tactic| k_clsL) => `(tactic| first | with_reducible assumption | ((with_reducible refine' Ne.symm ?ny); (case ny => assumption)) | (refine' DK.Own.ne ?ah ?an; (case an => with_reducible assumption); (case ah => kat_tups)) | (refine' Ne.symm (DK.Own.ne ?bh ?bn); (case bn => with_reducible assumption); (case bh => kat_tups)))
local macro_rules | `(tactic| k_offL) => `(tactic| first | with_reducible exact DK.nm_nil | ((with_reducible refine DK.nm_cons ?mh ?mt); (case mh => k_clsL); (case mt => k_offL)) | with_reducible assumption)
local macro_rules | `(tactic| kat_tups) => `(tactic| first | with_reducible assumption | ((with_reducible refine' DK.Stp.keep ?ks ?kn ?kh); (case ks => assumption); (case kh => kat_tups); (case kn => k_offL)))
local macro_rules | `(tactic| k_subL) => `(tactic| first | with_reducible assumption | ((with_reducible refine' DK.Stp.back ?kv ?kb); (case kv => assumption); (case kb => k_subL)))
local macro_rules | `(tactic| kqd_all) => `(tactic| first | with_reducible assumption | with_reducible exact DK.RD.int_ | with_reducible exact DK.RD.bl_ | with_reducible exact DK.RD.str_ | with_reducible exact DK.RD.non_ | ((with_reducible refine' DK.Stp.up ?kv ?ku); (case kv => assumption); (case ku => kqd_all)))
local macro_rules | `(tactic| nest_cls) => `(tactic| first | with_reducible assumption | with_reducible exact DK.RDs.nil | ((with_reducible refine' DK.RDs.cons ?rh ?rt); (case rh => kqd_all); (case rt => nest_cls)) | with_reducible exact DK.RDs.of_ints _ | ((with_reducible refine' DK.Stp.ups ?kv ?ks); (case kv => assumption); (case ks => nest_cls)))
local macro_rules | `(tactic| lcg_off) => `(tactic| first | with_reducible exact DK.sub_nil | ((with_reducible refine' DK.sub_in ?fi ?ft); (case fi => first | exact List.mem_cons_self | exact List.mem_cons_of_mem _ List.mem_cons_self); (case ft => lcg_off)) | ((with_reducible refine DK.sub_new ?fn ?ft); (case fn => k_subL); (case ft => lcg_off)))
local macro_rules | `(tactic| kas_types) => `(tactic| first | with_reducible assumption | ((with_reducible refine DK.Stp.refl ?_); lcg_src) | ((with_reducible refine' DK.Stp.trans ?sa ?sm ?sb); (case sm => assumption); (case sa => kas_types); (case sb => lcg_off)))
local macro_rules | `(tactic| ktu_offI) => `(tactic| first | with_reducible assumption | ((with_reducible refine' DK.Scr.up ?kv ?kl); (case kv => assumption); (case kl => ktu_offI)))
local macro_rules | `(tactic| k_allIn) => `(tactic| first | with_reducible assumption | omega | decide | exact Int.emod_nonneg _ (by omega) | exact Int.emod_lt_of_pos _ (by omega))
local macro_rules | `(tactic| k_memK) => `(tactic| (simp only [L2.wipe, List.set_cons_succ, List.set_cons_zero]; exact rfl))
local macro_rules | `(tactic| kp_flats) => `(tactic| first
  | ((with_reducible refine DK.st_var (v := ?vv) ?hv ?kv); (case hv => exact rfl))
  | ((with_reducible refine DK.st_gname (σ' := ?sg) ?hg ?kg); (case hg => k_memK))
  | with_reducible refine DK.st_seq ?_
  | with_reducible refine DK.st_c ?_
  | with_reducible refine DK.st_op ?_
  | with_reducible refine DK.st_cb ?_
  | with_reducible refine DK.st_cons ?_
  | with_reducible refine DK.st_nil ?_
  | with_reducible refine DK.st_asg ?_
  | with_reducible refine DK.st_test ?_
  | with_reducible refine DK.st_B ?_
  | with_reducible refine DK.st_exb ?_
  | with_reducible refine DK.st_exi ?_
  | with_reducible refine DK.st_add ?_
  | with_reducible refine DK.st_I0 ?_
  | with_reducible refine DK.st_eqI ?_
  | with_reducible refine DK.st_neI ?_
  | with_reducible refine DK.br_t ?_
  | with_reducible refine DK.br_f ?_
  | with_reducible refine DK.br_nt ?_
  | with_reducible refine DK.br_nf ?_
  | with_reducible refine DK.st_call ?_
  | with_reducible refine DK.st_make ?_
  | with_reducible refine DK.st_fld ?_
  | with_reducible refine DK.st_drop ?_
  | with_reducible refine DK.st_next ?_
  | with_reducible refine DK.st_bm ?_
  | with_reducible refine DK.st_bm0 ?_
  | with_reducible refine DK.st_un ?_
  | with_reducible refine DK.st_rU ?_
  | with_reducible refine DK.st_not ?_
  | with_reducible refine DK.st_notV ?_
  | with_reducible refine DK.st_tup ?_
  | with_reducible refine DK.st_lst ?_
  | with_reducible refine DK.st_gsub ?_
  | with_reducible refine DK.st_rng1 ?_
  | with_reducible refine DK.st_rng2 ?_
  | with_reducible refine DK.st_rng3 ?_
  | with_reducible refine DK.st_gcons ?_
  | with_reducible refine DK.st_gnil ?_
  | with_reducible refine DK.st_ret ?_
  | with_reducible refine DK.st_retN ?_
  | with_reducible refine DK.st_yes ?_
  | with_reducible refine DK.st_sfld ?_
  | with_reducible refine DK.st_sl ?_
  | with_reducible refine DK.st_nopart ?_
  | with_reducible refine DK.st_part ?_)
local macro_rules | `(tactic| dl_open) => `(tactic| repeat kp_flats)
namespace Dot
open PySem PySem.Spec PyProof.Rows L2 DK
def m_law_squares (z_rows : (List (List Int))) (z_side : Int) (z_level : Int) : Rs ((List Int)) :=
Rs.thn (grd (rngSOk 0 (z_rows.length : Int) z_side = true) <| forR (R := (List Int)) (fun (x1 : (List Int)) (y1 : Int) =>
Rs.thn (grd (rngSOk 0 (z_rows.length : Int) z_side = true) <| forR (R := (List Int)) (fun (x2 : (List Int)) (y2 : Int) =>
Rs.thn (forR (R := (List Int)) (fun (x4 : Int) (y3 : (List Int)) =>
grd ((cutL y3 (some y2) (some (y2 + z_side))).length ≤ 1000000) <| (mapR (fun (y4 : Int) =>
 if y4 ≤ z_level then (.ok (some y4)) else (.ok none)) (cutL y3 (some y2) (some (y2 + z_side)))).bnd fun x5 =>
.ok (.nx (x4 + (x5.length : Int)))) (cutL z_rows (some y1) (some (y1 + z_side))) 0) (fun x6 =>
grd (x2.length < 1000000) <| .ok (.nx (x2 ++ [x6]))) (fun r => .ok (.rt r))) (rngS 0 (z_rows.length : Int) z_side) x1) (fun x7 =>
.ok (.nx x7)) (fun r => .ok (.rt r))) (rngS 0 (z_rows.length : Int) z_side) ([] : List Int)) (fun x8 =>
.ok (x8)) (fun r => .ok r)
def sp_law_squares (K : PySem.W.Frag) : Sp := fun vs H Q E => ∃ (v_rows v_side v_level : V), vs = [v_rows, v_side, v_level] ∧ (∃ (F : Hp) (z_rows : (List (List Int))) (z_side : Int) (z_level : Int), Same F H ∧ RD F ((eT (eT Dat.int)) z_rows) v_rows ∧ v_side = (V.int z_side) ∧ v_level = (V.int z_level) ∧ Post (m_law_squares z_rows z_side z_level) (fun r => ∀ F' H', Stp [] F H F' H' → ∀ L vs, Fre H L → Own F' H' L (.lst vs) → RDs F' (List.map Dat.int r) vs → Q (.ref L) H') (fun _ _ => False))
theorem len_law_squares {K : PySem.W.Frag} : ∀ vs H Q E, sp_law_squares K vs H Q E → vs.length = ((["_law_rows", "_law_side", "_law_level"] : List Str)).length := fun vs H Q E h => by
  obtain ⟨_, _, _, rfl, _⟩ := h
  rfl
def t_law_squares (K : PySem.W.Frag) (E : XK) : TS :=
  (tSeq (tAsg (tLst tNil) (gName 3))
  (tSeq (tFor (iRng3 (tCons (tC (.int 0)) (tCons (tCB (rLenU K) (tCons (tVar 0) tNil)) (tCons (tVar 1) tNil)))) (gName 4) (tFor (iRng3 (tCons (tC (.int 0)) (tCons (tCB (rLenU K) (tCons (tVar 0) tNil)) (tCons (tVar 1) tNil)))) (gName 5) (tSeq (tAsg (tC (.int 0)) (gName 6))
  (tSeq (tFor (iSeq K (tSl (rSlU K) (tVar 0) (tPart (tVar 4)) (tPart (tOp (rAddU K) (tVar 4) (tVar 1))))) (gName 7) (tAsg (tOp (rAddU K) (tVar 6) (tCB (rLenU K) (tCons (tLc (iSeq K (tSl (rSlU K) (tVar 7) (tPart (tVar 5)) (tPart (tOp (rAddU K) (tVar 5) (tVar 1))))) (gName 8) (tTest (tOp rLeI (tVar 8) (tVar 2))) (tVar 8) [8]) tNil))) (gName 6)))
  (tDrop (tBM K "list" rAppend (tVar 3) (tCons (tVar 6) tNil)))))))
  (tRet (tVar 3))))
section
variable {P : Program} {w : World} {K : PySem.W.Frag} {mg : Str → Option Value} {base : Heap}
theorem pure_law_squares (T : TX K mg) (vs : List V) (H : Hp) (Q : VK) (E : XK) (h : sp_law_squares K vs H Q E) : t_law_squares K E { nx := fun _ H' => Q .non H', rt := Q } (start n_law_squares vs) H := by
  obtain ⟨v_rows, v_side, v_level, rfl, h⟩ := h
  change t_law_squares K E _ [some v_rows, some v_side, some v_level, none, none, none, none, none, none] H
  unfold t_law_squares
  obtain ⟨F, z_rows, z_side, z_level, e0, hr1, rfl, rfl, h⟩ := h
  unfold m_law_squares at h
  dl_open
  refine newO (by simp) (F := F) (by lcg_src) ?_
  intro L1 F1 H1 s1 n1 o1
  have r1 : RDs F1 (List.map Dat.int ([] : List Int)) [] := (show RDs F1 [] [] by nest_cls)
  dl_open
  dl_open
  with_reducible refine cutF h (fun (s : (List Int)) σ' H' => ∃ F', ∃ (o_1 : Option V) (o_2 : Option V) (o_3 : Option V) (o_4 : Option V) (w_0 : List V), Stp [L1] F1 H1 F' H' ∧ Own F' H' L1 (.lst w_0) ∧ RDs F' (List.map Dat.int s) w_0 ∧ σ' = [some v_rows, some (V.int z_side), some (V.int z_level), some (V.ref L1), o_4, o_1, o_2, o_3, none]) ?_ ?_
  · intro nx1 kk1 h
    refine st_for ?_
    dl_open
    dl_open
    refine st_lenMT (f := (eT Dat.int)) (F := F1) (by lcg_src) (by kqd_all) ?_
    dl_open
    obtain ⟨g1, h⟩ := h.g
    refine fr_R3 g1 h (fun (s : (List Int)) σ' H' => ∃ F', ∃ (o_1 : Option V) (o_2 : Option V) (o_3 : Option V) (o_4 : Option V) (w_0 : List V), Stp [L1] F1 H1 F' H' ∧ Own F' H' L1 (.lst w_0) ∧ RDs F' (List.map Dat.int s) w_0 ∧ σ' = [some v_rows, some (V.int z_side), some (V.int z_level), some (V.ref L1), o_4, o_1, o_2, o_3, none]) ⟨F1, _, _, _, _, _, by kas_types, by kat_tups, by nest_cls, rfl⟩ ?_ kk1
    rintro y1 rest1 x1 σ_ H2 ⟨F2, o_1, o_2, o_3, o_4, w1, s2, o2, r3, rfl⟩ h
    try dsimp only at h
    dl_open
    dl_open
    with_reducible refine cutF h (fun (s : (List Int)) σ' H' => ∃ F', ∃ (o_0 : Option V) (o_1 : Option V) (o_3 : Option V) (w_0 : List V), Stp [L1] F2 H2 F' H' ∧ Own F' H' L1 (.lst w_0) ∧ RDs F' (List.map Dat.int s) w_0 ∧ σ' = [some v_rows, some (V.int z_side), some (V.int z_level), some (V.ref L1), some (V.int y1), o_3, o_0, o_1, none]) ?_ ?_
    · intro nx2 kk2 h
      refine st_for ?_
      dl_open
      dl_open
      refine st_lenMT (f := (eT Dat.int)) (F := F2) (by lcg_src) (by kqd_all) ?_
      dl_open
      obtain ⟨g2, h⟩ := h.g
      refine fr_R3 g2 h (fun (s : (List Int)) σ' H' => ∃ F', ∃ (o_0 : Option V) (o_1 : Option V) (o_3 : Option V) (w_0 : List V), Stp [L1] F2 H2 F' H' ∧ Own F' H' L1 (.lst w_0) ∧ RDs F' (List.map Dat.int s) w_0 ∧ σ' = [some v_rows, some (V.int z_side), some (V.int z_level), some (V.ref L1), some (V.int y1), o_3, o_0, o_1, none]) ⟨F2, _, _, _, _, by kas_types, by kat_tups, by nest_cls, rfl⟩ ?_ kk2
      rintro y2 rest2 x2 σ_ H3 ⟨F3, o_5, o_6, o_7, w2, s3, o3, r5, rfl⟩ h
      try dsimp only at h
      dl_open
      dl_open
      dl_open
      with_reducible refine cutF h (fun (s : Int) σ' H' => ∃ F', ∃ (o_1 : Option V), Stp [] F3 H3 F' H' ∧ σ' = [some v_rows, some (V.int z_side), some (V.int z_level), some (V.ref L1), some (V.int y1), some (V.int y2), some (V.int s), o_1, none]) ?_ ?_
      · intro nx3 kk3 h
        refine st_for ?_
        dl_open
        refine st_iseqT ?_
        dl_open
        dl_open
        dl_open
        refine sm_slT (e := (eT Dat.int)) (F := F3) (by lcg_src) (by kqd_all) ?_
        intro u3 F4 H4 s4 r6
        dl_open
        refine fr_T (e := (eT Dat.int)) (F := F4) (by kqd_all) (by lcg_src) h (fun (s : Int) σ' H' => ∃ F', ∃ (o_1 : Option V), Stp [] F4 H4 F' H' ∧ σ' = [some v_rows, some (V.int z_side), some (V.int z_level), some (V.ref L1), some (V.int y1), some (V.int y2), some (V.int s), o_1, none]) ⟨F4, _, by kas_types, rfl⟩ (by rintro _ _ _ ⟨_, _, t, _⟩; exact t.ex.trans t.inn) ?_ (by rintro x3 σ_ H5 ⟨F5, o_8, s5, rfl⟩ h; exact kk3 x3 _ _ ⟨F5, _, by kas_types, rfl⟩ h)
        rintro y3 rest3 x4 u4 σ_ H6 r7 ⟨F6, o_9, s6, rfl⟩ h
        have r7 : RD F4 ((eT Dat.int) y3) u4 := r7
        try dsimp only at h
        dl_open
        dl_open
        refine st_lc ?_
        dl_open
        refine st_iseqT ?_
        dl_open
        dl_open
        dl_open
        refine sm_slT (e := Dat.int) (F := F6) (by lcg_src) (by kqd_all) ?_
        intro u5 F7 H7 s7 r8
        dl_open
        obtain ⟨g3, h⟩ := h.g
        refine lc_T (e := Dat.int) (e2 := Dat.int) (F := F7) (by kqd_all) (by lcg_src) g3 h.b ?_ ?_
        · intro y4 u6 F8 H8 r9 s8 PN1 NY1 NN1 kY1 kN1 h
          cases (show u6 = (V.int y4) from r9)
          dl_open
          dl_open
          refine ⟨rfl, ?_⟩
          dl_open
          dl_open
          dl_open
          refine brP h (fun c1 h => ?_) (fun c1 h => ?_)
          · dl_open
            dl_open
            exact kY1 _ _ F8 H8 (by kas_types) (by kqd_all) h
          · exact kN1 F8 H8 (by kas_types) h
        intro L2 w3 x5 F9 H9 s9 n2 o4 r10 h
        obtain ⟨F10, s10, r11⟩ := own_fz (F := F9) s9.inn o4 r10
        dl_open
        refine st_lenM (f := Dat.int) (F := F10) (by lcg_src) (by kqd_all) ?_
        dl_open
        dl_open
        dl_open
        exact ⟨(x4 + (x5.length : Int)), ⟨F10, _, by kas_types, rfl⟩, h⟩
      · rintro x6 σ_ H10 ⟨F11, o_10, s11, rfl⟩ h
        try dsimp only at h
        dl_open
        refine ⟨ty_own (by kat_tups : Own F11 _ _ _), ?_⟩
        dl_open
        obtain ⟨g4, h⟩ := h.g
        refine sm_app (e := Dat.int) (x := x6) (F := F11) (by lcg_src) (by kat_tups) (by nest_cls) (by kqd_all) g4 ?_
        intro w4 F12 H11 s12 o5 r12
        dl_open
        dl_open
        exact ⟨(x2 ++ [x6]), ⟨F12, _, _, _, _, by kas_types, by kat_tups, by nest_cls, rfl⟩, h⟩
    · rintro x7 σ_ H12 ⟨F13, o_11, o_12, o_13, w5, s13, o6, r13, rfl⟩ h
      try dsimp only at h
      dl_open
      exact ⟨x7, ⟨F13, _, _, _, _, _, by kas_types, by kat_tups, by nest_cls, rfl⟩, h⟩
  · rintro x8 σ_ H13 ⟨F14, o_14, o_15, o_16, o_17, w6, s14, o7, r14, rfl⟩ h
    try dsimp only at h
    dl_open
    dl_open
    exact h F14 H13 (by kas_types) _ _ (by k_subL) (by kat_tups) (by nest_cls)
theorem ok_law_squares (T : TX K mg)  : CalOk P w K mg base "_law_squares" 1 (["_law_rows", "_law_side", "_law_level"] : List Str) (sp_law_squares K) :=
  T.cal 6 13 (d := d_law_squares) rfl rfl rfl rfl rfl sc_law_squares (len_law_squares) (fun _ _ _ _ _ _ _ us hl => match us, hl with | [_, _, _], _ => rfl) (fun cdv A outer s H vs Q E hr h => ⟨t_law_squares K E, (by exact (pss_cons (ps_set (i := 3) sc_law_squares.nd rfl (by first | exact Or.inl rfl | exact Or.inr rfl) (pe_lst pa_nil))
  (pss_cons (ps_for (passes_of rfl) rfl (pi_range3 rfl (T.free 5) (pa_cons pe_int (pa_cons (pe_callB call_lenU (by rfl) (T.free 0) (by decide +kernel) (pa_cons (pv 0) pa_nil)) (pa_cons (pv 1) pa_nil)))) (pg_name (i := 4) sc_law_squares.nd rfl (by first | exact Or.inl rfl | exact Or.inr rfl)) (pss_one (ps_for (passes_of rfl) rfl (pi_range3 rfl (T.free 5) (pa_cons pe_int (pa_cons (pe_callB call_lenU (by rfl) (T.free 0) (by decide +kernel) (pa_cons (pv 0) pa_nil)) (pa_cons (pv 1) pa_nil)))) (pg_name (i := 5) sc_law_squares.nd rfl (by first | exact Or.inl rfl | exact Or.inr rfl)) (pss_cons (ps_set (i := 6) sc_law_squares.nd rfl (by first | exact Or.inl rfl | exact Or.inr rfl) pe_int)
  (pss_cons (ps_for (passes_of rfl) rfl (pi_seq (pe_slice sl_U (pv 0) (po_some (pv 4)) (po_some (pe_op op_addU (pv 4) (pv 1))))) (pg_name (i := 7) sc_law_squares.nd rfl (by first | exact Or.inl rfl | exact Or.inr rfl)) (pss_one (ps_set (i := 6) sc_law_squares.nd rfl (by first | exact Or.inl rfl | exact Or.inr rfl) (pe_op op_addU (pv 6) (pe_callB call_lenU (by rfl) (T.free 0) (by decide +kernel) (pa_cons (pe_lc (own := [("_law_threshold", 8)]) (g := (gName 8)) (tt := (tTest (tOp rLeI (tVar 8) (tVar 2)))) (te := (tVar 8)) (by rfl) sc_law_squares.nd (pi_seq (pe_slice sl_U (pv 7) (po_some (pv 5)) (po_some (pe_op op_addU (pv 5) (pv 1))))) (blkOk_by (own := [("_law_threshold", 8)]) (by rfl)) (fun _ _ _ _ _ => (pg_name (i := 8) sc_law_squares.nd rfl (by first | exact Or.inl rfl | exact Or.inr rfl))) (fun _ _ _ _ _ => (pts_one (pt_cmpR op_le (pv 8) (pv 2) (nomark _)))) (fun _ _ _ _ _ => (pv 8))) pa_nil))))))
  (pss_one (ps_expr (pe_bm PySem.F.plainAttrs_list PySem.F.slot_list_append PySem.F.type_list_append mt_append (pv 3) (pa_cons (pv 6) pa_nil)))))))))
  (pss_one (ps_ret (pv 3)))))), pure_law_squares T vs H Q E h⟩)
end
end Dot
end
section
local macro_rules | `(tactic| lcg_src) => `(tactic| first | with_reducible assumption | with_reducible (refine' DK.Stp.inn ?si; (case si => assumption)) | with_reducible (refine' DK.Stp.pre ?sp; (case sp => assumption)))
local macro_rules | `(tactic| k_clsL) => `(tactic| first | with_reducible assumption | ((with_reducible refine' Ne.symm ?ny); (case ny => assumption)) | (refine' DK.Own.ne ?ah ?an; (case an => with_reducible assumption); (case ah => kat_tups)) | (refine' Ne.symm (DK.Own.ne ?bh ?bn); (case bn => with_reducible assumption); (case bh => kat_tups)))
local macro_rules | `(tactic| k_offL) => `(tactic| first | with_reducible exact DK.nm_nil | ((with_reducible refine DK.nm_cons ?mh ?mt); (case mh => k_clsL); (case mt => k_offL)) | with_reducible assumption)
local macro_rules | `(tactic| kat_tups) => `(tactic| first | with_reducible assumption | ((with_reducible refine' DK.Stp.keep ?ks ?kn ?kh); (case ks => assumption); (case kh => kat_tups); (case kn => k_offL)))
local macro_rules | `(tactic| k_subL) => `(tactic| first | with_reducible assumption | ((with_reducible refine' DK.Stp.back ?kv ?kb); (case kv => assumption); (case kb => k_subL)))
local macro_rules | `(tactic| kqd_all) => `(tactic| first | with_reducible assumption | with_reducible exact DK.RD.int_ | with_reducible exact DK.RD.bl_ | with_reducible exact DK.RD.str_ | with_reducible exact DK.RD.non_ | ((with_reducible refine' DK.Stp.up ?kv ?ku); (case kv => assumption); (case ku => kqd_all)))
local macro_rules | `(tactic| nest_cls) => `(tactic| first | with_reducible assumption | with_reducible exact DK.RDs.nil | ((with_reducible refine' DK.RDs.cons ?rh ?rt); (case rh => kqd_all); (case rt => nest_cls)) | with_reducible exact DK.RDs.of_ints _ | ((with_reducible refine' DK.Stp.ups ?kv ?ks); (case kv => assumption); (case ks => nest_cls)))
local macro_rules | `(tactic| lcg_off) => `(tactic| first | with_reducible exact DK.sub_nil | ((with_reducible refine' DK.sub_in ?fi ?ft); (case fi => first | exact List.mem_cons_self | exact List.mem_cons_of_mem _ List.mem_cons_self); (case ft => lcg_off)) | ((with_reducible refine DK.sub_new ?fn ?ft); (case fn => k_subL); (case ft => lcg_off)))
local macro_rules | `(tactic| kas_types) => `(tactic| first | with_reducible assumption | ((with_reducible refine DK.Stp.refl ?_); lcg_src) | ((with_reducible refine' DK.Stp.trans ?sa ?sm ?sb); (case sm => assumption); (case sa => kas_types); (case sb => lcg_off)))
local macro_rules | `(tactic| ktu_offI) => `(tactic| first | with_reducible assumption | ((with_reducible refine' DK.Scr.up ?kv ?kl); (case kv => assumption); (case kl => ktu_offI)))
local macro_rules | `(tactic| k_allIn) => `(tactic| first | with_reducible assumption | omega | decide | exact Int.emod_nonneg _ (by omega) | exact Int.emod_lt_of_pos _ (by omega))
local macro_rules | `(tactic| k_memK) => `(tactic| (simp only [L2.wipe, List.set_cons_succ, List.set_cons_zero]; exact rfl))
local macro_rules | `(tactic| kp_flats) => `(tactic| first
  | ((with_reducible refine DK.st_var (v := ?vv) ?hv ?kv); (case hv => exact rfl))
  | ((with_reducible refine DK.st_gname (σ' := ?sg) ?hg ?kg); (case hg => k_memK))
  | with_reducible refine DK.st_seq ?_
  | with_reducible refine DK.st_c ?_
  | with_reducible refine DK.st_op ?_
  | with_reducible refine DK.st_cb ?_
  | with_reducible refine DK.st_cons ?_
  | with_reducible refine DK.st_nil ?_
  | with_reducible refine DK.st_asg ?_
  | with_reducible refine DK.st_test ?_
  | with_reducible refine DK.st_B ?_
  | with_reducible refine DK.st_exb ?_
  | with_reducible refine DK.st_exi ?_
  | with_reducible refine DK.st_add ?_
  | with_reducible refine DK.st_I0 ?_
  | with_reducible refine DK.st_eqI ?_
  | with_reducible refine DK.st_neI ?_
  | with_reducible refine DK.br_t ?_
  | with_reducible refine DK.br_f ?_
  | with_reducible refine DK.br_nt ?_
  | with_reducible refine DK.br_nf ?_
  | with_reducible refine DK.st_call ?_
  | with_reducible refine DK.st_make ?_
  | with_reducible refine DK.st_fld ?_
  | with_reducible refine DK.st_drop ?_
  | with_reducible refine DK.st_next ?_
  | with_reducible refine DK.st_bm ?_
  | with_reducible refine DK.st_bm0 ?_
  | with_reducible refine DK.st_un ?_
  | with_reducible refine DK.st_rU ?_
  | with_reducible refine DK.st_not ?_
  | with_reducible refine DK.st_notV ?_
  | with_reducible refine DK.st_tup ?_
  | with_reducible refine DK.st_lst ?_
  | with_reducible refine DK.st_gsub ?_
  | with_reducible refine DK.st_rng1 ?_
  | with_reducible refine DK.st_rng2 ?_
  | with_reducible refine DK.st_rng3 ?_
  | with_reducible refine DK.st_gcons ?_
  | with_reducible refine DK.st_gnil ?_
  | with_reducible refine DK.st_ret ?_
  | with_reducible refine DK.st_retN ?_
  | with_reducible refine DK.st_yes ?_
  | with_reducible refine DK.st_sfld ?_
  | with_reducible refine DK.st_sl ?_
  | with_reducible refine DK.st_nopart ?_
  | with_reducible refine DK.st_part ?_)
local macro_rules | `(tactic| dl_open) => `(tactic| repeat kp_flats)
namespace Dot
open PySem PySem.Spec PyProof.Rows L2 DK
def m_law_even (z_tile : (Int × (List (List Int)))) (z_level : Int) : Rs (Bool) :=
Rs.thn (whileR (R := Bool) (fun (x1 : Int) => .ok (decide (x1 ≤ (z_tile.2.length : Int)))) (fun (x1 : Int) =>
(m_law_squares z_tile.2 x1 z_level).bnd fun x2 =>
grd (divOk (x2.length : Int) = true) <| Rs.thn (forR (R := Bool) (fun (_ : Unit) (y1 : Int) =>
Rs.bnd (if y1 < ((z_level / (x2.length : Int) : Int), (z_level % (x2.length : Int) : Int)).1 then (.ok true) else (.ok (decide ((((z_level / (x2.length : Int) : Int), (z_level % (x2.length : Int) : Int)).1 + (if (decide (0 < ((z_level / (x2.length : Int) : Int), (z_level % (x2.length : Int) : Int)).2)) = true then 1 else 0)) < y1)))) fun b1 =>
if b1 = true then (.ok (.rt false)) else (.ok (.nx ()))) x2 ()) (fun _ =>
.ok (.nx (2 * x1))) (fun r => .ok (.rt r))) 1000000 1) (fun x3 =>
.ok (true)) (fun r => .ok r)
def sp_law_even (K : PySem.W.Frag) : Sp := fun vs H Q E => ∃ (v_tile v_level : V), vs = [v_tile, v_level] ∧ (∃ (F : Hp) (z_tile : (Int × (List (List Int)))) (z_level : Int), Same F H ∧ RD F ((e_Tile K) z_tile) v_tile ∧ v_level = (V.int z_level) ∧ Post (m_law_even z_tile z_level) (fun r => ∀ F' H', Stp [] F H F' H' → Q (V.bl r) H') (fun _ _ => False))
theorem len_law_even {K : PySem.W.Frag} : ∀ vs H Q E, sp_law_even K vs H Q E → vs.length = ((["_law_tile", "_law_level"] : List Str)).length := fun vs H Q E h => by
  obtain ⟨_, _, rfl, _⟩ := h
  rfl
def t_law_even (K : PySem.W.Frag) (E : XK) : TS :=
  (tSeq (tAsg (tC (.int 1)) (gName 2))
  (tSeq (tWhile (tTest (tOp rLeI (tVar 2) (tCB (rLenU K) (tCons (tFld K (tVar 0) "rows") tNil)))) (tSeq (tAsg (tCall (sp_law_squares K) [] E (tCons (tFld K (tVar 0) "rows") (tCons (tVar 2) (tCons (tVar 1) tNil)))) (gName 3))
  (tSeq (tAsg (tCB rDivmodU (tCons (tVar 1) (tCons (tCB (rLenU K) (tCons (tVar 3) tNil)) tNil))) (gTupU K 2 (gCons (gName 4) (gCons (gName 5) gNil))))
  (tSeq (tFor (iSeq K (tVar 3)) (gName 6) (tIfS (tOr (tTest (tOp rLtI (tVar 6) (tVar 4))) (tTest (tOp rGtI (tVar 6) (tOp (rAddU K) (tVar 4) (tCB rInt1 (tCons (tOp rGtI (tVar 5) (tC (.int 0))) tNil)))))) (tRet (tC (.bl false))) tNext))
  (tAsg (tOp rMulU (tC (.int 2)) (tVar 2)) (gName 2))))))
  (tRet (tC (.bl true)))))
section
variable {P : Program} {w : World} {K : PySem.W.Frag} {mg : Str → Option Value} {base : Heap}
theorem pure_law_even (T : TX K mg) (vs : List V) (H : Hp) (Q : VK) (E : XK) (h : sp_law_even K vs H Q E) : t_law_even K E { nx := fun _ H' => Q .non H', rt := Q } (start n_law_even vs) H := by
  obtain ⟨v_tile, v_level, rfl, h⟩ := h
  change t_law_even K E _ [some v_tile, some v_level, none, none, none, none, none] H
  unfold t_law_even
  obtain ⟨F, z_tile, z_level, e0, hr1, rfl, h⟩ := h
  unfold m_law_even at h
  dl_open
  dl_open
  with_reducible refine cutW h (fun (s : Int) σ' H' => ∃ F', ∃ (o_0 : Option V) (o_1 : Option V) (o_2 : Option V) (o_3 : Option V), Stp [] F H F' H' ∧ σ' = [some v_tile, some (V.int z_level), some (V.int s), o_0, o_1, o_2, o_3]) ?_ ?_
  · intro nx1 kk1 h
    refine wh_R h (fun (s : Int) σ' H' => ∃ F', ∃ (o_0 : Option V) (o_1 : Option V) (o_2 : Option V) (o_3 : Option V), Stp [] F H F' H' ∧ σ' = [some v_tile, some (V.int z_level), some (V.int s), o_0, o_1, o_2, o_3]) ⟨F, _, _, _, _, by kas_types, rfl⟩ ?_
    rintro n_ x1 σ_ H1 Nx_ QQ_ ⟨F1, o_1, o_2, o_3, o_4, s1, rfl⟩ kN1 kT1 kF1 h
    try dsimp only at h
    dl_open
    dl_open
    refine st_fldD (C := He.ga K "Tile") (F := F1) (n := 1) (d := (eT (eT Dat.int)) z_tile.2) (by lcg_src) (by kqd_all) (tx_cls_Tile T) (tx_noat_Tile_rows T) (by decide) (by decide) rfl ?_
    intro u1 r1
    have r1 : RD F1 ((eT (eT Dat.int)) z_tile.2) u1 := r1
    dl_open
    refine st_lenMT (f := (eT Dat.int)) (F := F1) (by lcg_src) (by kqd_all) ?_
    dl_open
    dl_open
    refine wh_d h (fun c1 h => kT1 _ ?_) (fun c1 h => kF1 _ (kk1 x1 _ _ ⟨F1, _, _, _, _, by kas_types, rfl⟩ h))
    dl_open
    dl_open
    refine st_fldD (C := He.ga K "Tile") (F := F1) (n := 1) (d := (eT (eT Dat.int)) z_tile.2) (by lcg_src) (by kqd_all) (tx_cls_Tile T) (tx_noat_Tile_rows T) (by decide) (by decide) rfl ?_
    intro u2 r2
    have r2 : RD F1 ((eT (eT Dat.int)) z_tile.2) u2 := r2
    dl_open
    refine ⟨_, _, _, rfl, F1, z_tile.2, x1, z_level, by lcg_src, (by kqd_all), rfl, rfl, h.b.mono ?_⟩
    intro x2 h F2 H2 s2 L1 w1 n1 o1 r3
    obtain ⟨F3, s3, r4⟩ := own_fz (F := F2) s2.inn o1 r3
    dl_open
    dl_open
    refine st_lenM (f := Dat.int) (F := F3) (by lcg_src) (by kqd_all) ?_
    dl_open
    obtain ⟨g1, h⟩ := h.g
    refine sm_divmod (F := F3) (by lcg_src) g1 ?_
    intro u4 F4 H3 s4 r5
    have r5 : RD F4 ((eP Dat.int Dat.int) ((z_level / (x2.length : Int) : Int), (z_level % (x2.length : Int) : Int))) u4 := r5
    dl_open
    refine sm_g2 (F := F4) (by lcg_src) (by kqd_all) ?_
    intro u5 u6 r6 r7
    cases (show u5 = (V.int ((z_level / (x2.length : Int) : Int), (z_level % (x2.length : Int) : Int)).1) from r6)
    cases (show u6 = (V.int ((z_level / (x2.length : Int) : Int), (z_level % (x2.length : Int) : Int)).2) from r7)
    dl_open
    dl_open
    with_reducible refine cutF h (fun (s : Unit) σ' H' => ∃ F', ∃ (o_0 : Option V), Stp [] F4 H3 F' H' ∧ σ' = [some v_tile, some (V.int z_level), some (V.int x1), some (V.ref L1), some (V.int ((z_level / (x2.length : Int) : Int), (z_level % (x2.length : Int) : Int)).1), some (V.int ((z_level / (x2.length : Int) : Int), (z_level % (x2.length : Int) : Int)).2), o_0]) ?_ ?_
    · intro nx2 kk2 h
      refine st_for ?_
      dl_open
      refine st_iseqL ?_
      dl_open
      dl_open
      refine fr_L (e := Dat.int) (F := F4) (by kqd_all) (by lcg_src) h (fun (s : Unit) σ' H' => ∃ F', ∃ (o_0 : Option V), Stp [] F4 H3 F' H' ∧ σ' = [some v_tile, some (V.int z_level), some (V.int x1), some (V.ref L1), some (V.int ((z_level / (x2.length : Int) : Int), (z_level % (x2.length : Int) : Int)).1), some (V.int ((z_level / (x2.length : Int) : Int), (z_level % (x2.length : Int) : Int)).2), o_0]) ⟨F4, _, by kas_types, rfl⟩ (by rintro _ _ _ ⟨_, _, t, _⟩; exact t.ex.trans t.inn) ?_ kk2
      rintro y1 rest1 _ u7 σ_ H4 r8 ⟨F5, o_5, s5, rfl⟩ h
      cases (show u7 = (V.int y1) from r8)
      try dsimp only at h
      dl_open
      dl_open
      with_reducible refine DK.st_if ?_
      dl_open
      dl_open
      refine cutT F5 H4 h (fun Qkk3 kk3 h => ?_) (fun b1 F6 H5 s6 h => ?_)
      · refine st_or ?_
        dl_open
        dl_open
        refine brP h (fun c2 h => ?_) (fun c2 h => ?_)
        · try dl_open
          exact kk3 _ F5 H4 (by kas_types) h
        · dl_open
          dl_open
          dl_open
          refine sm_intB ?_
          dl_open
          dl_open
          dl_open
          exact kk3 _ F5 H4 (by kas_types) h
      dl_open
      refine brB h (fun c3 h => ?_) (fun c3 h => ?_)
      · dl_open
        dl_open
        dl_open
        exact h F6 H5 (by kas_types)
      · dl_open
        dl_open
        exact ⟨(), ⟨F6, _, by kas_types, rfl⟩, h⟩
    · rintro _ σ_ H6 ⟨F7, o_6, s7, rfl⟩ h
      try dsimp only at h
      dl_open
      refine st_mul (mulL (by decide)) ?_
      dl_open
      dl_open
      exact kN1 (2 * x1) _ _ ⟨F7, _, _, _, _, by kas_types, rfl⟩ h
  · rintro x3 σ_ H7 ⟨F8, o_7, o_8, o_9, o_10, s8, rfl⟩ h
    try dsimp only at h
    dl_open
    dl_open
    exact h F8 H7 (by kas_types)
theorem ok_law_even (T : TX K mg) (c_law_squares : CalOk P w K mg base "_law_squares" 1 (["_law_rows", "_law_side", "_law_level"] : List Str) (sp_law_squares K)) : CalOk P w K mg base "_law_even" 2 (["_law_tile", "_law_level"] : List Str) (sp_law_even K) :=
  T.cal 7 14 (d := d_law_even) rfl rfl rfl rfl rfl sc_law_even (len_law_even) (fun _ _ _ _ _ _ _ us hl => match us, hl with | [_, _], _ => rfl) (fun cdv A outer s H vs Q E hr h => ⟨t_law_even K E, (by exact (pss_cons (ps_set (i := 2) sc_law_even.nd rfl (by first | exact Or.inl rfl | exact Or.inr rfl) pe_int)
  (pss_cons (ps_while (passes_of rfl) (pt_cmpR op_le (pv 2) (pe_callB call_lenU (by rfl) (T.free 0) (by decide +kernel) (pa_cons (pe_fld (pv 0) rfl) pa_nil)) (nomark _)) (pss_cons (ps_set (i := 3) sc_law_even.nd rfl (by first | exact Or.inl rfl | exact Or.inr rfl) (pe_callC c_law_squares (hr.mono (by decide)) rfl (passes_call (takes_of rfl rfl rfl rfl) (fun _ _ _ _ h => h)) (pa_cons (pe_fld (pv 0) rfl) (pa_cons (pv 2) (pa_cons (pv 1) pa_nil)))))
  (pss_cons (ps_asg (pe_callB call_divmodU (by rfl) (T.free 6) (by decide +kernel) (pa_cons (pv 1) (pa_cons (pe_callB call_lenU (by rfl) (T.free 0) (by decide +kernel) (pa_cons (pv 3) pa_nil)) pa_nil))) (pg_tupU (by rfl) (pgs_cons (pg_name (i := 4) sc_law_even.nd rfl (by first | exact Or.inl rfl | exact Or.inr rfl)) (pgs_cons (pg_name (i := 5) sc_law_even.nd rfl (by first | exact Or.inl rfl | exact Or.inr rfl)) pgs_nil))))
  (pss_cons (ps_for (passes_of rfl) rfl (pi_seq (pv 3)) (pg_name (i := 6) sc_law_even.nd rfl (by first | exact Or.inl rfl | exact Or.inr rfl)) (pss_one (ps_if (PW.pt (pw_or (pt_cmpR op_lt (pv 6) (pv 4) (nomark _)) (pw_or1 (pt_cmpR op_gt (pv 6) (pe_op op_addU (pv 4) (pe_callTy call_int1 (by rfl) (T.free 7) (by decide +kernel) (pa_cons (pe_cmpR op_gt (pv 5) pe_int (nomark _)) pa_nil))) (nomark _))))) (pss_one (ps_ret pe_bl)) pss_nil)))
  (pss_one (ps_set (i := 2) sc_law_even.nd rfl (by first | exact Or.inl rfl | exact Or.inr rfl) (pe_op op_mulU pe_int (pv 2))))))))
  (pss_one (ps_ret pe_bl))))), pure_law_even T vs H Q E h⟩)
end
end Dot
end
section
local macro_rules | `(tactic| lcg_src) => `(tactic| first | with_reducible assumption | with_reducible (refine' DK.Stp.inn ?si; (case si => assumption)) | with_reducible (refine' DK.Stp.pre ?sp; (case sp => assumption)))
local macro_rules | `(tactic| k_clsL) => `(tactic| first | with_reducible assumption | ((with_reducible refine' Ne.symm ?ny); (case ny => assumption)) | (refine' DK.Own.ne ?ah ?an; (case an => with_reducible assumption); (case ah => kat_tups)) | (refine' Ne.symm (DK.Own.ne ?bh ?bn); (case bn => with_reducible assumption); (case bh => kat_tups)))
local macro_rules | `(tactic| k_offL) => `(tactic| first | with_reducible exact DK.nm_nil | ((with_reducible refine DK.nm_cons ?mh ?mt); (case mh => k_clsL); (case mt => k_offL)) | with_reducible assumption)
local macro_rules | `(tactic| kat_tups) => `(tactic| first | with_reducible assumption | ((with_reducible refine' DK.Stp.keep ?ks ?kn ?kh); (case ks => assumption); (case kh => kat_tups); (case kn => k_offL)))
local macro_rules | `(tactic| k_subL) => `(tactic| first | with_reducible assumption | ((with_reducible refine' DK.Stp.back ?kv ?kb); (case kv => assumption); (case kb => k_subL)))
local macro_rules | `(tactic| kqd_all) => `(tactic| first | with_reducible assumption | with_reducible exact DK.RD.int_ | with_reducible exact DK.RD.bl_ | with_reducible exact DK.RD.str_ | with_reducible exact DK.RD.non_ | ((with_reducible refine' DK.Stp.up ?kv ?ku); (case kv => assumption); (case ku => kqd_all)))
local macro_rules | `(tactic| nest_cls) => `(tactic| first | with_reducible assumption | with_reducible exact DK.RDs.nil | ((with_reducible refine' DK.RDs.cons ?rh ?rt); (case rh => kqd_all); (case rt => nest_cls)) | with_reducible exact DK.RDs.of_ints _ | ((with_reducible refine' DK.Stp.ups ?kv ?ks); (case kv => assumption); (case ks => nest_cls)))
local macro_rules | `(tactic| lcg_off) => `(tactic| first | with_reducible exact DK.sub_nil | ((with_reducible refine' DK.sub_in ?fi ?ft); (case fi => first | exact List.mem_cons_self | exact List.mem_cons_of_mem _ List.mem_cons_self); (case ft => lcg_off)) | ((with_reducible refine DK.sub_new ?fn ?ft); (case fn => k_subL); (case ft => lcg_off)))
local macro_rules | `(tactic| kas_types) => `(tactic| first | with_reducible assumption | ((with_reducible refine DK.Stp.refl ?_); lcg_src) | ((with_reducible refine' DK.Stp.trans ?sa ?sm ?sb); (case sm => assumption); (case sa => kas_types); (case sb => lcg_off)))
local macro_rules | `(tactic| ktu_offI) => `(tactic| first | with_reducible assumption | ((with_reducible refine' DK.Scr.up ?kv ?kl); (case kv => assumption); (case kl => ktu_offI)))
local macro_rules | `(tactic| k_allIn) => `(tactic| first | with_reducible assumption | omega | decide | exact Int.emod_nonneg _ (by omega) | exact Int.emod_lt_of_pos _ (by omega))
local macro_rules | `(tactic| k_memK) => `(tactic| (simp only [L2.wipe, List.set_cons_succ, List.set_cons_zero]; exact rfl))
local macro_rules | `(tactic| kp_flats) => `(tactic| first
  | ((with_reducible refine DK.st_var (v := ?vv) ?hv ?kv); (case hv => exact rfl))
  | ((with_reducible refine DK.st_gname (σ' := ?sg) ?hg ?kg); (case hg => k_memK))
  | with_reducible refine DK.st_seq ?_
  | with_reducible refine DK.st_c ?_
  | with_reducible refine DK.st_op ?_
  | with_reducible refine DK.st_cb ?_
  | with_reducible refine DK.st_cons ?_
  | with_reducible refine DK.st_nil ?_
  | with_reducible refine DK.st_asg ?_
  | with_reducible refine DK.st_test ?_
  | with_reducible refine DK.st_B ?_
  | with_reducible refine DK.st_exb ?_
  | with_reducible refine DK.st_exi ?_
  | with_reducible refine DK.st_add ?_
  | with_reducible refine DK.st_I0 ?_
  | with_reducible refine DK.st_eqI ?_
  | with_reducible refine DK.st_neI ?_
  | with_reducible refine DK.br_t ?_
  | with_reducible refine DK.br_f ?_
  | with_reducible refine DK.br_nt ?_
  | with_reducible refine DK.br_nf ?_
  | with_reducible refine DK.st_call ?_
  | with_reducible refine DK.st_make ?_
  | with_reducible refine DK.st_fld ?_
  | with_reducible refine DK.st_drop ?_
  | with_reducible refine DK.st_next ?_
  | with_reducible refine DK.st_bm ?_
  | with_reducible refine DK.st_bm0 ?_
  | with_reducible refine DK.st_un ?_
  | with_reducible refine DK.st_rU ?_
  | with_reducible refine DK.st_not ?_
  | with_reducible refine DK.st_notV ?_
  | with_reducible refine DK.st_tup ?_
  | with_reducible refine DK.st_lst ?_
  | with_reducible refine DK.st_gsub ?_
  | with_reducible refine DK.st_rng1 ?_
  | with_reducible refine DK.st_rng2 ?_
  | with_reducible refine DK.st_rng3 ?_
  | with_reducible refine DK.st_gcons ?_
  | with_reducible refine DK.st_gnil ?_
  | with_reducible refine DK.st_ret ?_
  | with_reducible refine DK.st_retN ?_
  | with_reducible refine DK.st_yes ?_
  | with_reducible refine DK.st_sfld ?_
  | with_reducible refine DK.st_sl ?_
  | with_reducible refine DK.st_nopart ?_
  | with_reducible refine DK.st_part ?_)
local macro_rules | `(tactic| dl_open) => `(tactic| repeat kp_flats)
namespace Dot
open PySem PySem.Spec PyProof.Rows L2 DK
def m_level_of (z_tile : (Int × (List (List Int)))) (z_level : Int) : Rs ((List (Int × Int))) :=
Rs.thn (forR (R := (List (Int × Int))) (fun (x1 : (List (Int × Int))) (y1 : (Int × (List Int))) =>
Rs.thn (forR (R := (List (Int × Int))) (fun (x2 : (List (Int × Int))) (y2 : (Int × Int)) =>
Rs.thn ((if y2.2 ≤ z_level then (grd (x2.length < 1000000) <| .ok (.nx (x2 ++ [(y1.1, y2.1)]))) else (.ok (.nx x2)) : (Rs (Ctl ((List (Int × Int))) (List (Int × Int)))))) (fun x3 =>
.ok (.nx x3)) (fun r => .ok (.rt r))) (enumI y1.2) x1) (fun x4 =>
.ok (.nx x4)) (fun r => .ok (.rt r))) (enumI z_tile.2) ([] : List (Int × Int))) (fun x5 =>
.ok (x5)) (fun r => .ok r)
def sp_level_of (K : PySem.W.Frag) : Sp := fun vs H Q E => ∃ (v_tile v_level : V), vs = [v_tile, v_level] ∧ (∃ (F : Hp) (z_tile : (Int × (List (List Int)))) (z_level : Int), Same F H ∧ RD F ((e_Tile K) z_tile) v_tile ∧ v_level = (V.int z_level) ∧ Post (m_level_of z_tile z_level) (fun r => ∀ F' H', Stp [] F H F' H' → ∀ L vs, Fre H L → Own F' H' L (.lst vs) → RDs F' (List.map (eP Dat.int Dat.int) r) vs → Q (.ref L) H') (fun _ _ => False))
theorem len_level_of {K : PySem.W.Frag} : ∀ vs H Q E, sp_level_of K vs H Q E → vs.length = ((["tile", "level"] : List Str)).length := fun vs H Q E h => by
  obtain ⟨_, _, rfl, _⟩ := h
  rfl
def t_level_of (K : PySem.W.Frag) (E : XK) : TS :=
  (tSeq (tAsg (tLst tNil) (gName 2))
  (tSeq (tFor (iEnumU K (tCons (tFld K (tVar 0) "rows") tNil)) (gTupU K 2 (gCons (gName 3) (gCons (gName 4) gNil))) (tFor (iEnumU K (tCons (tVar 4) tNil)) (gTupU K 2 (gCons (gName 5) (gCons (gName 6) gNil))) (tIfS (tTest (tOp rLeI (tVar 6) (tVar 1))) (tDrop (tBM K "list" rAppend (tVar 2) (tCons (tTup (tCons (tVar 3) (tCons (tVar 5) tNil))) tNil))) tNext)))
  (tRet (tVar 2))))
section
variable {P : Program} {w : World} {K : PySem.W.Frag} {mg : Str → Option Value} {base : Heap}
theorem pure_level_of (T : TX K mg) (vs : List V) (H : Hp) (Q : VK) (E : XK) (h : sp_level_of K vs H Q E) : t_level_of K E { nx := fun _ H' => Q .non H', rt := Q } (start n_level_of vs) H := by
  obtain ⟨v_tile, v_level, rfl, h⟩ := h
  change t_level_of K E _ [some v_tile, some v_level, none, none, none, none, none] H
  unfold t_level_of
  obtain ⟨F, z_tile, z_level, e0, hr1, rfl, h⟩ := h
  unfold m_level_of at h
  dl_open
  refine newO (by simp) (F := F) (by lcg_src) ?_
  intro L1 F1 H1 s1 n1 o1
  have r1 : RDs F1 (List.map (eP Dat.int Dat.int) ([] : List (Int × Int))) [] := (show RDs F1 [] [] by nest_cls)
  dl_open
  dl_open
  with_reducible refine cutF h (fun s σ H => ∃ F, (fun (s : (List (Int × Int))) F' σ' H' => ∃ (o_1 : Option V) (o_2 : Option V) (o_3 : Option V) (o_4 : Option V) (w_0 : List V), Stp [L1] F1 H1 F' H' ∧ Own F' H' L1 (.lst w_0) ∧ RDs F' (List.map (eP Dat.int Dat.int) s) w_0 ∧ σ' = [some v_tile, some (V.int z_level), some (V.ref L1), o_3, o_4, o_1, o_2]) s F σ H) ?_ ?_
  · intro nx1 kk1 h
    refine st_for ?_
    dl_open
    refine st_enumT ?_
    dl_open
    refine st_fldD (C := He.ga K "Tile") (F := F1) (n := 1) (d := (eT (eT Dat.int)) z_tile.2) (by lcg_src) (by kqd_all) (tx_cls_Tile T) (tx_noat_Tile_rows T) (by decide) (by decide) rfl ?_
    intro u1 r2
    have r2 : RD F1 ((eT (eT Dat.int)) z_tile.2) u1 := r2
    dl_open
    refine fr_ET (e := (eT Dat.int)) (F := F1) (by kqd_all) (by lcg_src) h (fun (s : (List (Int × Int))) F' σ' H' => ∃ (o_1 : Option V) (o_2 : Option V) (o_3 : Option V) (o_4 : Option V) (w_0 : List V), Stp [L1] F1 H1 F' H' ∧ Own F' H' L1 (.lst w_0) ∧ RDs F' (List.map (eP Dat.int Dat.int) s) w_0 ∧ σ' = [some v_tile, some (V.int z_level), some (V.ref L1), o_3, o_4, o_1, o_2]) ⟨_, _, _, _, _, by kas_types, by kat_tups, by nest_cls, rfl⟩ (by rintro _ _ _ _ ⟨_, _, _, _, _, t, _⟩; exact ⟨t.ex, t.inn⟩) ?_ kk1
    rintro y1 rest1 x1 u2 F2 σ_ H3 F3 H2 ⟨o_1, o_2, o_3, o_4, w1, s3, o2, r4, rfl⟩ s2 r3 h
    have r3 : RD F3 ((eP Dat.int (eT Dat.int)) y1) u2 := r3
    try dsimp only at h
    dl_open
    refine sm_g2 (F := F3) (by lcg_src) (by kqd_all) ?_
    intro u3 u4 r5 r6
    cases (show u3 = (V.int y1.1) from r5)
    have r6 : RD F3 ((eT Dat.int) y1.2) u4 := r6
    dl_open
    dl_open
    with_reducible refine cutF h (fun s σ H => ∃ F, (fun (s : (List (Int × Int))) F' σ' H' => ∃ (o_1 : Option V) (o_2 : Option V) (w_0 : List V), Stp [L1] F3 H2 F' H' ∧ Own F' H' L1 (.lst w_0) ∧ RDs F' (List.map (eP Dat.int Dat.int) s) w_0 ∧ σ' = [some v_tile, some (V.int z_level), some (V.ref L1), some (V.int y1.1), some u4, o_1, o_2]) s F σ H) ?_ ?_
    · intro nx2 kk2 h
      refine st_for ?_
      dl_open
      refine st_enumT ?_
      dl_open
      refine fr_ET (e := Dat.int) (F := F3) (by kqd_all) (by lcg_src) h (fun (s : (List (Int × Int))) F' σ' H' => ∃ (o_1 : Option V) (o_2 : Option V) (w_0 : List V), Stp [L1] F3 H2 F' H' ∧ Own F' H' L1 (.lst w_0) ∧ RDs F' (List.map (eP Dat.int Dat.int) s) w_0 ∧ σ' = [some v_tile, some (V.int z_level), some (V.ref L1), some (V.int y1.1), some u4, o_1, o_2]) ⟨_, _, _, by kas_types, by kat_tups, by nest_cls, rfl⟩ (by rintro _ _ _ _ ⟨_, _, _, t, _⟩; exact ⟨t.ex, t.inn⟩) ?_ kk2
      rintro y2 rest2 x2 u5 F4 σ_ H5 F5 H4 ⟨o_5, o_6, w2, s5, o3, r8, rfl⟩ s4 r7 h
      have r7 : RD F5 ((eP Dat.int Dat.int) y2) u5 := r7
      try dsimp only at h
      dl_open
      refine sm_g2 (F := F5) (by lcg_src) (by kqd_all) ?_
      intro u6 u7 r9 r10
      cases (show u6 = (V.int y2.1) from r9)
      cases (show u7 = (V.int y2.2) from r10)
      dl_open
      dl_open
      with_reducible refine cutI h (fun (s : (List (Int × Int))) σ' H' => ∃ F', ∃ (w_0 : List V), Stp [L1] F5 H4 F' H' ∧ Own F' H' L1 (.lst w_0) ∧ RDs F' (List.map (eP Dat.int Dat.int) s) w_0 ∧ σ' = [some v_tile, some (V.int z_level), some (V.ref L1), some (V.int y1.1), some u4, some (V.int y2.1), some (V.int y2.2)]) ?_ ?_
      · intro nx3 kk3 h
        with_reducible refine DK.st_if ?_
        dl_open
        dl_open
        dl_open
        refine brP h (fun c1 h => ?_) (fun c1 h => ?_)
        · dl_open
          dl_open
          refine ⟨ty_own (by kat_tups : Own F5 _ _ _), ?_⟩
          dl_open
          refine newT (by simp) (F := F5) (by lcg_src) (ds := [Dat.int y1.1, Dat.int y2.1]) (by nest_cls) ?_
          intro u8 F6 H6 s6 r11
          have r11 : RD F6 ((eP Dat.int Dat.int) (y1.1, y2.1)) u8 := r11
          dl_open
          obtain ⟨g1, h⟩ := h.g
          refine sm_app (e := (eP Dat.int Dat.int)) (x := (y1.1, y2.1)) (F := F6) (by lcg_src) (by kat_tups) (by nest_cls) (by kqd_all) g1 ?_
          intro w3 F7 H7 s7 o4 r12
          dl_open
          dl_open
          exact kk3 (x2 ++ [(y1.1, y2.1)]) _ _ ⟨F7, _, by kas_types, by kat_tups, by nest_cls, rfl⟩ h
        · dl_open
          dl_open
          exact kk3 x2 _ _ ⟨F5, _, by kas_types, by kat_tups, by nest_cls, rfl⟩ h
      · rintro x3 σ_ H8 ⟨F8, w4, s8, o5, r13, rfl⟩ h
        try dsimp only at h
        dl_open
        exact ⟨x3, ⟨F8, _, _, _, by kas_types, by kat_tups, by nest_cls, rfl⟩, h⟩
    · rintro x4 σ_ H9 ⟨F9, o_7, o_8, w5, s9, o6, r14, rfl⟩ h
      try dsimp only at h
      dl_open
      exact ⟨x4, ⟨F9, _, _, _, _, _, by kas_types, by kat_tups, by nest_cls, rfl⟩, h⟩
  · rintro x5 σ_ H10 ⟨F10, o_9, o_10, o_11, o_12, w6, s10, o7, r15, rfl⟩ h
    try dsimp only at h
    dl_open
    dl_open
    exact h F10 H10 (by kas_types) _ _ (by k_subL) (by kat_tups) (by nest_cls)
theorem ok_level_of (T : TX K mg)  : CalOk P w K mg base "level_of" 1 (["tile", "level"] : List Str) (sp_level_of K) :=
  T.cal 2 9 (d := d_level_of) rfl rfl rfl rfl rfl sc_level_of (len_level_of) (fun _ _ _ _ _ _ _ us hl => match us, hl with | [_, _], _ => rfl) (fun cdv A outer s H vs Q E hr h => ⟨t_level_of K E, (by exact (pss_cons (ps_set (i := 2) sc_level_of.nd rfl (by first | exact Or.inl rfl | exact Or.inr rfl) (pe_lst pa_nil))
  (pss_cons (ps_for (passes_of rfl) rfl (pi_enumU rfl (T.free 4) (pa_cons (pe_fld (pv 0) rfl) pa_nil)) (pg_tupU (by rfl) (pgs_cons (pg_name (i := 3) sc_level_of.nd rfl (by first | exact Or.inl rfl | exact Or.inr rfl)) (pgs_cons (pg_name (i := 4) sc_level_of.nd rfl (by first | exact Or.inl rfl | exact Or.inr rfl)) pgs_nil))) (pss_one (ps_for (passes_of rfl) rfl (pi_enumU rfl (T.free 4) (pa_cons (pv 4) pa_nil)) (pg_tupU (by rfl) (pgs_cons (pg_name (i := 5) sc_level_of.nd rfl (by first | exact Or.inl rfl | exact Or.inr rfl)) (pgs_cons (pg_name (i := 6) sc_level_of.nd rfl (by first | exact Or.inl rfl | exact Or.inr rfl)) pgs_nil))) (pss_one (ps_if (pt_cmpR op_le (pv 6) (pv 1) (nomark _)) (pss_one (ps_expr (pe_bm PySem.F.plainAttrs_list PySem.F.slot_list_append PySem.F.type_list_append mt_append (pv 2) (pa_cons (pe_tup (pa_cons (pv 3) (pa_cons (pv 5) pa_nil))) pa_nil)))) pss_nil)))))
  (pss_one (ps_ret (pv 2)))))), pure_level_of T vs H Q E h⟩)
end
end Dot
end
section
local macro_rules | `(tactic| lcg_src) => `(tactic| first | with_reducible assumption | with_reducible (refine' DK.Stp.inn ?si; (case si => assumption)) | with_reducible (refine' DK.Stp.pre ?sp; (case sp => assumption)))
local macro_rules | `(tactic| k_clsL) => `(tactic| first | with_reducible assumption | ((with_reducible refine' Ne.symm ?ny); (case ny => assumption)) | (refine' DK.Own.ne ?ah ?an; (case an => with_reducible assumption); (case ah => kat_tups)) | (refine' Ne.symm (DK.Own.ne ?bh ?bn); (case bn => with_reducible assumption); (case bh => kat_tups)))
local macro_rules | `(tactic| k_offL) => `(tactic| first | with_reducible exact DK.nm_nil | ((with_reducible refine DK.nm_cons ?mh ?mt); (case mh => k_clsL); (case mt => k_offL)) | with_reducible assumption)
local macro_rules | `(tactic| kat_tups) => `(tactic| first | with_reducible assumption | ((with_reducible refine' DK.Stp.keep ?ks ?kn ?kh); (case ks => assumption); (case kh => kat_tups); (case kn => k_offL)))
local macro_rules | `(tactic| k_subL) => `(tactic| first | with_reducible assumption | ((with_reducible refine' DK.Stp.back ?kv ?kb); (case kv => assumption); (case kb => k_subL)))
local macro_rules | `(tactic| kqd_all) => `(tactic| first | with_reducible assumption | with_reducible exact DK.RD.int_ | with_reducible exact DK.RD.bl_ | with_reducible exact DK.RD.str_ | with_reducible exact DK.RD.non_ | ((with_reducible refine' DK.Stp.up ?kv ?ku); (case kv => assumption); (case ku => kqd_all)))
local macro_rules | `(tactic| nest_cls) => `(tactic| first | with_reducible assumption | with_reducible exact DK.RDs.nil | ((with_reducible refine' DK.RDs.cons ?rh ?rt); (case rh => kqd_all); (case rt => nest_cls)) | with_reducible exact DK.RDs.of_ints _ | ((with_reducible refine' DK.Stp.ups ?kv ?ks); (case kv => assumption); (case ks => nest_cls)))
local macro_rules | `(tactic| lcg_off) => `(tactic| first | with_reducible exact DK.sub_nil | ((with_reducible refine' DK.sub_in ?fi ?ft); (case fi => first | exact List.mem_cons_self | exact List.mem_cons_of_mem _ List.mem_cons_self); (case ft => lcg_off)) | ((with_reducible refine DK.sub_new ?fn ?ft); (case fn => k_subL); (case ft => lcg_off)))
local macro_rules | `(tactic| kas_types) => `(tactic| first | with_reducible assumption | ((with_reducible refine DK.Stp.refl ?_); lcg_src) | ((with_reducible refine' DK.Stp.trans ?sa ?sm ?sb); (case sm => assumption); (case sa => kas_types); (case sb => lcg_off)))
local macro_rules | `(tactic| ktu_offI) => `(tactic| first | with_reducible assumption | ((with_reducible refine' DK.Scr.up ?kv ?kl); (case kv => assumption); (case kl => ktu_offI)))
local macro_rules | `(tactic| k_allIn) => `(tactic| first | with_reducible assumption | omega | decide | exact Int.emod_nonneg _ (by omega) | exact Int.emod_lt_of_pos _ (by omega))
local macro_rules | `(tactic| k_memK) => `(tactic| (simp only [L2.wipe, List.set_cons_succ, List.set_cons_zero]; exact rfl))
local macro_rules | `(tactic| kp_flats) => `(tactic| first
  | ((with_reducible refine DK.st_var (v := ?vv) ?hv ?kv); (case hv => exact rfl))
  | ((with_reducible refine DK.st_gname (σ' := ?sg) ?hg ?kg); (case hg => k_memK))
  | with_reducible refine DK.st_seq ?_
  | with_reducible refine DK.st_c ?_
  | with_reducible refine DK.st_op ?_
  | with_reducible refine DK.st_cb ?_
  | with_reducible refine DK.st_cons ?_
  | with_reducible refine DK.st_nil ?_
  | with_reducible refine DK.st_asg ?_
  | with_reducible refine DK.st_test ?_
  | with_reducible refine DK.st_B ?_
  | with_reducible refine DK.st_exb ?_
  | with_reducible refine DK.st_exi ?_
  | with_reducible refine DK.st_add ?_
  | with_reducible refine DK.st_I0 ?_
  | with_reducible refine DK.st_eqI ?_
  | with_reducible refine DK.st_neI ?_
  | with_reducible refine DK.br_t ?_
  | with_reducible refine DK.br_f ?_
  | with_reducible refine DK.br_nt ?_
  | with_reducible refine DK.br_nf ?_
  | with_reducible refine DK.st_call ?_
  | with_reducible refine DK.st_make ?_
  | with_reducible refine DK.st_fld ?_
  | with_reducible refine DK.st_drop ?_
  | with_reducible refine DK.st_next ?_
  | with_reducible refine DK.st_bm ?_
  | with_reducible refine DK.st_bm0 ?_
  | with_reducible refine DK.st_un ?_
  | with_reducible refine DK.st_rU ?_
  | with_reducible refine DK.st_not ?_
  | with_reducible refine DK.st_notV ?_
  | with_reducible refine DK.st_tup ?_
  | with_reducible refine DK.st_lst ?_
  | with_reducible refine DK.st_gsub ?_
  | with_reducible refine DK.st_rng1 ?_
  | with_reducible refine DK.st_rng2 ?_
  | with_reducible refine DK.st_rng3 ?_
  | with_reducible refine DK.st_gcons ?_
  | with_reducible refine DK.st_gnil ?_
  | with_reducible refine DK.st_ret ?_
  | with_reducible refine DK.st_retN ?_
  | with_reducible refine DK.st_yes ?_
  | with_reducible refine DK.st_sfld ?_
  | with_reducible refine DK.st_sl ?_
  | with_reducible refine DK.st_nopart ?_
  | with_reducible refine DK.st_part ?_)
local macro_rules | `(tactic| dl_open) => `(tactic| repeat kp_flats)
namespace Dot
open PySem PySem.Spec PyProof.Rows L2 DK
def m_law (z_script : List Int) : Rs (Bool) :=
Rs.thn (grd (rngOk 0 2 = true) <| forR (R := Bool) (fun (x1 : (List Int)) (y1 : Int) =>
(m_law_next z_script x1).bnd fun x2 =>
(m_doubled_tile (x2.1 % 5)).bnd fun x3 =>
Rs.thn (grd (rngOk 0 6 = true) <| forR (R := Bool) (fun (x4 : (List Int)) (y2 : Int) =>
(m_law_next z_script x4).bnd fun x5 =>
grd (0 < (x3.1 + 1)) <| Rs.thn ((if (y2 % 3) = 2 then (.ok (.nx (((x5.1 % (x3.1 + 1)) / 4) * 4))) else (.ok (.nx (x5.1 % (x3.1 + 1)))) : (Rs (Ctl (Int) Bool)))) (fun x6 =>
Rs.bnd ((m_law_even x3 x6).bnd fun x7 =>
if x7 = true then ((m_level_of x3 x6).bnd fun x8 =>
.ok (!decide ((x8.length : Int) = x6))) else (.ok true)) fun b1 =>
if b1 = true then (.ok (.rt false)) else (.ok (.nx x5.2))) (fun r => .ok (.rt r))) (rngI 0 6) x2.2) (fun x9 =>
.ok (.nx x9)) (fun r => .ok (.rt r))) (rngI 0 2) ([0] : List Int)) (fun x10 =>
.ok (true)) (fun r => .ok r)
def sp_law (K : PySem.W.Frag) : Sp := fun vs H Q E => ∃ (v_script : V), vs = [v_script] ∧ (∃ (F : Hp) (z_script : List Int), Same F H ∧ Scr K F v_script z_script ∧ Post (m_law z_script) (fun r => ∀ F' H', Stp [] F H F' H' → Q (V.bl r) H') (fun _ _ => False))
theorem len_law {K : PySem.W.Frag} : ∀ vs H Q E, sp_law K vs H Q E → vs.length = ((["_law_script"] : List Str)).length := fun vs H Q E h => by
  obtain ⟨_, rfl, _⟩ := h
  rfl
def t_law (K : PySem.W.Frag) (E : XK) : TS :=
  (tSeq (tAsg (tLst (tCons (tC (.int 0)) tNil)) (gName 1))
  (tSeq (tFor (iRng1 (tCons (tC (.int 2)) tNil)) (gName 2) (tSeq (tAsg (tCall (sp_law_next K) [] E (tCons (tVar 0) (tCons (tVar 1) tNil))) (gName 3))
  (tSeq (tAsg (tCall (sp_doubled_tile K) [] E (tCons (tOp rModI (tVar 3) (tC (.int 5))) tNil)) (gName 4))
  (tFor (iRng1 (tCons (tC (.int 6)) tNil)) (gName 5) (tSeq (tAsg (tCall (sp_law_next K) [] E (tCons (tVar 0) (tCons (tVar 1) tNil))) (gName 6))
  (tSeq (tAsg (tOp rModI (tVar 6) (tOp (rAddU K) (tFld K (tVar 4) "count") (tC (.int 1)))) (gName 7))
  (tSeq (tIfS (tTest (tOp (rEqU K) (tOp rModI (tVar 5) (tC (.int 3))) (tC (.int 2)))) (tAsg (tOp rMulU (tOp rDivU (tVar 7) (tC (.int 4))) (tC (.int 4))) (gName 7)) tNext)
  (tIfS (tOr (tNot (tB (tCall (sp_law_even K) [] E (tCons (tVar 4) (tCons (tVar 7) tNil))))) (tTest (tOp (rNeU K) (tCB (rLenU K) (tCons (tCall (sp_level_of K) [] E (tCons (tVar 4) (tCons (tVar 7) tNil))) tNil)) (tVar 7)))) (tRet (tC (.bl false))) tNext))))))))
  (tRet (tC (.bl true)))))
section
variable {P : Program} {w : World} {K : PySem.W.Frag} {mg : Str → Option Value} {base : Heap}
theorem pure_law (T : TX K mg) (vs : List V) (H : Hp) (Q : VK) (E : XK) (h : sp_law K vs H Q E) : t_law K E { nx := fun _ H' => Q .non H', rt := Q } (start n_law vs) H := by
  obtain ⟨v_script, rfl, h⟩ := h
  change t_law K E _ [some v_script, none, none, none, none, none, none, none] H
  unfold t_law
  obtain ⟨F, z_script, e0, hS1, h⟩ := h
  unfold m_law at h
  dl_open
  refine newO (by simp) (F := F) (by lcg_src) ?_
  intro L1 F1 H1 s1 n1 o1
  have r1 : RDs F1 (List.map Dat.int ([0] : List Int)) [(V.int 0)] := (show RDs F1 [Dat.int 0] [(V.int 0)] by nest_cls)
  dl_open
  dl_open
  with_reducible refine cutF h (fun (s : (List Int)) σ' H' => ∃ F', ∃ (o_1 : Option V) (o_2 : Option V) (o_3 : Option V) (o_4 : Option V) (o_5 : Option V) (o_6 : Option V) (w_0 : List V), Stp [L1] F1 H1 F' H' ∧ Own F' H' L1 (.lst w_0) ∧ RDs F' (List.map Dat.int s) w_0 ∧ σ' = [some v_script, some (V.ref L1), o_6, o_1, o_2, o_3, o_4, o_5]) ?_ ?_
  · intro nx1 kk1 h
    refine st_for ?_
    dl_open
    dl_open
    obtain ⟨g1, h⟩ := h.g
    refine fr_R1 g1 h (fun (s : (List Int)) σ' H' => ∃ F', ∃ (o_1 : Option V) (o_2 : Option V) (o_3 : Option V) (o_4 : Option V) (o_5 : Option V) (o_6 : Option V) (w_0 : List V), Stp [L1] F1 H1 F' H' ∧ Own F' H' L1 (.lst w_0) ∧ RDs F' (List.map Dat.int s) w_0 ∧ σ' = [some v_script, some (V.ref L1), o_6, o_1, o_2, o_3, o_4, o_5]) ⟨F1, _, _, _, _, _, _, _, by kas_types, by kat_tups, by nest_cls, rfl⟩ ?_ kk1
    rintro y1 rest1 x1 σ_ H2 ⟨F2, o_1, o_2, o_3, o_4, o_5, o_6, w1, s2, o2, r3, rfl⟩ h
    try dsimp only at h
    dl_open
    dl_open
    refine ⟨_, _, rfl, F2, z_script, x1, by lcg_src, (by ktu_offI), ⟨L1, w1, rfl, (by kat_tups), (by nest_cls)⟩, h.b.mono ?_⟩
    intro x2 h a_ ha_
    cases ha_
    intro F3 H3 s3 w2 o3 r4
    dl_open
    dl_open
    refine st_mod (by decide) ?_
    dl_open
    refine ⟨_, rfl, F3, (x2.1 % 5), by lcg_src, rfl, h.b.mono ?_⟩
    intro x3 h F4 H4 s4 u4 r5
    dl_open
    dl_open
    with_reducible refine cutF h (fun (s : (List Int)) σ' H' => ∃ F', ∃ (o_1 : Option V) (o_2 : Option V) (o_3 : Option V) (w_0 : List V), Stp [L1] F4 H4 F' H' ∧ Own F' H' L1 (.lst w_0) ∧ RDs F' (List.map Dat.int s) w_0 ∧ σ' = [some v_script, some (V.ref L1), some (V.int y1), some (V.int x2.1), some u4, o_3, o_1, o_2]) ?_ ?_
    · intro nx2 kk2 h
      refine st_for ?_
      dl_open
      dl_open
      obtain ⟨g3, h⟩ := h.g
      refine fr_R1 g3 h (fun (s : (List Int)) σ' H' => ∃ F', ∃ (o_1 : Option V) (o_2 : Option V) (o_3 : Option V) (w_0 : List V), Stp [L1] F4 H4 F' H' ∧ Own F' H' L1 (.lst w_0) ∧ RDs F' (List.map Dat.int s) w_0 ∧ σ' = [some v_script, some (V.ref L1), some (V.int y1), some (V.int x2.1), some u4, o_3, o_1, o_2]) ⟨F4, _, _, _, _, by kas_types, by kat_tups, by nest_cls, rfl⟩ ?_ kk2
      rintro y2 rest2 x4 σ_ H5 ⟨F5, o_7, o_8, o_9, w3, s5, o4, r7, rfl⟩ h
      try dsimp only at h
      dl_open
      dl_open
      refine ⟨_, _, rfl, F5, z_script, x4, by lcg_src, (by ktu_offI), ⟨L1, w3, rfl, (by kat_tups), (by nest_cls)⟩, h.b.mono ?_⟩
      intro x5 h a_ ha_
      cases ha_
      intro F6 H6 s6 w4 o5 r8
      dl_open
      dl_open
      refine st_fldD (C := He.ga K "Tile") (F := F6) (n := 0) (d := Dat.int x3.1) (by lcg_src) (by kqd_all) (tx_cls_Tile T) (tx_noat_Tile_count T) (by decide) (by decide) rfl ?_
      intro u7 r9
      cases (show u7 = (V.int x3.1) from r9)
      dl_open
      dl_open
      obtain ⟨g4, h⟩ := h.g
      refine st_mod g4 ?_
      dl_open
      dl_open
      with_reducible refine cutI h (fun (s : Int) σ' H' => ∃ F', Stp [] F6 H6 F' H' ∧ σ' = [some v_script, some (V.ref L1), some (V.int y1), some (V.int x2.1), some u4, some (V.int y2), some (V.int x5.1), some (V.int s)]) ?_ ?_
      · intro nx3 kk3 h
        with_reducible refine DK.st_if ?_
        dl_open
        dl_open
        refine st_mod (by decide) ?_
        dl_open
        dl_open
        refine brP h (fun c1 h => ?_) (fun c1 h => ?_)
        · dl_open
          dl_open
          refine st_div (divS (by decide)) ?_
          dl_open
          refine st_mul (mulR (by decide)) ?_
          dl_open
          dl_open
          exact kk3 (((x5.1 % (x3.1 + 1)) / 4) * 4) _ _ ⟨F6, by kas_types, rfl⟩ h
        · dl_open
          dl_open
          exact kk3 (x5.1 % (x3.1 + 1)) _ _ ⟨F6, by kas_types, rfl⟩ h
      · rintro x6 σ_ H7 ⟨F7, s7, rfl⟩ h
        try dsimp only at h
        dl_open
        with_reducible refine DK.st_if ?_
        dl_open
        dl_open
        refine cutT F7 H7 h (fun Qkk4 kk4 h => ?_) (fun b1 F8 H8 s8 h => ?_)
        · refine st_or ?_
          dl_open
          dl_open
          refine ⟨_, _, rfl, F7, x3, x6, by lcg_src, (by kqd_all), rfl, h.b.mono ?_⟩
          intro x7 h F9 H9 s9
          dl_open
          dl_open
          refine brNB h (fun c2 h => ?_) (fun c2 h => ?_)
          · try dl_open
            exact kk4 _ F9 H9 (by kas_types) h
          · dl_open
            dl_open
            refine ⟨_, _, rfl, F9, x3, x6, by lcg_src, (by kqd_all), rfl, h.b.mono ?_⟩
            intro x8 h F10 H10 s10 L2 w5 n2 o6 r10
            obtain ⟨F11, s11, r11⟩ := own_fz (F := F10) s10.inn o6 r10
            dl_open
            refine st_lenM (f := (eP Dat.int Dat.int)) (F := F11) (by lcg_src) (by kqd_all) ?_
            dl_open
            dl_open
            exact kk4 _ F11 H10 (by kas_types) h
        dl_open
        refine brB h (fun c3 h => ?_) (fun c3 h => ?_)
        · dl_open
          dl_open
          dl_open
          exact h F8 H8 (by kas_types)
        · dl_open
          dl_open
          exact ⟨x5.2, ⟨F8, _, _, _, _, by kas_types, by kat_tups, by nest_cls, rfl⟩, h⟩
    · rintro x9 σ_ H11 ⟨F12, o_10, o_11, o_12, w6, s12, o7, r12, rfl⟩ h
      try dsimp only at h
      dl_open
      exact ⟨x9, ⟨F12, _, _, _, _, _, _, _, by kas_types, by kat_tups, by nest_cls, rfl⟩, h⟩
  · rintro x10 σ_ H12 ⟨F13, o_13, o_14, o_15, o_16, o_17, o_18, w7, s13, o8, r13, rfl⟩ h
    try dsimp only at h
    dl_open
    dl_open
    exact h F13 H12 (by kas_types)
theorem fn_law (T : TX K mg) {fd : FuncData} (F : FunD K d_law.name d_law.qual d_law.params d_law.body d_law.scope [] [] (He.ga K "law") fd) (c_law_next : CalOk P w K mg base "_law_next" 1 (["_law_script", "_law_at"] : List Str) (sp_law_next K)) (c_doubled_tile : CalOk P w K mg base "doubled_tile" 4 (["times"] : List Str) (sp_doubled_tile K)) (c_law_even : CalOk P w K mg base "_law_even" 2 (["_law_tile", "_law_level"] : List Str) (sp_law_even K)) (c_level_of : CalOk P w K mg base "level_of" 1 (["tile", "level"] : List Str) (sp_level_of K)) : FnOk P w K mg base (L2.CX P w) 5 (He.ga K "law") fd (["_law_script"] : List Str) (sp_law K) :=
  FunD.ok F sc_law (len_law) (fun cdv A outer s H vs Q E hr h => ⟨t_law K E, (by exact (pss_cons (ps_set (i := 1) sc_law.nd rfl (by first | exact Or.inl rfl | exact Or.inr rfl) (pe_lst (pa_cons pe_int pa_nil)))
  (pss_cons (ps_for (passes_of rfl) rfl (pi_range1 rfl (T.free 5) (pa_cons pe_int pa_nil)) (pg_name (i := 2) sc_law.nd rfl (by first | exact Or.inl rfl | exact Or.inr rfl)) (pss_cons (ps_set (i := 3) sc_law.nd rfl (by first | exact Or.inl rfl | exact Or.inr rfl) (pe_callC c_law_next (hr.mono (by decide)) rfl (passes_call (takes_of rfl rfl rfl rfl) (fun _ _ _ _ h => h)) (pa_cons (pv 0) (pa_cons (pv 1) pa_nil))))
  (pss_cons (ps_set (i := 4) sc_law.nd rfl (by first | exact Or.inl rfl | exact Or.inr rfl) (pe_callC c_doubled_tile (hr.mono (by decide)) rfl (passes_call (takes_of rfl rfl rfl rfl) (fun _ _ _ _ h => h)) (pa_cons (pe_op op_mod (pv 3) pe_int) pa_nil)))
  (pss_one (ps_for (passes_of rfl) rfl (pi_range1 rfl (T.free 5) (pa_cons pe_int pa_nil)) (pg_name (i := 5) sc_law.nd rfl (by first | exact Or.inl rfl | exact Or.inr rfl)) (pss_cons (ps_set (i := 6) sc_law.nd rfl (by first | exact Or.inl rfl | exact Or.inr rfl) (pe_callC c_law_next (hr.mono (by decide)) rfl (passes_call (takes_of rfl rfl rfl rfl) (fun _ _ _ _ h => h)) (pa_cons (pv 0) (pa_cons (pv 1) pa_nil))))
  (pss_cons (ps_set (i := 7) sc_law.nd rfl (by first | exact Or.inl rfl | exact Or.inr rfl) (pe_op op_mod (pv 6) (pe_op op_addU (pe_fld (pv 4) rfl) pe_int)))
  (pss_cons (ps_if (pt_cmpR (op_eqU hr.units) (pe_op op_mod (pv 5) pe_int) pe_int (nomark _)) (pss_one (ps_set (i := 7) sc_law.nd rfl (by first | exact Or.inl rfl | exact Or.inr rfl) (pe_op op_mulU (pe_op op_divU (pv 7) pe_int) pe_int))) pss_nil)
  (pss_one (ps_if (PW.pt (pw_or (pt_not (pt_val (pe_callC c_law_even (hr.mono (by decide)) rfl (passes_call (takes_of rfl rfl rfl rfl) (fun _ _ _ _ h => h)) (pa_cons (pv 4) (pa_cons (pv 7) pa_nil))))) (pw_or1 (pt_cmpR (op_neU hr.units) (pe_callB call_lenU (by rfl) (T.free 0) (by decide +kernel) (pa_cons (pe_callC c_level_of (hr.mono (by decide)) rfl (passes_call (takes_of rfl rfl rfl rfl) (fun _ _ _ _ h => h)) (pa_cons (pv 4) (pa_cons (pv 7) pa_nil))) pa_nil)) (pv 7) (nomark _))))) (pss_one (ps_ret pe_bl)) pss_nil))))))))))
  (pss_one (ps_ret pe_bl))))), pure_law T vs H Q E h⟩)
end
end Dot
end
namespace Dot
open PySem PySem.Spec PyProof.Rows L2 DK
/-- a draw -/
theorem next_ok (ns : List Int) (n : Int) (h0 : 0 ≤ n) (h1 : n ≤ 1000000000) : ∃ m, m_law_next ns [n] = .ok (m, [n + 1]) ∧ 0 ≤ m ∧ m < 1999999973 := by
  unfold m_law_next
  simp only [ixR_zero, Rs.bnd_ok, setR_zero]
  have fin : ∀ c : Int, ∃ m, (grd (mulOk (n + 1) (n + 1) = true) <| grd (mulOk (((((c % 2147483647) + (((n + 1) * (n + 1)) * 7919)) + 11) * 48271) % 2147483647) (((((c % 2147483647) + (((n + 1) * (n + 1)) * 7919)) + 11) * 48271) % 2147483647) = true) <| .ok (((((((((c % 2147483647) + (((n + 1) * (n + 1)) * 7919)) + 11) * 48271) % 2147483647) * (((((c % 2147483647) + (((n + 1) * (n + 1)) * 7919)) + 11) * 48271) % 2147483647)) % 1999999973), [n + 1])) : Rs (Int × List Int)) = .ok (m, [n + 1]) ∧ 0 ≤ m ∧ m < 1999999973 := by
    intro c
    rw [grd_of (DK.mulOk_of (by omega) (by omega) (by omega) (by omega))]
    have a0 := Int.emod_nonneg (((((c % 2147483647) + (((n + 1) * (n + 1)) * 7919)) + 11) * 48271)) (b := 2147483647) (by decide)
    have a1 := Int.emod_lt_of_pos (((((c % 2147483647) + (((n + 1) * (n + 1)) * 7919)) + 11) * 48271)) (b := 2147483647) (by decide)
    generalize (((((c % 2147483647) + (((n + 1) * (n + 1)) * 7919)) + 11) * 48271)) % 2147483647 = x at *
    rw [grd_of (DK.mulOk_of (by omega) (by omega) (by omega) (by omega))]
    exact ⟨_, rfl, Int.emod_nonneg _ (by decide), Int.emod_lt_of_pos _ (by decide)⟩
  by_cases hl : 0 < (ns.length : Int)
  · rw [if_pos hl]
    rw [grd_of hl]
    obtain ⟨x, hx, _⟩ := ixR_in (xs := ns) (i := (n + 1) % (ns.length : Int)) (Int.emod_nonneg _ (by omega)) (Int.emod_lt_of_pos _ hl)
    rw [hx]
    exact fin x
  · rw [if_neg hl]
    exact fin 0

/-- the tiles -/
def dN : Nat → List (List Nat)
  | 0 => [[1]]
  | 1 => [[1,3],[4,2]]
  | 2 => [[1,9,3,11],[13,5,15,7],[4,12,2,10],[16,8,14,6]]
  | 3 => [[1,33,9,41,3,35,11,43],[49,17,57,25,51,19,59,27],[13,45,5,37,15,47,7,39],[61,29,53,21,63,31,55,23],[4,36,12,44,2,34,10,42],[52,20,60,28,50,18,58,26],[16,48,8,40,14,46,6,38],[64,32,56,24,62,30,54,22]]
  | 4 => [[1,129,33,161,9,137,41,169,3,131,35,163,11,139,43,171],[193,65,225,97,201,73,233,105,195,67,227,99,203,75,235,107],[49,177,17,145,57,185,25,153,51,179,19,147,59,187,27,155],[241,113,209,81,249,121,217,89,243,115,211,83,251,123,219,91],[13,141,45,173,5,133,37,165,15,143,47,175,7,135,39,167],[205,77,237,109,197,69,229,101,207,79,239,111,199,71,231,103],[61,189,29,157,53,181,21,149,63,191,31,159,55,183,23,151],[253,125,221,93,245,117,213,85,255,127,223,95,247,119,215,87],[4,132,36,164,12,140,44,172,2,130,34,162,10,138,42,170],[196,68,228,100,204,76,236,108,194,66,226,98,202,74,234,106],[52,180,20,148,60,188,28,156,50,178,18,146,58,186,26,154],[244,116,212,84,252,124,220,92,242,114,210,82,250,122,218,90],[16,144,48,176,8,136,40,168,14,142,46,174,6,134,38,166],[208,80,240,112,200,72,232,104,206,78,238,110,198,70,230,102],[64,192,32,160,56,184,24,152,62,190,30,158,54,182,22,150],[256,128,224,96,248,120,216,88,254,126,222,94,246,118,214,86]]
  | _ => []
abbrev cW (w : List Nat) : List Int := w.map fun (x : Nat) => (x : Int)
abbrev cR (r : List (List Nat)) : List (List Int) := r.map cW
theorem tile_ok0 : ∀ t < 5, m_doubled_tile (t : Nat) = .ok (((4 ^ t : Nat) : Int), cR (dN t)) := by decide +kernel
def cntN (L : Nat) : List Nat → Nat
  | [] => 0
  | x :: xs => cond (Nat.ble x L) (cntN L xs + 1) (cntN L xs)
def stN (n s : Nat) : List Nat := (List.range (Builtin.Range.rangeSize 0 (n : Nat) (s : Nat)).toNat).map fun k => k * s
def sumN (L b s : Nat) : List (List Nat) → Nat
  | [] => 0
  | w :: ws => cntN L ((w.drop b).take s) + sumN L b s ws
def sqsN (R : List (List Nat)) (s L : Nat) : List Nat := (stN R.length s).flatMap fun a => (stN R.length s).map fun b => sumN L b s ((R.drop a).take s)
def totN (L : Nat) : List (List Nat) → Nat
  | [] => 0
  | w :: ws => cntN L w + totN L ws
def chkN (t L : Nat) : Bool := Nat.beq (totN L (dN t)) L && (List.range (t + 1)).all fun k => let q := sqsN (dN t) (2 ^ k) L; Nat.blt 0 q.length && q.all fun m => Nat.ble (L / q.length) m && Nat.ble m (L / q.length + cond (Nat.blt 0 (L % q.length)) 1 0)
theorem chk4_0 : (List.range' 0 32).all (fun L => chkN 4 L) = true := by decide +kernel
theorem chk4_1 : (List.range' 32 32).all (fun L => chkN 4 L) = true := by decide +kernel
theorem chk4_2 : (List.range' 64 32).all (fun L => chkN 4 L) = true := by decide +kernel
theorem chk4_3 : (List.range' 96 32).all (fun L => chkN 4 L) = true := by decide +kernel
theorem chk4_4 : (List.range' 128 32).all (fun L => chkN 4 L) = true := by decide +kernel
theorem chk4_5 : (List.range' 160 32).all (fun L => chkN 4 L) = true := by decide +kernel
theorem chk4_6 : (List.range' 192 32).all (fun L => chkN 4 L) = true := by decide +kernel
theorem chk4_7 : (List.range' 224 32).all (fun L => chkN 4 L) = true := by decide +kernel
theorem chk4_8 : chkN 4 256 = true := by decide +kernel
theorem chk3_ : (List.range 65).all (fun L => chkN 3 L) = true := by decide +kernel
theorem chk2_ : (List.range 17).all (fun L => chkN 2 L) = true := by decide +kernel
theorem chk1_ : (List.range 5).all (fun L => chkN 1 L) = true := by decide +kernel
theorem chk0_ : (List.range 2).all (fun L => chkN 0 L) = true := by decide +kernel
theorem chk_ok (t L : Nat) (ht : t < 5) (hL : L ≤ 4 ^ t) : chkN t L = true := by
  have r : ∀ a n, a ≤ L → L < a + n → (List.range' a n).all (fun L => chkN t L) = true → chkN t L = true := fun a n h1 h2 h => (List.all_eq_true.mp h) L (by rw [List.mem_range'_1]; omega)
  have r0 : ∀ n, L < n → (List.range n).all (fun L => chkN t L) = true → chkN t L = true := fun n h2 h => (List.all_eq_true.mp h) L (by rw [List.mem_range]; omega)
  have h5 : t = 0 ∨ t = 1 ∨ t = 2 ∨ t = 3 ∨ t = 4 := by omega
  rcases h5 with rfl | rfl | rfl | rfl | rfl
  · exact r0 2 (by omega) chk0_
  · exact r0 5 (by omega) chk1_
  · exact r0 17 (by omega) chk2_
  · exact r0 65 (by omega) chk3_
  · by_cases h1 : L < 32
    · exact r 0 32 (by omega) (by omega) chk4_0
    by_cases h2 : L < 64
    · exact r 32 32 (by omega) (by omega) chk4_1
    by_cases h3 : L < 96
    · exact r 64 32 (by omega) (by omega) chk4_2
    by_cases h4 : L < 128
    · exact r 96 32 (by omega) (by omega) chk4_3
    by_cases h5 : L < 160
    · exact r 128 32 (by omega) (by omega) chk4_4
    by_cases h6 : L < 192
    · exact r 160 32 (by omega) (by omega) chk4_5
    by_cases h7 : L < 224
    · exact r 192 32 (by omega) (by omega) chk4_6
    by_cases h8 : L < 256
    · exact r 224 32 (by omega) (by omega) chk4_7
    · have : L = 256 := by omega
      subst this
      exact chk4_8
theorem cutL_nat {α : Type} (xs : List α) (a s : Nat) : cutL xs (some (a : Int)) (some ((a : Int) + (s : Int))) = (xs.drop a).take s := by
  unfold cutL
  rw [show ((a : Int) + (s : Int)) = ((a + s : Nat) : Int) by omega, HT.sIx_nat, HT.sIx_nat]
  by_cases h : a ≤ xs.length
  · rw [Nat.min_eq_left h]
    by_cases h2 : a + s ≤ xs.length
    · rw [Nat.min_eq_left h2, Nat.add_sub_cancel_left]
    · rw [Nat.min_eq_right (by omega), List.take_of_length_le (by rw [List.length_drop]; omega), List.take_of_length_le (by rw [List.length_drop]; omega)]
  · rw [List.drop_eq_nil_of_le (by omega), List.drop_eq_nil_of_le (by omega)]; simp
theorem cnt_ok (L : Nat) : ∀ w : List Nat, ((cW w).filter fun y => decide (y ≤ (L : Int))).length = cntN L w
  | [] => rfl
  | x :: xs => by
    show (List.filter _ ((x : Int) :: cW xs)).length = _
    rw [List.filter_cons]
    unfold cntN
    by_cases h : x ≤ L
    · rw [if_pos (by simpa using h), show Nat.ble x L = true from Nat.ble_eq.mpr h, List.length_cons, cnt_ok L xs]; rfl
    · have : Nat.ble x L = false := by
        cases q : Nat.ble x L with
        | true => exact absurd (Nat.ble_eq.mp q) h
        | false => rfl
      rw [if_neg (by simpa using h), this, cnt_ok L xs]; rfl
theorem sum_ok {R : Type} {f : Int → List Int → Rs (Ctl Int R)} (L b s : Nat) : ∀ (ws : List (List Nat)) (a : Int), (∀ w ∈ ws, ∀ a, f a (cW w) = .ok (.nx (a + (cntN L ((w.drop b).take s) : Nat)))) → forR f (cR ws) a = .ok (.nx (a + (sumN L b s ws : Nat)))
  | [], a, _ => by simp [forR, sumN]
  | w :: ws, a, h => by
    show forR f (cW w :: cR ws) a = _
    unfold forR
    rw [h w List.mem_cons_self, Rs.bnd_ok]
    show forR f (cR ws) _ = _
    rw [sum_ok L b s ws _ fun w' hw => h w' (List.mem_cons_of_mem _ hw)]
    rw [show sumN L b s (w :: ws) = cntN L ((w.drop b).take s) + sumN L b s ws from rfl, Int.natCast_add, Int.add_assoc]
theorem forR_flat {α β R : Type} {f : List β → α → Rs (Ctl (List β) R)} (g : α → List β) (c : Nat) : ∀ (xs : List α) (acc : List β), (∀ x ∈ xs, (g x).length ≤ c ∧ ∀ s : List β, s.length + c ≤ 1000000 → f s x = .ok (.nx (s ++ g x))) → acc.length + xs.length * c ≤ 1000000 → forR f xs acc = .ok (.nx (acc ++ xs.flatMap g))
  | [], acc, _, _ => by simp [forR]
  | x :: xs, acc, h, hl => by
    rw [List.length_cons, Nat.succ_mul] at hl
    obtain ⟨h1, h2⟩ := h x List.mem_cons_self
    unfold forR
    rw [h2 acc (by omega), Rs.bnd_ok]
    show forR f xs (acc ++ g x) = _
    rw [forR_flat g c xs _ (fun y hy => h y (List.mem_cons_of_mem _ hy)) (by rw [List.length_append]; omega), List.flatMap_cons, List.append_assoc]
theorem stN_eq (n s : Nat) : rngS 0 (n : Nat) (s : Nat) = (stN n s).map fun (k : Nat) => (k : Int) := by
  unfold rngS stN
  rw [List.map_map]
  apply List.map_congr_left
  intro k _
  show (0 : Int) + (k : Nat) * (s : Nat) = ((k * s : Nat) : Int)
  rw [Int.natCast_mul]; omega
theorem squares_ok (R : List (List Nat)) (s L : Nat) (hr : rngSOk 0 (R.length : Nat) (s : Nat) = true) (hR : ∀ w ∈ R, w.length ≤ 1000) (hc : (stN R.length s).length ≤ 100) : m_law_squares (cR R) (s : Nat) (L : Nat) = .ok ((sqsN R s L).map fun (k : Nat) => (k : Int)) := by
  unfold m_law_squares
  rw [show (((cR R).length : Nat) : Int) = ((R.length : Nat) : Int) by rw [List.length_map], grd_of hr, stN_eq]
  rw [forR_flat (fun (y1 : Int) => (stN R.length s).map fun b => ((sumN L b s ((R.drop y1.toNat).take s) : Nat) : Int)) (stN R.length s).length _ _ ?h1 ?h2]
  case h2 => rw [List.length_nil, List.length_map]; have := Nat.mul_le_mul hc hc; omega
  case h1 =>
    intro y1 hy1
    obtain ⟨a, _, rfl⟩ := List.mem_map.mp hy1
    refine ⟨by rw [List.length_map]; exact Nat.le_refl _, fun acc hacc => ?_⟩
    rw [grd_of hr]
    rw [forR_app (fun (y2 : Int) => ((sumN L y2.toNat s ((R.drop a).take s) : Nat) : Int)) _ _ ?h3 ?h4]
    case h4 => rw [List.length_map]; omega
    case h3 =>
      intro y2 hy2 acc2 hacc2
      obtain ⟨b, _, rfl⟩ := List.mem_map.mp hy2
      rw [show cutL (cR R) (some (a : Int)) (some ((a : Int) + (s : Int))) = cR ((R.drop a).take s) by rw [cutL_nat]; show _ = List.map _ _; rw [List.map_take, List.map_drop]]
      rw [sum_ok L b s _ _ ?h5]
      case h5 =>
        intro w hw a2
        have hw2 : w ∈ R := List.mem_of_mem_drop (List.mem_of_mem_take hw)
        have e : cutL (cW w) (some (b : Int)) (some ((b : Int) + (s : Int))) = cW ((w.drop b).take s) := by rw [cutL_nat]; show _ = List.map _ _; rw [List.map_take, List.map_drop]
        rw [e, grd_of (by rw [List.length_map, List.length_take, List.length_drop]; have := hR w hw2; omega)]
        rw [mapR_filter (fun y => decide (y ≤ (L : Int))) _ (fun x _ => by by_cases z : x ≤ (L : Int) <;> simp [z]), Rs.bnd_ok, cnt_ok]
      rw [Rs.thn_nx, grd_of hacc2]
      rw [Int.zero_add]; rfl
    rw [Rs.thn_nx, List.map_map]
    rfl
  rw [Rs.thn_nx, List.nil_append]
  congr 1
  unfold sqsN
  rw [List.flatMap_map, List.map_flatMap]
  congr 1
  funext a
  rw [List.map_map]; rfl

theorem shape : ∀ t < 5, (dN t).length = 2 ^ t ∧ (∀ w ∈ dN t, w.length ≤ 1000) ∧ ∀ k < t + 1, rngSOk 0 ((dN t).length : Nat) ((2 ^ k : Nat) : Int) = true ∧ (stN (dN t).length (2 ^ k)).length ≤ 100 := by decide +kernel
theorem even_ok (t L : Nat) (c : Int) (ht : t < 5) (hL : L ≤ 4 ^ t) : Post (m_law_even (c, cR (dN t)) (L : Nat)) (fun b => b = true) fun _ _ => False := by
  obtain ⟨s1, s2, s3⟩ := shape t ht
  have ck := chk_ok t L ht hL
  unfold chkN at ck
  rw [Bool.and_eq_true] at ck
  have ck2 := List.all_eq_true.mp ck.2
  have p5 : 2 ^ (t + 1) ≤ 32 := by
    have := Nat.pow_le_pow_right (show 0 < 2 by decide) (show t + 1 ≤ 5 by omega)
    exact this
  unfold m_law_even
  refine w_thn (w_while (fun x => ∃ k, k ≤ t + 1 ∧ x = ((2 ^ k : Nat) : Int)) (fun x => (64 - x).toNat) ?_ _ _ ⟨0, by omega, rfl⟩ (by decide))
  rintro x ⟨k, hk, rfl⟩
  refine w_ok ?_
  by_cases hp : ((2 ^ k : Nat) : Int) ≤ (((c, cR (dN t)).2.length : Nat) : Int)
  · rw [if_pos (decide_eq_true hp)]
    rw [show (((c, cR (dN t)).2.length : Nat) : Int) = ((2 ^ t : Nat) : Int) by rw [List.length_map, s1]] at hp
    have hk2 : k < t + 1 := by
      have : 2 ^ k ≤ 2 ^ t := by exact_mod_cast hp
      have := (Nat.pow_le_pow_iff_right (a := 2) (by decide)).mp this
      omega
    obtain ⟨r1, r2⟩ := s3 k hk2
    show Post ((m_law_squares (cR (dN t)) ((2 ^ k : Nat) : Int) (L : Nat)).bnd _) _ _
    rw [squares_ok (dN t) (2 ^ k) L r1 s2 r2, Rs.bnd_ok]
    have q := ck2 k (by rw [List.mem_range]; exact hk2)
    rw [Bool.and_eq_true] at q
    have q1 : 0 < (sqsN (dN t) (2 ^ k) L).length := by simpa using q.1
    have q3 : (sqsN (dN t) (2 ^ k) L).length ≤ 10000 := by
      unfold sqsN
      rw [List.length_flatMap]
      simp only [List.length_map]
      have := Nat.mul_le_mul r2 r2
      simp [List.map_const'] at this ⊢
      omega
    have q2 := List.all_eq_true.mp q.2
    generalize sqsN (dN t) (2 ^ k) L = z at q1 q2 q3
    rw [List.length_map]
    refine w_grd (DK.divOk_of (by omega) (by omega)) (w_thn (w_for (fun rest _ => ∀ y ∈ rest, ∃ m ∈ z, y = ((m : Nat) : Int)) ?_ ?_ _ _ ?_))
    · rintro y rest _ hI
      obtain ⟨m, hm, rfl⟩ := hI y List.mem_cons_self
      have e := q2 m hm
      rw [Bool.and_eq_true, Nat.ble_eq, Nat.ble_eq] at e
      have d1 : ((L : Int) / ((z.length : Nat) : Int)) = ((L / z.length : Nat) : Int) := by omega
      have d2 : ((L : Int) % ((z.length : Nat) : Int)) = ((L % z.length : Nat) : Int) := by omega
      simp only [d1, d2]
      generalize L / z.length = u at e
      generalize L % z.length = v at e
      rw [if_neg (by omega)]
      rw [Rs.bnd_ok, if_neg]
      · exact fun y hy => hI y (List.mem_cons_of_mem _ hy)
      · simp only [decide_eq_true_eq, Int.not_lt]
        by_cases hv : 0 < v
        · have : Nat.blt 0 v = true := by simpa using hv
          rw [this] at e
          rw [if_pos (by omega)]
          have := e.2
          simp only [cond_true] at this
          omega
        · have : v = 0 := by omega
          subst this
          rw [if_neg (by omega)]
          have e2 := e.2
          rw [show Nat.blt 0 0 = false from rfl] at e2
          simp only [cond_false] at e2
          omega
    · intro _ _
      refine ⟨⟨k + 1, by omega, ?_⟩, ?_⟩
      · rw [Nat.pow_succ]; omega
      · have h2 : 2 ^ (k + 1) = 2 * 2 ^ k := by rw [Nat.pow_succ]; omega
        have : 2 ^ (k + 1) ≤ 2 ^ (t + 1) := Nat.pow_le_pow_right (by decide) (by omega)
        have h3 : 0 < 2 ^ k := Nat.pow_pos (by decide)
        omega
    · intro y hy
      obtain ⟨m, hm, rfl⟩ := List.mem_map.mp hy
      exact ⟨m, hm, rfl⟩
  · rw [if_neg (by simpa using hp)]
    rfl
def cI (L : Int) (xs : List Int) : Nat := (xs.filter fun y => decide (y ≤ L)).length
def tI (L : Int) : List (List Int) → Nat
  | [] => 0
  | w :: ws => cI L w + tI L ws
theorem cI_cons (L x : Int) (xs : List Int) : cI L (x :: xs) = (if x ≤ L then 1 else 0) + cI L xs := by
  unfold cI
  rw [List.filter_cons]
  by_cases h : x ≤ L
  · rw [if_pos (by simpa using h), if_pos h, List.length_cons]; omega
  · rw [if_neg (by simpa using h), if_neg h]; omega
theorem enumI_snd {α : Type} (xs : List α) : (enumI xs).map Prod.snd = xs := by
  unfold enumI
  rw [List.map_map, List.zipIdx_eq_zip_range', show (Prod.snd ∘ fun (p : α × Nat) => ((p.2 : Int), p.1)) = Prod.fst from rfl, List.map_fst_zip]
  simp
theorem tot_eq (L : Nat) : ∀ R : List (List Nat), tI (L : Int) (cR R) = totN L R
  | [] => rfl
  | w :: R => by
    show cI _ (cW w) + tI _ (cR R) = cntN L w + totN L R
    rw [tot_eq L R]
    unfold cI
    rw [cnt_ok]
theorem level_ok (rows : List (List Int)) (c L : Int) (hT : tI L rows ≤ 1000000) : Post (m_level_of (c, rows) L) (fun cells => cells.length = tI L rows) fun _ _ => False := by
  unfold m_level_of
  refine w_thn (w_for (fun (rest : List (Int × List Int)) acc => acc.length + tI L (rest.map Prod.snd) = tI L rows) ?_ (fun s h => by have h0 : s.length + 0 = _ := h; show s.length = _; omega) _ _ (by show 0 + tI L ((enumI rows).map Prod.snd) = _; rw [enumI_snd]; omega))
  rintro ⟨i, w⟩ rest acc hI
  have hI2 : acc.length + (cI L w + tI L (rest.map Prod.snd)) = tI L rows := hI
  refine w_thn (w_for (fun (r2 : List (Int × Int)) acc2 => acc2.length + cI L (r2.map Prod.snd) = acc.length + cI L w) ?_ (fun s h => ?_) _ _ (by show _ + cI L ((enumI w).map Prod.snd) = _; rw [enumI_snd]))
  · rintro ⟨j, x⟩ r2 acc2 hJ
    have hJ2 : acc2.length + cI L (x :: r2.map Prod.snd) = acc.length + cI L w := hJ
    rw [cI_cons] at hJ2
    refine w_thn (w_if (fun hx => ?_) fun hx => ?_)
    · rw [if_pos (show x ≤ L from hx)] at hJ2
      refine w_grd (by omega) ?_
      show (acc2 ++ [(i, j)]).length + _ = _
      rw [List.length_append]; simp only [List.length_cons, List.length_nil]; omega
    · rw [if_neg (show ¬ x ≤ L from hx)] at hJ2
      show acc2.length + _ = _
      omega
  · have h2 : s.length + 0 = acc.length + cI L w := h
    show s.length + tI L (rest.map Prod.snd) = _
    omega
theorem law_true (ns : List Int) (hl : ns.length ≤ 63) : Post (m_law ns) (fun b => b = true) fun _ _ => False := by
  unfold m_law
  refine w_thn (w_grd (by decide) (w_for (fun (rest : List Int) at_ => ∃ n : Int, at_ = [n] ∧ 0 ≤ n ∧ n + rest.length * 7 ≤ 14) ?_ (fun _ _ => rfl) _ _ ⟨0, rfl, by decide, by decide⟩))
  rintro y1 rest at_ ⟨n, rfl, n0, n1⟩
  rw [List.length_cons] at n1
  obtain ⟨m, hm, m0, m1⟩ := next_ok ns n n0 (by omega)
  rw [hm, Rs.bnd_ok]
  obtain ⟨t, ht, et⟩ : ∃ t : Nat, t < 5 ∧ m % 5 = (t : Nat) := ⟨(m % 5).toNat, by omega, by omega⟩
  simp only [et, tile_ok0 t ht, Rs.bnd_ok]
  have p4 : 0 < 4 ^ t := Nat.pow_pos (by decide)
  have p5 : 4 ^ t ≤ 256 := by
    have := Nat.pow_le_pow_right (show 0 < 4 by decide) (show t ≤ 4 by omega)
    exact this
  refine w_thn (w_grd (by decide) (w_for (fun (r2 : List Int) at_ => ∃ k : Int, at_ = [k] ∧ 0 ≤ k ∧ k + r2.length = n + 7) ?_ ?_ _ _ ⟨n + 1, rfl, by omega, by rw [rngI_len]; omega⟩))
  · rintro y2 r2 at2 ⟨k, rfl, k0, k1⟩
    rw [List.length_cons] at k1
    obtain ⟨x, hx, x0, x1⟩ := next_ok ns k k0 (by omega)
    rw [hx, Rs.bnd_ok]
    refine w_grd (by omega) ?_
    have z0 := Int.emod_nonneg x (b := ((4 ^ t : Nat) : Int) + 1) (by omega)
    have z1 := Int.emod_lt_of_pos x (b := ((4 ^ t : Nat) : Int) + 1) (by omega)
    have lev : ∀ L : Int, 0 ≤ L → L ≤ ((4 ^ t : Nat) : Int) → Post (m_law_even (((4 ^ t : Nat) : Int), cR (dN t)) L) (fun b => b = true) (fun _ _ => False) ∧ Post (m_level_of (((4 ^ t : Nat) : Int), cR (dN t)) L) (fun c => (c.length : Int) = L) fun _ _ => False := by
      intro L l0 l1
      obtain ⟨l, rfl⟩ : ∃ l : Nat, L = (l : Nat) := ⟨L.toNat, by omega⟩
      have ll : l ≤ 4 ^ t := by omega
      have ck := chk_ok t l ht ll
      unfold chkN at ck
      rw [Bool.and_eq_true] at ck
      have tt : tI (l : Int) (cR (dN t)) = l := by rw [tot_eq]; exact Nat.eq_of_beq_eq_true ck.1
      exact ⟨even_ok t l _ ht ll, (level_ok (cR (dN t)) ((4 ^ t : Nat) : Int) (l : Int) (by omega)).mono fun c hc => by rw [hc, tt]⟩
    have go : ∀ L : Int, 0 ≤ L → L ≤ ((4 ^ t : Nat) : Int) → Post (Rs.bnd ((m_law_even (((4 ^ t : Nat) : Int), cR (dN t)) L).bnd fun x7 => if x7 = true then ((m_level_of (((4 ^ t : Nat) : Int), cR (dN t)) L).bnd fun x8 => .ok (!decide ((x8.length : Int) = L))) else (.ok true)) fun b1 => if b1 = true then (.ok (.rt false)) else (.ok (.nx [k + 1])) : Rs (Ctl (List Int) Bool)) (Ctl.on (fun s' => ∃ k : Int, s' = [k] ∧ 0 ≤ k ∧ k + r2.length = n + 7) (fun _ => False) fun _ => False) fun _ _ => False := by
      intro L l0 l1
      obtain ⟨q1, q2⟩ := lev L l0 l1
      refine w_bnd (w_call q1 fun b hb => ?_)
      rw [if_pos hb]
      refine w_call q2 fun c hc => ?_
      refine w_ok ?_
      rw [if_neg (by simp [hc])]
      exact ⟨k + 1, rfl, by omega, by omega⟩
    refine w_thn (w_if (fun hy => ?_) fun hy => ?_)
    · exact (go (x % (((4 ^ t : Nat) : Int) + 1) / 4 * 4) (by omega) (by omega)).mono fun c p => by cases c <;> first | exact p | exact p.elim
    · exact (go (x % (((4 ^ t : Nat) : Int) + 1)) z0 (by omega)).mono fun c p => by cases c <;> first | exact p | exact p.elim
  · rintro s ⟨k, rfl, k0, k1⟩
    have k2 : k + 0 = n + 7 := k1
    exact ⟨k, rfl, k0, by omega⟩

end Dot
namespace Dot
open PySem PySem.Spec PyProof.Rows L2 DK
theorem end_law {P : Program} {w : World} {K : PySem.W.Frag} {mg : Str → Option Value} (T : TX K mg) : ∃ fd : FuncData, (∀ (s : Shared) (v : Value), BindsTo s fd ⟨[v], []⟩ [("_law_script", v)]) ∧ ∀ base : Heap, FnOk P w K mg base (L2.CX P w) 5 (He.ga K "law") fd (["_law_script"] : List Str) (sp_law K) := by
  obtain ⟨fd, F0⟩ := T.says.def_ 8 (d := d_law) rfl
  have F : FunD K d_law.name d_law.qual d_law.params d_law.body d_law.scope [] [] (He.ga K "law") fd := F0
  refine ⟨fd, fun s v => (FunD.bindsA (ps := (["_law_script"] : List Str)) F fun _ _ _ _ _ _ us hl => match us, hl with | [_], _ => rfl) s [v] rfl, fun base => ?_⟩
  have c_law_next := ok_law_next (P := P) (w := w) (base := base) T 
  have c_doubled_once := ok_doubled_once (P := P) (w := w) (base := base) T 
  have c_rows_kept := ok_rows_kept (P := P) (w := w) (base := base) T 
  have m_Tile := mk_Tile (P := P) (w := w) (base := base) T c_rows_kept
  have c_doubled_tile := ok_doubled_tile (P := P) (w := w) (base := base) T c_doubled_once m_Tile
  have c_law_squares := ok_law_squares (P := P) (w := w) (base := base) T 
  have c_law_even := ok_law_even (P := P) (w := w) (base := base) T c_law_squares
  have c_level_of := ok_level_of (P := P) (w := w) (base := base) T 
  exact fn_law T F c_law_next c_doubled_tile c_law_even c_level_of
theorem law_asked {K : PySem.W.Frag} (H : Hp) (a : Addr) (ns : List Int) (hl : ns.length ≤ 63) (hO : Only H) (hS : SqL K H a (ns.map V.int)) : sp_law K [.ref a] H (fun v _ => v = .bl true) fun _ _ _ => False :=
  ⟨_, rfl, H, ns, Same.refl H, ⟨⟨a, rfl, hS⟩, hl⟩, (law_true ns hl).mono fun b hb _ _ _ => by rw [hb]⟩
end Dot
open PySem PySem.W PySem.Calls PyProof.Rows
set_option maxRecDepth 100000 in
set_option maxHeartbeats 0 in
theorem PySem.Challenge.cw_dotscreen_k12_doubled_even_holds : PySem.Challenge.rw_dotscreen_k12_doubled_even.Holds := by
  w_on; o_law
  refine HandSHeadRun.head_any (r := OpenLaw.row PySem.Challenge.rw_dotscreen_k12_doubled_even) (q := view (OpenLaw.row PySem.Challenge.rw_dotscreen_k12_doubled_even).prog [15]) (H := Dot.hk) (ob := Dot.ob) (M := 20000) (loose := Dot.loose) (d := HandSHeadRun.topDef (OpenLaw.row PySem.Challenge.rw_dotscreen_k12_doubled_even).prog 15) (kwd := []) Dot.ob_eq
    (by kernel_rfl) (fun s => by kernel_rfl) Dot.run (by kernel_rfl) (by kernel_rfl) (by kernel_rfl) (by rfl) (by first | assumption | decide +kernel) (by decide +kernel) ⟨rfl, rfl, rfl, rfl, rfl, by decide +kernel⟩ ?hw ?hc
  case hw => w_witness2
  case hc =>
    refine DK.walk_ofX (l := PySem.Challenge.rw_dotscreen_k12_doubled_even) (n := 63) (k := 5) (x := "_law_script") rfl (by decide) (by kernel_rfl) ⟨rfl, by decide, by decide⟩ ?F
    intro w mg fa h Y G hmg0
    obtain ⟨K, KX, c⟩ := Y
    have hmg : mg ("law" : PySem.Str) = some (.ref fa) := by
      have e : (HandSHeadRun.topDef (OpenLaw.row PySem.Challenge.rw_dotscreen_k12_doubled_even).prog 15).name = ("law" : PySem.Str) := by kernel_rfl
      rw [← e]
      exact hmg0
    have T : Dot.TX K mg := ⟨c, h, KX, G⟩
    have e := hmg.symm.trans (T.glo 15 (x := "law") rfl)
    cases e
    obtain ⟨fd, hb, hF⟩ := Dot.end_law (P := (PySem.Challenge.rw_dotscreen_k12_doubled_even).prog) (w := w) T
    exact ⟨K, fd, Dot.sp_law K, KX, hb, fun H a ns hl hO hS => Dot.law_asked H a ns hl hO hS, fun base _ _ => hF base⟩
