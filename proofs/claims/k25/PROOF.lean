import PyProof.Rows.All
import Wide.All
import OpenK.AllK
import Wide.FinOn
import HandS.Base
import HandS.Call
import HandS.List
import HandS.Comp
import HandS.Ends
import HandS.Dict
import HandS.Iter
import HandS.Text
import HandS.Words
import HandS.WordsList
import HandS.WordsDict
import HandS.IsInst
import HandS.TupAny
import HandS.Conv
import HandS.RevRange
import HandS.TryOnly
import PySem.Challenge.RW_quickways_k25_whole_next_picks_go_throug
set_option Elab.async false
set_option linter.all false
set_option maxRecDepth 100000
set_option maxHeartbeats 4000000
namespace Q
open PySem L2

/-! ### operators by what stands there -/
section
variable {X : Cx}
def rAddD (K : PySem.W.Frag) : R2 := fun x y H Q => match x, y with
  | .int i, .int j => Q (.int (i + j)) H
  | .str a, .str b => a.length + b.length ≤ sizeLine ∧ Q (.str (a ++ b)) H
  | .ref a, .ref b => rCat (.ref a) (.ref b) H Q ∨ rCatA K (.ref a) (.ref b) H Q
  | _, _ => False
theorem op_addD : OpR X (binaryOp .Add) (rAddD X.K) := by
  intro pins s σ H x y v u Q I rx ry h
  match x, y, h with
  | .int i, .int j, h => exact op_add pins s σ H _ _ v u Q I rx ry ⟨i, j, rfl, rfl, h⟩
  | .str a, .str b, h => exact op_add_str pins s σ H _ _ v u Q I rx ry ⟨a, b, rfl, rfl, h.1, h.2⟩
  | .ref a, .ref b, h =>
    rcases h with h | h
    · exact op_cat pins s σ H _ _ v u Q I rx ry h
    · exact op_catA pins s σ H _ _ v u Q I rx ry h
def rMulD : R2 := fun x y H Q => match x, y with
  | .int i, .int j => CMul i j ∧ Q (.int (i * j)) H
  | .ref a, .int j => rRep (.ref a) (.int j) H Q
  | _, _ => False
theorem op_mulD : OpR X (binaryOp .Mult) rMulD := by
  intro pins s σ H x y v u Q I rx ry h
  match x, y, h with
  | .int i, .int j, h => exact op_mul pins s σ H _ _ v u Q I rx ry ⟨i, j, rfl, rfl, h.1, h.2⟩
  | .ref a, .int j, h => exact op_rep pins s σ H _ _ v u Q I rx ry h
def rEqX (K : PySem.W.Frag) : R2 := fun x y H Q => rEq x y H Q ∨ rEqD K x y H Q
theorem op_eqX (hu : X.A.units + 64 < cLine) : OpR X (compareOp .Eq) (rEqX X.K) := by
  intro pins s σ H x y v u Q I rx ry h
  rcases h with h | h
  · exact op_eq pins s σ H _ _ v u Q I rx ry h
  · exact op_eqD hu pins s σ H _ _ v u Q I rx ry h
def rNeX (K : PySem.W.Frag) : R2 := fun x y H Q => rNe x y H Q ∨ rNeD K x y H Q
theorem op_neX (hu : X.A.units + 64 < cLine) : OpR X (compareOp .NotEq) (rNeX X.K) := by
  intro pins s σ H x y v u Q I rx ry h
  rcases h with h | h
  · exact op_ne pins s σ H _ _ v u Q I rx ry h
  · exact op_neD hu pins s σ H _ _ v u Q I rx ry h
def rSlX (K : PySem.W.Frag) : V → Option Int → Option Int → Hp → VK → Prop := fun x lo hi H Q => rSlL K x lo hi H Q ∨ rSlA K x lo hi H Q ∨ rSlS x lo hi H Q
theorem sl_X : SlR X (rSlX X.K) := by
  intro pins s σ H x v vl vu lo hi sl Q I rx hs pl pu h
  rcases h with h | h | h
  · exact sl_list pins s σ H x v vl vu lo hi sl Q I rx hs pl pu h
  · exact sl_tupA pins s σ H x v vl vu lo hi sl Q I rx hs pl pu h
  · exact sl_str pins s σ H x v vl vu lo hi sl Q I rx hs pl pu h

def rSubD : R2 := fun x y H Q => match x, y with
  | .int i, .int j => Q (.int (i - j)) H
  | _, _ => False
theorem op_subD : OpR X (binaryOp .Sub) rSubD := by
  intro pins s σ H x y v u Q I rx ry h
  match x, y, h with
  | .int i, .int j, h => exact op_sub pins s σ H _ _ v u Q I rx ry ⟨i, j, rfl, rfl, h⟩
def rFdivD : R2 := fun x y H Q => match x, y with
  | .int i, .int j => CDiv i j ∧ Q (.int (i / j)) H
  | _, _ => False
theorem op_fdivD : OpR X (binaryOp .FloorDiv) rFdivD := by
  intro pins s σ H x y v u Q I rx ry h
  match x, y, h with
  | .int i, .int j, h => exact op_fdiv pins s σ H _ _ v u Q I rx ry ⟨i, j, rfl, rfl, h.1, h.2⟩
def rModD : R2 := fun x y H Q => match x, y with
  | .int i, .int j => 0 < j ∧ Q (.int (i % j)) H
  | _, _ => False
theorem op_modD : OpR X (binaryOp .Mod) rModD := by
  intro pins s σ H x y v u Q I rx ry h
  match x, y, h with
  | .int i, .int j, h => exact op_mod pins s σ H _ _ v u Q I rx ry ⟨i, j, rfl, rfl, h.1, h.2⟩
def rPowD : R2 := fun x y H Q => match x, y with
  | .int i, .int j => CPow i j ∧ Q (.int (i ^ j.toNat)) H
  | _, _ => False
theorem op_powD : OpR X (binaryOp .Pow) rPowD := by
  intro pins s σ H x y v u Q I rx ry h
  match x, y, h with
  | .int i, .int j, h => exact op_pow pins s σ H _ _ v u Q I rx ry ⟨i, j, rfl, rfl, h.1, h.2⟩
def rLtD : R2 := fun x y H Q => match x, y with
  | .int i, .int j => Q (.bl (decide (i < j))) H
  | .str i, .str j => Q (.bl (decide (i.cps.toList < j.cps.toList))) H
  | _, _ => False
theorem op_ltD : OpR X (compareOp .Lt) rLtD := by
  intro pins s σ H x y v u Q I rx ry h
  match x, y, h with
  | .int i, .int j, h => exact op_lt pins s σ H _ _ v u Q I rx ry ⟨i, j, rfl, rfl, h⟩
  | .str i, .str j, h => exact op_lt_str pins s σ H _ _ v u Q I rx ry ⟨i, j, rfl, rfl, h⟩
def rLeD : R2 := fun x y H Q => match x, y with
  | .int i, .int j => Q (.bl (decide (i ≤ j))) H
  | .str i, .str j => Q (.bl (!decide (j.cps.toList < i.cps.toList))) H
  | _, _ => False
theorem op_leD : OpR X (compareOp .LtE) rLeD := by
  intro pins s σ H x y v u Q I rx ry h
  match x, y, h with
  | .int i, .int j, h => exact op_le pins s σ H _ _ v u Q I rx ry ⟨i, j, rfl, rfl, h⟩
  | .str i, .str j, h => exact op_le_str pins s σ H _ _ v u Q I rx ry ⟨i, j, rfl, rfl, h⟩
def rGtD : R2 := fun x y H Q => match x, y with
  | .int i, .int j => Q (.bl (decide (j < i))) H
  | .str i, .str j => Q (.bl (decide (j.cps.toList < i.cps.toList))) H
  | _, _ => False
theorem op_gtD : OpR X (compareOp .Gt) rGtD := by
  intro pins s σ H x y v u Q I rx ry h
  match x, y, h with
  | .int i, .int j, h => exact op_gt pins s σ H _ _ v u Q I rx ry ⟨i, j, rfl, rfl, h⟩
  | .str i, .str j, h => exact op_gt_str pins s σ H _ _ v u Q I rx ry ⟨i, j, rfl, rfl, h⟩
def rGeD : R2 := fun x y H Q => match x, y with
  | .int i, .int j => Q (.bl (decide (j ≤ i))) H
  | .str i, .str j => Q (.bl (!decide (i.cps.toList < j.cps.toList))) H
  | _, _ => False
theorem op_geD : OpR X (compareOp .GtE) rGeD := by
  intro pins s σ H x y v u Q I rx ry h
  match x, y, h with
  | .int i, .int j, h => exact op_ge pins s σ H _ _ v u Q I rx ry ⟨i, j, rfl, rfl, h⟩
  | .str i, .str j, h => exact op_ge_str pins s σ H _ _ v u Q I rx ry ⟨i, j, rfl, rfl, h⟩
def rNeg : V → Hp → VK → Prop := rU fun i => .int (-i)
/-- is None, is not None -/
def rIsD : R2 := fun x y H Q => y = .non ∧ Q (.bl (decide (x = .non))) H
theorem op_isD : OpR X (compareOp .Is) rIsD := op_isN
def rIsnotD : R2 := fun x y H Q => y = .non ∧ Q (.bl (!decide (x = .non))) H
theorem op_isnotD : OpR X (compareOp .IsNot) rIsnotD := op_notN
/-- in: a flat sequence, a dict, a text -/
def rInD (K : PySem.W.Frag) : R2 := fun x y H Q => rIn K false x y H Q ∨ (∃ a o, y = .ref a ∧ DGet H a x o ∧ Q (.bl o.isSome) H) ∨
  ∃ (c : Nat) (z : Str), x = .str ⟨#[c]⟩ ∧ y = .str z ∧ Q (.bl (decide (c ∈ z.cps.toList))) H
theorem op_inD (hu : X.A.units + 64 < cLine) : OpR X (compareOp .In) (rInD X.K) := by
  intro pins s σ H x y v u Q I rx ry h
  rcases h with h | h | h
  · exact op_in_seq pins s σ H _ _ v u Q I rx ry h
  · obtain ⟨a, o, rfl, g, q⟩ := h
    obtain rfl : u = Value.ref a := ry
    exact d_in (Nat.lt_of_le_of_lt (by omega) hu) I g rx fun s3 I3 => ⟨.bl o.isSome, H, I3, rfl, q⟩
  · exact op_in_sign pins s σ H _ _ v u Q I rx ry h
def rNotInD (K : PySem.W.Frag) : R2 := fun x y H Q => rIn K true x y H Q ∨ (∃ a o, y = .ref a ∧ DGet H a x o ∧ Q (.bl (!o.isSome)) H) ∨
  ∃ (c : Nat) (z : Str), x = .str ⟨#[c]⟩ ∧ y = .str z ∧ Q (.bl (!decide (c ∈ z.cps.toList))) H
theorem op_notInD (hu : X.A.units + 64 < cLine) : OpR X (compareOp .NotIn) (rNotInD X.K) := by
  intro pins s σ H x y v u Q I rx ry h
  rcases h with h | h | h
  · exact op_notIn_seq pins s σ H _ _ v u Q I rx ry h
  · obtain ⟨a, o, rfl, g, q⟩ := h
    obtain rfl : u = Value.ref a := ry
    exact d_notIn (Nat.lt_of_le_of_lt (by omega) hu) I g rx fun s3 I3 => ⟨.bl (!o.isSome), H, I3, rfl, q⟩
  · exact op_notIn_sign pins s σ H _ _ v u Q I rx ry h
/-- o[i] -/
def rIxD (K : PySem.W.Frag) : R2 := fun x y H Q => rIx K x y H Q ∨ ∃ a v, x = .ref a ∧ DGet H a y (some v) ∧ Q v H
theorem ix_D (hu : X.A.units + 64 < cLine) : IxR X (rIxD X.K) := by
  intro value slice pins s σ H x y v u Q I rx ry h hs
  rcases h with h | ⟨a, z, rfl, g, q⟩
  · exact ix_seq value slice pins s σ H x y v u Q I rx ry h hs
  · obtain rfl : v = Value.ref a := rx
    exact PyProof.Rows.tail_any (dict_typeIs I g) PySem.F.slot_dict_getitem.lookup (d_getItem (Nat.lt_of_le_of_lt (by omega) hu) I g ry fun w' s3 I3 rw' => ⟨z, H, I3, rw', q⟩) hs
/-- o[i] = v -/
def rSetD : V → V → V → Hp → (Hp → Prop) → Prop := fun o i v H Q => rSetL o i v H Q ∨ ∃ a H', o = .ref a ∧ DPut H a i v H' ∧ Q H'
theorem set_D (hu : X.A.units + 64 < cLine) : PSet X rSetD := by
  intro pins s σ H o i v ov iv u Q I ro ri rv h
  rcases h with h | ⟨a, H', rfl, g, q⟩
  · exact set_list pins s σ H o i v ov iv u Q I ro ri rv h
  · obtain rfl : ov = Value.ref a := ro
    exact d_setItem (Nat.lt_of_le_of_lt (by omega) hu) I g ri rv fun s4 I4 => ⟨H', I4, q⟩
/-! ### built-ins -/
def rLenD (K : PySem.W.Frag) : List V → Hp → VK → Prop := fun xs H Q => (∃ x n, xs = [x] ∧ LenV K x H n ∧ (n ≤ 16777216 → Q (.int n) H)) ∨ ∃ a kvs, xs = [.ref a] ∧ H a = some (.dK kvs) ∧ Q (.int kvs.length) H
theorem call_lenX : CallR X (.builtin "len") (rLenD X.K) := by
  intro pins s σ H xs us Q I r h
  rcases h with ⟨x, n, rfl, e, q⟩ | h
  · refine call_len pins s σ H _ us Q I r ⟨x, n, rfl, e, q ?_⟩
    have hs : sizeLine = 16777216 := sizeLine_eq
    cases x with
    | str y => obtain ⟨h1, h2⟩ : y.length ≤ sizeLine ∧ n = y.length := e; omega
    | byt y => obtain ⟨h1, h2⟩ : y.size ≤ sizeLine ∧ n = y.size := e; omega
    | ref p =>
      rcases e with ⟨xs, hS, rfl⟩ | ⟨xs, hS, rfl⟩
      · obtain ⟨_, _, _, hz⟩ := I.list hS; omega
      · obtain ⟨_, _, _, hz⟩ := I.tuple hS; omega
    | _ => exact e.elim
  · exact call_lenD pins s σ H _ us Q I r h
def rIntD : List V → Hp → VK → Prop := fun xs H Q => match xs with
  | [.int i] => Q (.int i) H
  | _ => False
theorem call_intD : CallR X (.type "int") rIntD := by
  intro pins s σ H xs us Q I r h
  match xs, h with
  | [.int i], h => exact call_int1 pins s σ H _ us Q I r (.inl ⟨i, rfl, h⟩)
def rListD (K : PySem.W.Frag) : List V → Hp → VK → Prop := fun xs H Q => ∃ p ys, xs = [.ref p] ∧ (SqL K H p ys ∨ SqT K H p ys) ∧ ∀ l, H l = none → Q (.ref l) (upd H l (.lst ys))
theorem call_listD : CallR X (.type "list") (rListD X.K) := call_list_of
def rTupleD (K : PySem.W.Frag) : List V → Hp → VK → Prop := fun xs H Q => ∃ p ys, xs = [.ref p] ∧ ((SqL K H p ys ∧ ∀ l, H l = none → Q (.ref l) (upd H l (.tup ys))) ∨ (SqT K H p ys ∧ Q (.ref p) H))
theorem call_tupleD : CallR X (.type "tuple") (rTupleD X.K) := call_tuple_of
def rMinD (K : PySem.W.Frag) : List V → Hp → VK → Prop := fun xs H Q => match xs with
  | [.int i, .int j] => Q (.int (if j < i then j else i)) H
  | xs => rMin K xs H Q
theorem call_minD (hc : X.calm = true) : CallR X (.builtin "min") (rMinD X.K) := by
  intro pins s σ H xs us Q I r h
  unfold rMinD at h
  split at h
  · exact call_min2 hc pins s σ H _ us Q I r ⟨_, _, rfl, h⟩
  · exact cr_min hc pins s σ H _ us Q I r h
def rMaxD (K : PySem.W.Frag) : List V → Hp → VK → Prop := fun xs H Q => match xs with
  | [.int i, .int j] => Q (.int (if j > i then j else i)) H
  | xs => rMax K xs H Q
theorem call_maxD (hc : X.calm = true) : CallR X (.builtin "max") (rMaxD X.K) := by
  intro pins s σ H xs us Q I r h
  unfold rMaxD at h
  split at h
  · exact call_max2 hc pins s σ H _ us Q I r ⟨_, _, rfl, h⟩
  · exact cr_max hc pins s σ H _ us Q I r h
theorem call_isiD : CallR X (.builtin "isinstance") (rIsi X.K) := call_isi
/-! ### tests, loops, targets -/
def tTru (K : PySem.W.Frag) (ta : TE) : TT := fun σ H Q => ta σ H fun x H' => ∃ k, TruV K x H' k ∧ Q k H'
theorem pt_truthD {a : Expr} {ta : TE} (ha : PE X a ta) (he : ∀ whole, isTrue a X.env whole = (do let v ← whole; standAt a.pos; holding [v] (truthy v))) : PT X a (tTru X.K ta) := pt_truth ha he
def iSeq (K : PySem.W.Frag) (tl : TE) : TI := fun σ H R => tl σ H fun x H1 => ∃ a, x = .ref a ∧ (((∃ xs, SqL K H1 a xs) ∧ R (Itl K a) H1) ∨ ((∃ xs, SqT K H1 a xs) ∧ R (Itt K a) H1))
theorem pe_only {e : Expr} {te : TE} (h : PE X e te) (k : V → Hp → VK → Prop) : True := trivial
theorem pi_seq {tg l : Expr} {tl : TE} (hl : PE X l tl) : PI X tg l (iSeq X.K tl) := by
  refine ⟨fun pins s σ H R I h => ?_⟩
  refine thn (hl.run pins s σ H _ I h) fun v s1 ⟨x, H1, I1, r1, q1⟩ => ?_
  obtain ⟨a, e, q⟩ := q1
  subst e
  rcases q with ⟨hq, q⟩ | ⟨hq, q⟩
  · cases r1
    obtain ⟨xs, hq⟩ := hq
    obtain ⟨its, rv, p, hz⟩ := I1.list hq
    refine wpAny_pyIter_list p.isList ?_
    refine ⟨s1.heap.objs.size, [s1.heap.objs.size], _, _, H1, rfl, I1.kept (t' := s1.toks) fun b o e => Heap.get?_push_of_some _ e, turn_list a _, ⟨_, Heap.get?_push_size _ rfl, rfl, rfl⟩, fun b hb => ?_, q⟩
    have e : b = s1.heap.objs.size := by simpa using hb
    subst e
    exact I1.fpOk (Nat.le_refl _) (I1.hok.fresh (Nat.le_refl _))
  · cases r1
    obtain ⟨xs, hq⟩ := hq
    obtain ⟨its, rv, p, hz⟩ := I1.tuple hq
    refine wpAny_pyIter_tuple (show s1.heap.IsTuple a its.toArray from p) ?_
    refine ⟨s1.heap.objs.size, [s1.heap.objs.size], _, _, H1, rfl, I1.kept (t' := s1.toks) fun b o e => Heap.get?_push_of_some _ e, turn_tuple a _, ⟨_, Heap.get?_push_size _ rfl, rfl, rfl⟩, fun b hb => ?_, q⟩
    have e : b = s1.heap.objs.size := by simpa using hb
    subst e
    exact I1.fpOk (Nat.le_refl _) (I1.hok.fresh (Nat.le_refl _))
theorem gn (i : Nat) {x : Str} {pos : Pos} (nd : X.N.Nodup) (hN : X.N[i]? = some x := by rfl) (hx : Loc X.env.scope x := by first | exact Or.inl rfl | exact Or.inr rfl)
    (hf : X.fn x = true ∨ X.env.scope.names.lookup x = some .local := by first | exact .inl rfl | exact .inr rfl | assumption) : PG X (.Name x pos) (gName i) := pg_name nd hN hx hf
theorem sset (i : Nat) {x : Str} {e : Expr} {te : TE} {pos pos' : Pos} (nd : X.N.Nodup) (he : PE X e te) (hN : X.N[i]? = some x := by rfl) (hx : Loc X.env.scope x := by first | exact Or.inl rfl | exact Or.inr rfl)
    (hs : swapsWith e (some (.Name x pos')) pos.line X.env = pure false := by rfl) (hf : X.fn x = true ∨ X.env.scope.names.lookup x = some .local := by first | exact .inl rfl | exact .inr rfl | assumption) :
    PS X (.Assign [.Name x pos'] e pos) (tAsg te (gName i)) := ps_set nd hN hx he hs hf
theorem bt_len : bootBuiltins "len" = some (.builtin "len") := by decide +kernel
theorem bt_isinstance : bootBuiltins "isinstance" = some (.builtin "isinstance") := by decide +kernel
theorem bt_min : bootBuiltins "min" = some (.builtin "min") := by decide +kernel
theorem bt_max : bootBuiltins "max" = some (.builtin "max") := by decide +kernel
theorem bt_sum : bootBuiltins "sum" = some (.builtin "sum") := by decide +kernel
theorem bt_any : bootBuiltins "any" = some (.builtin "any") := by decide +kernel
theorem bt_all : bootBuiltins "all" = some (.builtin "all") := by decide +kernel
theorem bt_sorted : bootBuiltins "sorted" = some (.builtin "sorted") := by decide +kernel
theorem bt_int : bootBuiltins "int" = some (.type "int") := by decide +kernel
theorem bt_str : bootBuiltins "str" = some (.type "str") := by decide +kernel
theorem bt_bool : bootBuiltins "bool" = some (.type "bool") := by decide +kernel
theorem bt_list : bootBuiltins "list" = some (.type "list") := by decide +kernel
theorem bt_tuple : bootBuiltins "tuple" = some (.type "tuple") := by decide +kernel
theorem bt_dict : bootBuiltins "dict" = some (.type "dict") := by decide +kernel
theorem bt_set : bootBuiltins "set" = some (.type "set") := by decide +kernel
theorem bt_ValueError : bootBuiltins "ValueError" = some (.type "ValueError") := by decide +kernel

def gUnp (K : PySem.W.Frag) (n : Nat) (t : TGs) : TG := fun v σ H Q => gTup K n t v σ H Q ∨ gLst K n t v σ H Q
theorem pg_unp {pos : Pos} {es : List Expr} {k : Nat} {t : TGs} {n : Nat} (hc : X.calm = true) (h : PGs X es t)
    (hn : (assignEach es X.env).length = n := by rfl) (hst : (assignEach es X.env).findIdx? (·.1) = none := by rfl) : PG X (.Tuple es k pos) (gUnp X.K n t) := by
  refine ⟨fun pins s σ H v u Q I r hw => ?_⟩
  rcases hw with hw | hw
  · exact (pg_tup hc h hn hst).run pins s σ H v u Q I r hw
  · exact (pg_lst hc h hn hst).run pins s σ H v u Q I r hw
end
/-! ### step by step -/
section
variable {K : PySem.W.Frag} {D : Ends} {σ : St} {H : Hp} {Q : VK} {R : Bool → Hp → Prop} {S : List V → Hp → Prop} {te ta tb : TE} {tt tu : TT} {t u : TS} {i j : Int} {v x y : V} {n : Nat}
theorem w_seq (h : t { D with nx := u D } σ H) : tSeq t u D σ H := h
theorem w_next (h : D.nx σ H) : tNext D σ H := h
theorem w_asg {g : TG} (h : te σ H fun x H1 => g x σ H1 D.nx) : tAsg te g D σ H := h
theorem w_gname {N : St → Hp → Prop} (h : N (σ.set n (some v)) H) : gName n v σ H N := h
theorem w_gsub {to ti : TE} {ts : TSet} {N : St → Hp → Prop} (h : to σ H fun o H1 => ti σ H1 fun i H2 => ts o i v H2 fun H3 => N σ H3) : gSub to ti ts v σ H N := h
theorem w_drop (h : te σ H fun _ H1 => D.nx σ H1) : tDrop te D σ H := h
theorem w_ret (h : te σ H D.rt) : tRet te D σ H := h
theorem w_retN (h : D.rt .non H) : tRetN D σ H := h
theorem w_ifs (h : tt σ H fun b H1 => if b = true then t D σ H1 else u D σ H1) : tIfS tt t u D σ H := h
theorem w_var (e : σ[n]? = some (some v)) (h : Q v H) : tVar n σ H Q := ⟨v, e, h⟩
theorem w_c (h : Q v H) : tC v σ H Q := h
theorem w_op {r : R2} (h : ta σ H fun x H1 => tb σ H1 fun y H2 => r x y H2 Q) : tOp r ta tb σ H Q := h
theorem w_un {r : V → Hp → VK → Prop} (h : ta σ H fun x H1 => r x H1 Q) : tUn r ta σ H Q := h
theorem w_neg (h : Q (.int (-i)) H) : rNeg (.int i) H Q := ⟨i, rfl, h⟩
theorem w_test (h : te σ H fun x H' => ∃ k, x = .bl k ∧ R k H') : tTest te σ H R := h
theorem w_tB (h : te σ H fun x H' => ∃ k, x = .bl k ∧ R k H') : tB te σ H R := h
theorem w_tru (h : te σ H fun x H' => ∃ k, TruV K x H' k ∧ R k H') : tTru K te σ H R := h
theorem w_trub {b : Bool} {F : Bool → Prop} (h : F b) : ∃ k, TruV K (.bl b) H k ∧ F k := ⟨b, rfl, h⟩
theorem w_bl {b : Bool} {F : Bool → Prop} (h : F b) : ∃ k, V.bl b = .bl k ∧ F k := ⟨b, rfl, h⟩
theorem w_and (h : tt σ H fun c H1 => if c = true then tu σ H1 R else R false H1) : tAnd tt tu σ H R := h
theorem w_or (h : tt σ H fun c H1 => if c = true then R true H1 else tu σ H1 R) : tOr tt tu σ H R := h
theorem w_not (h : tt σ H fun c H1 => R (!c) H1) : tNot tt σ H R := h
theorem w_andV (h : ta σ H fun x H1 => ∃ c, x = .bl c ∧ if c = true then tb σ H1 Q else Q (.bl false) H1) : tAndV ta tb σ H Q := h
theorem w_orV (h : ta σ H fun x H1 => ∃ c, x = .bl c ∧ if c = true then Q (.bl true) H1 else tb σ H1 Q) : tOrV ta tb σ H Q := h
theorem w_notV (h : ta σ H fun x H1 => ∃ c, x = .bl c ∧ Q (.bl (!c)) H1) : tNotV ta σ H Q := h
theorem w_ifE (h : tt σ H fun c H1 => if c = true then ta σ H1 Q else tb σ H1 Q) : tIf tt ta tb σ H Q := h
theorem w_nil (h : S [] H) : tNil σ H S := h
theorem w_cons {tr : TA} (h : ta σ H fun x H1 => tr σ H1 fun xs H2 => S (x :: xs) H2) : tCons ta tr σ H S := h
theorem w_tup {ts : TA} (h : ts σ H fun xs H1 => xs.length ≤ sizeLine ∧ ∀ p, H1 p = none → Q (.ref p) (upd H1 p (.tup xs))) : tTup ts σ H Q := h
theorem w_lst {ts : TA} (h : ts σ H fun xs H1 => xs.length ≤ sizeLine ∧ ∀ p, H1 p = none → Q (.ref p) (upd H1 p (.lst xs))) : tLst ts σ H Q := h
theorem w_cb {r : List V → Hp → VK → Prop} {ts : TA} (h : ts σ H fun vs H1 => r vs H1 Q) : tCB r ts σ H Q := h
theorem w_call {sp : Sp} {E : XK} {ts : TA} (h : ts σ H fun vs H1 => sp vs H1 Q E) : tCall sp [] E ts σ H Q := by
  have e : (fun (vs : List V) (H1 : Hp) => sp (vs ++ []) H1 Q E) = fun vs H1 => sp vs H1 Q E := by funext vs H1; rw [List.append_nil]
  show ts σ H fun vs H1 => sp (vs ++ []) H1 Q E
  rw [e]; exact h
theorem w_sl {r : V → Option Int → Option Int → Hp → VK → Prop} {tl th : TO} (h : te σ H fun x H1 => tl σ H1 fun l H2 => th σ H2 fun u H3 => r x l u H3 Q) : tSl r te tl th σ H Q := h
theorem w_nopart {N : Option Int → Hp → Prop} (h : N none H) : tNoPart σ H N := h
theorem w_part {N : Option Int → Hp → Prop} (h : te σ H fun x H1 => ∃ i, x = .int i ∧ N (some i) H1) : tPart te σ H N := h
theorem w_pint {F : Int → Prop} (h : F i) : ∃ k, V.int i = .int k ∧ F k := ⟨i, rfl, h⟩
theorem w_bm {T : String} {r : V → List V → Hp → VK → Prop} {ts : TA} (h : te σ H fun x H1 => tyV K T x H1 ∧ ts σ H1 fun xs H2 => r x xs H2 Q) : tBM K T r te ts σ H Q := h
theorem w_bm0 {T : String} {r : V → List V → Hp → VK → Prop} (h : te σ H fun x H1 => tyV K T x H1 ∧ r x [] H1 Q) : tBM0 K T r te σ H Q := h
theorem w_addI (h : Q (.int (i + j)) H) : rAddD K (.int i) (.int j) H Q := h
theorem w_subI (h : Q (.int (i - j)) H) : rSubD (.int i) (.int j) H Q := h
theorem w_mulI (c : CMul i j) (h : Q (.int (i * j)) H) : rMulD (.int i) (.int j) H Q := ⟨c, h⟩
theorem w_mulR (c : -(2 ^ 64) < j ∧ j < 2 ^ 64) (h : Q (.int (i * j)) H) : rMulD (.int i) (.int j) H Q := ⟨.inr c, h⟩
theorem w_modI (c : 0 < j) (h : Q (.int (i % j)) H) : rModD (.int i) (.int j) H Q := ⟨c, h⟩
theorem w_fdivI (c : 0 < j ∧ j < 1073741824) (h : Q (.int (i / j)) H) : rFdivD (.int i) (.int j) H Q := ⟨c, h⟩
theorem w_powI (c : CPow i j) (h : Q (.int (i ^ j.toNat)) H) : rPowD (.int i) (.int j) H Q := ⟨c, h⟩
theorem w_ltI (h : Q (.bl (decide (i < j))) H) : rLtD (.int i) (.int j) H Q := h
theorem w_leI (h : Q (.bl (decide (i ≤ j))) H) : rLeD (.int i) (.int j) H Q := h
theorem w_gtI (h : Q (.bl (decide (j < i))) H) : rGtD (.int i) (.int j) H Q := h
theorem w_geI (h : Q (.bl (decide (j ≤ i))) H) : rGeD (.int i) (.int j) H Q := h
theorem w_eqI (h : Q (.bl (decide (i = j))) H) : rEqX K (.int i) (.int j) H Q := .inl ⟨rfl, by
  have e : decide (V.int i = V.int j) = decide (i = j) := by simp
  rw [e]; exact h⟩
theorem w_neI (h : Q (.bl (!decide (i = j))) H) : rNeX K (.int i) (.int j) H Q := .inl ⟨rfl, by
  have e : decide (V.int i = V.int j) = decide (i = j) := by simp
  rw [e]; exact h⟩
theorem w_eqS {i j : Str} (h : Q (.bl (decide (i = j))) H) : rEqX K (.str i) (.str j) H Q := .inl ⟨rfl, by
  have e : decide (V.str i = V.str j) = decide (i = j) := by simp
  rw [e]; exact h⟩
theorem w_eqB {i j : Bool} (h : Q (.bl (decide (i = j))) H) : rEqX K (.bl i) (.bl j) H Q := .inl ⟨rfl, by
  have e : decide (V.bl i = V.bl j) = decide (i = j) := by simp
  rw [e]; exact h⟩
theorem w_neS {i j : Str} (h : Q (.bl (!decide (i = j))) H) : rNeX K (.str i) (.str j) H Q := .inl ⟨rfl, by
  have e : decide (V.str i = V.str j) = decide (i = j) := by simp
  rw [e]; exact h⟩
theorem w_intI (h : Q (.int i) H) : rIntD [.int i] H Q := h
theorem w_isN (h : Q (.bl (decide (x = .non))) H) : rIsD x .non H Q := ⟨rfl, h⟩
theorem w_isnotN (h : Q (.bl (!decide (x = .non))) H) : rIsnotD x .non H Q := ⟨rfl, h⟩
theorem w_ite {c : Prop} {_ : Decidable c} {A B : Prop} (h1 : c → A) (h2 : ¬ c → B) : if decide c = true then A else B := by
  by_cases h : c
  · rw [if_pos (decide_eq_true h)]; exact h1 h
  · rw [if_neg (by simpa using h)]; exact h2 h
theorem w_iteN {c : Prop} {_ : Decidable c} {A B : Prop} (h1 : ¬ c → A) (h2 : c → B) : if (!decide c) = true then A else B := by
  by_cases h : c
  · rw [if_neg (by simpa using h)]; exact h2 h
  · rw [if_pos (by simpa using h)]; exact h1 h
theorem w_T {c : Prop} {_ : Decidable c} {A B : Prop} (hc : c) (h : A) : if decide c = true then A else B := by
  rw [if_pos (decide_eq_true hc)]; exact h
theorem w_F {c : Prop} {_ : Decidable c} {A B : Prop} (hc : ¬ c) (h : B) : if decide c = true then A else B := by
  rw [if_neg (by simpa using hc)]; exact h
theorem w_NT {c : Prop} {_ : Decidable c} {A B : Prop} (hc : ¬ c) (h : A) : if (!decide c) = true then A else B := by
  rw [if_pos (by simpa using hc)]; exact h
theorem w_NF {c : Prop} {_ : Decidable c} {A B : Prop} (hc : c) (h : B) : if (!decide c) = true then A else B := by
  rw [if_neg (by simpa using hc)]; exact h
theorem w_tt {A B : Prop} (h : A) : if true = true then A else B := by rw [if_pos rfl]; exact h
theorem w_ff {A B : Prop} (h : B) : if false = true then A else B := by rw [if_neg Bool.false_ne_true]; exact h
theorem w_ntt {A B : Prop} (h : A) : if (!false) = true then A else B := by rw [if_pos (by decide)]; exact h
theorem w_nff {A B : Prop} (h : B) : if (!true) = true then A else B := by rw [if_neg (by decide)]; exact h
/-! places -/
variable {p : Addr} {xs ys : List V}
theorem w_ixL (hp : H p = some (.lst xs)) (e : atI xs i = some v) (h : Q v H) : rIxD K (.ref p) (.int i) H Q := .inl (.inl ⟨p, xs, i, v, rfl, rfl, SqL.of hp, e, h⟩)
theorem w_ixT (hp : SqT K H p xs) (e : atI xs i = some v) (h : Q v H) : rIxD K (.ref p) (.int i) H Q := .inl (.inr (.inl ⟨p, xs, i, v, rfl, rfl, hp, e, h⟩))
theorem w_setL {N : Hp → Prop} {k : Nat} (hp : H p = some (.lst xs)) (e : ixN xs.length i = some k) (h : N (upd H p (.lst (xs.set k v)))) : rSetD (.ref p) (.int i) v H N := .inl ⟨p, xs, i, k, rfl, rfl, hp, e, h⟩
theorem w_lenL (hp : H p = some (.lst xs)) (h : xs.length ≤ 16777216 → Q (.int (xs.length : Int)) H) : rLenD K [.ref p] H Q := .inl ⟨_, xs.length, rfl, .inl ⟨xs, SqL.of hp, rfl⟩, h⟩
theorem w_lenT (hp : SqT K H p xs) (h : xs.length ≤ 16777216 → Q (.int (xs.length : Int)) H) : rLenD K [.ref p] H Q := .inl ⟨_, xs.length, rfl, .inr ⟨xs, hp, rfl⟩, h⟩
theorem w_lenS {z : Str} (hz : z.length ≤ sizeLine) (h : z.length ≤ 16777216 → Q (.int (z.length : Int)) H) : rLenD K [.str z] H Q := .inl ⟨_, z.length, rfl, ⟨hz, rfl⟩, h⟩
theorem w_cat {q : Addr} (hp : H p = some (.lst xs)) (hq : H q = some (.lst ys)) (hl : xs.length + ys.length ≤ sizeLine) (h : ∀ r, H r = none → Q (.ref r) (upd H r (.lst (xs ++ ys)))) : rAddD K (.ref p) (.ref q) H Q :=
  .inl ⟨p, q, xs, ys, rfl, rfl, hp, hq, hl, h⟩
theorem w_append (hp : H p = some (.lst xs)) (hl : xs.length < sizeLine) (h : Q .non (upd H p (.lst (xs ++ [v])))) : tyV K "list" (.ref p) H ∧ rAppend (.ref p) [v] H Q :=
  ⟨Or.inl ⟨rfl, _, SqL.of hp⟩, p, xs, v, rfl, rfl, hp, hl, h⟩
theorem w_app (hp : H p = some (.lst xs)) (hl : xs.length < sizeLine) (h : Q .non (upd H p (.lst (xs ++ [v])))) : rAppend (.ref p) [v] H Q := ⟨p, xs, v, rfl, rfl, hp, hl, h⟩
theorem tyL (hp : H p = some (.lst xs)) : tyV K "list" (.ref p) H := Or.inl ⟨rfl, _, SqL.of hp⟩
theorem w_unpL {n : Nat} {ts : TGs} {N : St → Hp → Prop} (hp : H p = some (.lst xs)) (e : xs.length = n) (h : ts xs σ H N) : gUnp K n ts (.ref p) σ H N := .inr ⟨p, xs, rfl, SqL.of hp, e, h⟩
theorem w_unpT {n : Nat} {ts : TGs} {N : St → Hp → Prop} (hp : SqT K H p xs) (e : xs.length = n) (h : ts xs σ H N) : gUnp K n ts (.ref p) σ H N := .inl ⟨p, xs, rfl, hp, e, h⟩
theorem w_gcons {g : TG} {ts : TGs} {N : St → Hp → Prop} (h : g x σ H fun σ' H' => ts xs σ' H' N) : gCons g ts (x :: xs) σ H N := ⟨x, xs, rfl, h⟩
theorem w_gnil {N : St → Hp → Prop} (h : N σ H) : gNil [] σ H N := ⟨rfl, h⟩
theorem w_min2 (h : Q (.int (if j < i then j else i)) H) : rMinD K [.int i, .int j] H Q := h
theorem w_max2 (h : Q (.int (if j > i then j else i)) H) : rMaxD K [.int i, .int j] H Q := h
theorem w_listL (hp : H p = some (.lst xs)) (h : ∀ l, H l = none → Q (.ref l) (upd H l (.lst xs))) : rListD K [.ref p] H Q := ⟨p, xs, rfl, .inl (SqL.of hp), h⟩
theorem w_slL {lo hi : Option Int} (hp : H p = some (.lst xs)) (h : ∀ l, H l = none → Q (.ref l) (upd H l (.lst (cutV xs lo hi)))) : rSlX K (.ref p) lo hi H Q := .inl ⟨p, xs, rfl, SqL.of hp, h⟩
end

/-! ### loops -/
def LoopR (J : It) (g : TG) (tb : TS) (D : Ends) (σ : St) (H : Hp) : Prop := ∃ W : Nat → Nat → St → Hp → Prop, (∃ m, W 0 m σ H) ∧ ∀ i m σ H, W i m σ H →
  (J.stop i H ∧ D.nx σ H) ∨ (J.go i H ∧ ∃ N : St → Hp → Prop, (∀ σ' H', N σ' H' → ∃ m', m' < m ∧ W (i + 1) m' σ' H') ∧ ∀ x H', J.yld i H x H' → g x σ H' fun σ2 H2 => tb { D with nx := N, ct := N, bk := D.nx } σ2 H2)
section
variable {K : PySem.W.Frag} {D : Ends} {σ : St} {H : Hp} {Q : VK} {wi : TI} {g : TG} {tb : TS} {te : TE} {R : It → Hp → Prop}
theorem w_for (h : wi σ H fun J H1 => LoopR J g tb D σ H1) : tFor wi g tb D σ H := h
theorem w_rng1 {ta : TA} (h : ta σ H fun vs H1 => ∃ j : Int, vs = [.int j] ∧ -(2 ^ 62) ≤ j ∧ j < 2 ^ 62 ∧ R (Itr 0 j.toNat) H1) : iRng1 ta σ H R := h
theorem w_rng2 {ta : TA} (h : ta σ H fun vs H1 => ∃ i j : Int, vs = [.int i, .int j] ∧ (-(2 ^ 62) ≤ i ∧ i < 2 ^ 62 ∧ -(2 ^ 62) ≤ j ∧ j < 2 ^ 62) ∧ R (Itr i (j - i).toNat) H1) : iRng2 ta σ H R := h
theorem w_rI {n : Int} {F : Int → Prop} (c : -(2 ^ 62) ≤ n ∧ n < 2 ^ 62) (h : F n) : ∃ j : Int, [V.int n] = [.int j] ∧ -(2 ^ 62) ≤ j ∧ j < 2 ^ 62 ∧ F j := ⟨n, rfl, c.1, c.2, h⟩
theorem w_rI2 {n m : Int} {F : Int → Int → Prop} (c : -(2 ^ 62) ≤ n ∧ n < 2 ^ 62 ∧ -(2 ^ 62) ≤ m ∧ m < 2 ^ 62) (h : F n m) : ∃ i j : Int, [V.int n, V.int m] = [.int i, .int j] ∧ (-(2 ^ 62) ≤ i ∧ i < 2 ^ 62 ∧ -(2 ^ 62) ≤ j ∧ j < 2 ^ 62) ∧ F i j := ⟨n, m, rfl, c, h⟩
theorem w_iseq (h : te σ H fun x H1 => ∃ a, x = .ref a ∧ (((∃ xs, SqL K H1 a xs) ∧ R (Itl K a) H1) ∨ ((∃ xs, SqT K H1 a xs) ∧ R (Itt K a) H1))) : iSeq K te σ H R := h
theorem w_seqL {a : Addr} {xs : List V} {F G : Addr → Prop} (hp : H a = some (.lst xs)) (h : F a) : ∃ b, V.ref a = .ref b ∧ (((∃ xs, SqL K H b xs) ∧ F b) ∨ ((∃ xs, SqT K H b xs) ∧ G b)) := ⟨a, rfl, .inl ⟨⟨xs, SqL.of hp⟩, h⟩⟩
theorem w_seqT {a : Addr} {xs : List V} {F G : Addr → Prop} (hp : SqT K H a xs) (h : G a) : ∃ b, V.ref a = .ref b ∧ (((∃ xs, SqL K H b xs) ∧ F b) ∨ ((∃ xs, SqT K H b xs) ∧ G b)) := ⟨a, rfl, .inr ⟨⟨xs, hp⟩, h⟩⟩
theorem w_revR {tr : St → Hp → (Int → Int → Hp → Prop) → Prop} (h : tr σ H fun a b H1 => -(2 ^ 62) ≤ a ∧ a < 2 ^ 62 ∧ -(2 ^ 62) ≤ b ∧ b < 2 ^ 62 ∧ R (Itc (a + (((b - a).toNat : Nat) : Int) - 1) (-1) (b - a).toNat) H1) : iRevR tr σ H R := h
theorem w_rg1 {N : Int → Int → Hp → Prop} (h : te σ H fun x H1 => ∃ n, x = .int n ∧ N 0 n H1) : tRg1 te σ H N := h
theorem loop_range {lo : Int} {n : Nat} (Pv : Nat → St → Hp → Prop) (h0 : Pv 0 σ H)
    (hs : ∀ i σ H, i < n → Pv i σ H → g (.int (lo + i)) σ H fun σ2 H2 => tb { D with nx := Pv (i + 1), ct := Pv (i + 1), bk := D.nx } σ2 H2) (hd : ∀ σ H, Pv n σ H → D.nx σ H) : LoopR (Itr lo n) g tb D σ H := for_range Pv h0 hs hd
theorem loop_rangeC {lo c : Int} {n : Nat} (Pv : Nat → St → Hp → Prop) (h0 : Pv 0 σ H)
    (hs : ∀ i σ H, i < n → Pv i σ H → g (.int (lo + (i : Nat) * c)) σ H fun σ2 H2 => tb { D with nx := Pv (i + 1), ct := Pv (i + 1), bk := D.nx } σ2 H2) (hd : ∀ σ H, Pv n σ H → D.nx σ H) : LoopR (Itc lo c n) g tb D σ H := for_rangeC Pv h0 hs hd
theorem loop_list {a : Addr} {xs : List V} (Pv : Nat → St → Hp → Prop) (h0 : Pv 0 σ H) (hl : ∀ i σ H, i ≤ xs.length → Pv i σ H → H a = some (.lst xs))
    (hs : ∀ i x σ H, xs[i]? = some x → Pv i σ H → g x σ H fun σ2 H2 => tb { D with nx := Pv (i + 1), ct := Pv (i + 1), bk := D.nx } σ2 H2) (hd : ∀ σ H, Pv xs.length σ H → D.nx σ H) : LoopR (Itl K a) g tb D σ H :=
  for_list Pv h0 (fun i σ H c p => SqL.of (hl i σ H c p)) hs hd
theorem loop_tup {a : Addr} {xs : List V} (Pv : Nat → St → Hp → Prop) (h0 : Pv 0 σ H) (hl : ∀ i σ H, i ≤ xs.length → Pv i σ H → SqT K H a xs)
    (hs : ∀ i x σ H, xs[i]? = some x → Pv i σ H → g x σ H fun σ2 H2 => tb { D with nx := Pv (i + 1), ct := Pv (i + 1), bk := D.nx } σ2 H2) (hd : ∀ σ H, Pv xs.length σ H → D.nx σ H) : LoopR (Itt K a) g tb D σ H :=
  for_tup Pv h0 hl hs hd
/-! comprehensions -/
def CompR (J : It) (g : TG) (tt : TT) (te : TE) (vs : List Nat) (Q : VK) (σ : St) (H1 : Hp) : Prop := ∀ E, H1 E = none → ∃ W : Nat → Nat → Hp → Prop, (∃ m, W 0 m (upd H1 E (.lst []))) ∧ ∀ i m H, W i m H →
  (J.stop i H ∧ Q (.ref E) H) ∨ (J.go i H ∧ ∃ Nx : Hp → Prop, (∀ H', Nx H' → ∃ m', m' < m ∧ W (i + 1) m' H') ∧ ∀ x H', J.yld i H x H' → g x (wipe σ vs) H' fun σ2 H2 => wipe σ2 vs = wipe σ vs ∧ tt σ2 H2 fun b H3 =>
    if b = true then te σ2 H3 fun y H4 => ∃ acc, H4 E = some (.lst acc) ∧ acc.length < sizeLine ∧ Nx (upd H4 E (.lst (acc ++ [y]))) else Nx H3)
theorem w_lc {tt : TT} {vs : List Nat} (h : wi σ H fun J H1 => CompR J g tt te vs Q σ H1) : tLc wi g tt te vs σ H Q := h
theorem comp_range {lo : Int} {n : Nat} {tt : TT} {vs : List Nat} (Pv : Addr → Nat → Hp → Prop) (h0 : ∀ E, H E = none → Pv E 0 (upd H E (.lst [])))
    (hs : ∀ E, H E = none → ∀ i H', i < n → Pv E i H' → g (.int (lo + i)) (wipe σ vs) H' fun σ2 H2 => wipe σ2 vs = wipe σ vs ∧ tt σ2 H2 fun b H3 =>
      if b = true then te σ2 H3 fun y H4 => ∃ acc, H4 E = some (.lst acc) ∧ acc.length < sizeLine ∧ Pv E (i + 1) (upd H4 E (.lst (acc ++ [y]))) else Pv E (i + 1) H3)
    (hd : ∀ E, H E = none → ∀ H', Pv E n H' → Q (.ref E) H') : CompR (Itr lo n) g tt te vs Q σ H := fun E hE => lc_range (Pv E) (h0 E hE) (hs E hE) (hd E hE)
theorem comp_list {a : Addr} {xs : List V} {tt : TT} {vs : List Nat} (Pv : Addr → Nat → Hp → Prop) (h0 : ∀ E, H E = none → Pv E 0 (upd H E (.lst []))) (hl : ∀ E, H E = none → ∀ i H', i ≤ xs.length → Pv E i H' → H' a = some (.lst xs))
    (hs : ∀ E, H E = none → ∀ i x H', xs[i]? = some x → Pv E i H' → g x (wipe σ vs) H' fun σ2 H2 => wipe σ2 vs = wipe σ vs ∧ tt σ2 H2 fun b H3 =>
      if b = true then te σ2 H3 fun y H4 => ∃ acc, H4 E = some (.lst acc) ∧ acc.length < sizeLine ∧ Pv E (i + 1) (upd H4 E (.lst (acc ++ [y]))) else Pv E (i + 1) H3)
    (hd : ∀ E, H E = none → ∀ H', Pv E xs.length H' → Q (.ref E) H') : CompR (Itl K a) g tt te vs Q σ H := fun E hE => lc_list (Pv E) (h0 E hE) (fun i H' c p => SqL.of (hl E hE i H' c p)) (hs E hE) (hd E hE)
theorem comp_tup {a : Addr} {xs : List V} {tt : TT} {vs : List Nat} (Pv : Addr → Nat → Hp → Prop) (h0 : ∀ E, H E = none → Pv E 0 (upd H E (.lst []))) (hl : ∀ E, H E = none → ∀ i H', i ≤ xs.length → Pv E i H' → SqT K H' a xs)
    (hs : ∀ E, H E = none → ∀ i x H', xs[i]? = some x → Pv E i H' → g x (wipe σ vs) H' fun σ2 H2 => wipe σ2 vs = wipe σ vs ∧ tt σ2 H2 fun b H3 =>
      if b = true then te σ2 H3 fun y H4 => ∃ acc, H4 E = some (.lst acc) ∧ acc.length < sizeLine ∧ Pv E (i + 1) (upd H4 E (.lst (acc ++ [y]))) else Pv E (i + 1) H3)
    (hd : ∀ E, H E = none → ∀ H', Pv E xs.length H' → Q (.ref E) H') : CompR (Itt K a) g tt te vs Q σ H := fun E hE => lc_tup (Pv E) (h0 E hE) (hl E hE) (hs E hE) (hd E hE)
theorem w_yes {R : Bool → Hp → Prop} (h : R true H) : tYes σ H R := h
end
end Q


namespace Q
open PySem L2
/-! ### what is kept -/
/-- all that was tracked, but what stands at ps, is as it was -/
def Kp (ps : List Addr) (H H' : Hp) : Prop := ∀ b o, b ∉ ps → H b = some o → H' b = some o
section
variable {ps qs : List Addr} {H H1 H2 : Hp} {p q : Addr} {o : HO}
theorem Kp.refl : Kp ps H H := fun _ _ _ h => h
theorem Kp.trans (a : Kp ps H H1) (b : Kp ps H1 H2) : Kp ps H H2 := fun c o n h => b c o n (a c o n h)
theorem Kp.new (h : H p = none) : Kp ps H (upd H p o) := fun b u _ e => by rw [upd_ne (ne_of_none e h)]; exact e
theorem Kp.mut (h : p ∈ ps) : Kp ps H (upd H p o) := fun b u n e => by
  have hb : b ≠ p := fun z => by subst z; exact n h
  rw [upd_ne hb]; exact e
/-- an object that was made since may change -/
theorem Kp.loc (a : Kp ps H H1) (h : H p = none) : Kp ps H (upd H1 p o) := fun b u n e => by rw [upd_ne (ne_of_none e h)]; exact a b u n e
theorem Kp.upd (a : Kp ps H H1) (h : H1 p = none) : Kp ps H (upd H1 p o) := a.trans (Kp.new h)
theorem Kp.more (a : Kp ps H H1) (h : ∀ x ∈ ps, x ∈ qs) : Kp qs H H1 := fun b u n e => a b u (fun z => n (h b z)) e
theorem Kp.cons (a : Kp ps H H1) : Kp (p :: ps) H H1 := a.more fun x h => List.mem_cons_of_mem _ h
theorem Kp.drop (a : Kp (p :: ps) H H1) (h : H p = none) : Kp ps H H1 := fun b u n e => a b u (fun z => by
  rcases List.mem_cons.mp z with rfl | z
  · rw [h] at e; cases e
  · exact n z) e
theorem Kp.get (a : Kp ps H H1) (n : p ∉ ps) (e : H p = some o) : H1 p = some o := a p o n e
theorem Kp.free (a : Kp ps H H1) (n : p ∉ ps) (h : H1 p = none) : H p = none := by
  cases e : H p with
  | none => rfl
  | some u => rw [a p u n e] at h; cases h
end
/-! ### data -/
/-- a tuple that stays -/
def TupAt (K : PySem.W.Frag) (ps : List Addr) (H : Hp) (a : Addr) (xs : List V) : Prop :=
  (H a = some (.tup xs) ∧ a ∉ ps) ∨ ∃ (o : Obj) (its : Array Value) (n : Nat), K.lookup a = some o ∧ o.cls = .type "tuple" ∧ o.data = .seq its n ∧ its.size ≤ sizeLine ∧ Vals xs its.toList
theorem TupAt.sq {K : PySem.W.Frag} {ps : List Addr} {H : Hp} {a : Addr} {xs : List V} (h : TupAt K ps H a xs) : SqT K H a xs := by
  rcases h with ⟨h, _⟩ | h
  · exact .inl (.inl h)
  · exact .inr h
inductive Dt (K : PySem.W.Frag) (ps : List Addr) (H : Hp) : V → PyData → Prop
  | non : Dt K ps H .non .none
  | bl (b : Bool) : Dt K ps H (.bl b) (.bool b)
  | int (i : Int) : Dt K ps H (.int i) (.int i)
  | str (x : Str) : Dt K ps H (.str x) (.str x)
  | lst {a : Addr} {xs : List V} {ds : List PyData} : H a = some (.lst xs) → a ∉ ps → xs.length = ds.length → (∀ (i : Nat) x d, xs[i]? = some x → ds[i]? = some d → Dt K ps H x d) → Dt K ps H (.ref a) (.list ds)
  | tup {a : Addr} {xs : List V} {ds : List PyData} : TupAt K ps H a xs → xs.length = ds.length → (∀ (i : Nat) x d, xs[i]? = some x → ds[i]? = some d → Dt K ps H x d) → Dt K ps H (.ref a) (.tuple ds)
/-- place by place -/
def DtA (K : PySem.W.Frag) (ps : List Addr) (H : Hp) (xs : List V) (ds : List PyData) : Prop := xs.length = ds.length ∧ ∀ (i : Nat) x d, xs[i]? = some x → ds[i]? = some d → Dt K ps H x d
section
variable {K : PySem.W.Frag} {ps qs : List Addr} {H H1 H2 : Hp} {p q a : Addr} {o : HO} {v x : V} {d e : PyData} {xs ys : List V} {ds es : List PyData}
theorem Dt.keep (h : Dt K ps H v d) (k : Kp ps H H1) : Dt K ps H1 v d := by
  induction h with
  | non => exact .non
  | bl b => exact .bl b
  | int i => exact .int i
  | str x => exact .str x
  | lst h1 h2 h3 h4 ih => exact .lst (k _ _ h2 h1) h2 h3 ih
  | tup h1 h3 h4 ih =>
    refine .tup ?_ h3 ih
    rcases h1 with ⟨h1, h2⟩ | h1
    · exact .inl ⟨k _ _ h2 h1, h2⟩
    · exact .inr h1
/-- a place that was free is none of its -/
theorem Dt.avoid (h : Dt K ps H v d) (k : H q = none) : Dt K (q :: ps) H v d := by
  induction h with
  | non => exact .non
  | bl b => exact .bl b
  | int i => exact .int i
  | str x => exact .str x
  | @lst a xs ds h1 h2 h3 h4 ih =>
    have n : a ∉ q :: ps := fun z => by
      rcases List.mem_cons.mp z with rfl | z
      · rw [k] at h1; cases h1
      · exact h2 z
    exact .lst h1 n h3 ih
  | tup h1 h3 h4 ih =>
    refine .tup ?_ h3 ih
    rcases h1 with ⟨h1, h2⟩ | h1
    · refine .inl ⟨h1, fun z => ?_⟩
      rcases List.mem_cons.mp z with rfl | z
      · rw [k] at h1; cases h1
      · exact h2 z
    · exact .inr h1
theorem Dt.less (h : Dt K ps H v d) (k : ∀ x ∈ qs, x ∈ ps) : Dt K qs H v d := by
  induction h with
  | non => exact .non
  | bl b => exact .bl b
  | int i => exact .int i
  | str x => exact .str x
  | lst h1 h2 h3 h4 ih => exact .lst h1 (fun z => h2 (k _ z)) h3 ih
  | tup h1 h3 h4 ih =>
    refine .tup ?_ h3 ih
    rcases h1 with ⟨h1, h2⟩ | h1
    · exact .inl ⟨h1, fun z => h2 (k _ z)⟩
    · exact .inr h1
theorem Dt.tail (h : Dt K (q :: ps) H v d) : Dt K ps H v d := h.less fun _ => List.mem_cons_of_mem _
theorem Dt.nil (h : Dt K ps H v d) : Dt K [] H v d := h.less fun _ z => nomatch z
theorem Dt.new (h : Dt K ps H v d) (k : H q = none) : Dt K ps (upd H q o) v d := h.keep (Kp.new k)
theorem DtA.keep (h : DtA K ps H xs ds) (k : Kp ps H H1) : DtA K ps H1 xs ds := ⟨h.1, fun i x d e1 e2 => (h.2 i x d e1 e2).keep k⟩
theorem DtA.avoid (h : DtA K ps H xs ds) (k : H q = none) : DtA K (q :: ps) H xs ds := ⟨h.1, fun i x d e1 e2 => (h.2 i x d e1 e2).avoid k⟩
theorem DtA.less (h : DtA K ps H xs ds) (k : ∀ x ∈ qs, x ∈ ps) : DtA K qs H xs ds := ⟨h.1, fun i x d e1 e2 => (h.2 i x d e1 e2).less k⟩
theorem DtA.tail (h : DtA K (q :: ps) H xs ds) : DtA K ps H xs ds := h.less fun _ => List.mem_cons_of_mem _
theorem DtA.nil : DtA K ps H [] [] := ⟨rfl, fun i x d e => by simp at e⟩
theorem DtA.cons (h : Dt K ps H x d) (t : DtA K ps H xs ds) : DtA K ps H (x :: xs) (d :: ds) := ⟨by simp [t.1], fun i y f e1 e2 => by
  cases i with
  | zero => simp at e1 e2; subst e1 e2; exact h
  | succ i => simp at e1 e2; exact t.2 i y f e1 e2⟩
theorem DtA.append (h : DtA K ps H xs ds) (t : DtA K ps H ys es) : DtA K ps H (xs ++ ys) (ds ++ es) := ⟨by simp [h.1, t.1], fun i y f e1 e2 => by
  have hl := h.1
  by_cases hi : i < xs.length
  · rw [List.getElem?_append_left hi] at e1
    rw [List.getElem?_append_left (by omega)] at e2
    exact h.2 i y f e1 e2
  · rw [List.getElem?_append_right (by omega)] at e1
    rw [List.getElem?_append_right (by omega), ← hl] at e2
    exact t.2 _ y f e1 e2⟩
theorem DtA.snoc (h : DtA K ps H xs ds) (t : Dt K ps H x d) : DtA K ps H (xs ++ [x]) (ds ++ [d]) := h.append (.cons t .nil)
theorem DtA.take (h : DtA K ps H xs ds) (n : Nat) : DtA K ps H (xs.take n) (ds.take n) := ⟨by simp [h.1], fun i y f e1 e2 => by
  rw [List.getElem?_take] at e1 e2
  split at e1
  · rename_i c; rw [if_pos c] at e2; exact h.2 i y f e1 e2
  · cases e1⟩
theorem DtA.drop (h : DtA K ps H xs ds) (n : Nat) : DtA K ps H (xs.drop n) (ds.drop n) := ⟨by simp [h.1], fun i y f e1 e2 => by
  rw [List.getElem?_drop] at e1 e2; exact h.2 _ y f e1 e2⟩
theorem DtA.get (h : DtA K ps H xs ds) {i : Nat} (e : ds[i]? = some d) : ∃ x, xs[i]? = some x ∧ Dt K ps H x d := by
  have hi : i < xs.length := by rw [h.1]; exact (List.getElem?_eq_some_iff.mp e).1
  exact ⟨xs[i], by simp [hi], h.2 i _ _ (by simp [hi]) e⟩
theorem DtA.get' (h : DtA K ps H xs ds) {i : Nat} (e : xs[i]? = some x) : ∃ d, ds[i]? = some d ∧ Dt K ps H x d := by
  have hi : i < ds.length := by rw [← h.1]; exact (List.getElem?_eq_some_iff.mp e).1
  exact ⟨ds[i], by simp [hi], h.2 i _ _ e (by simp [hi])⟩
theorem DtA.ints (ns : List Int) : DtA K ps H (ns.map V.int) (ns.map PyData.int) := ⟨by simp, fun i x d e1 e2 => by
  rw [List.getElem?_map] at e1 e2
  cases e : ns[i]? with
  | none => rw [e] at e1; cases e1
  | some z => rw [e] at e1 e2; cases e1; cases e2; exact .int z⟩
theorem DtA.ints_eq : ∀ {xs : List V} {ns : List Int}, DtA K ps H xs (ns.map PyData.int) → xs = ns.map V.int
  | [], [], _ => rfl
  | [], n :: ns, h => by have := h.1; simp at this
  | x :: xs, [], h => by have := h.1; simp at this
  | x :: xs, n :: ns, h => by
    have h1 := h.2 0 x (.int n) rfl rfl
    have h2 : DtA K ps H xs (ns.map PyData.int) := ⟨by have := h.1; simpa using this, fun i y f e1 e2 => h.2 (i + 1) y f (by simpa using e1) (by simpa using e2)⟩
    cases h1
    rw [DtA.ints_eq h2]; rfl
theorem Dt.lstA (h : H a = some (.lst xs)) (n : a ∉ ps) (k : DtA K ps H xs ds) : Dt K ps H (.ref a) (.list ds) := .lst h n k.1 k.2
theorem Dt.tupA (h : H a = some (.tup xs)) (n : a ∉ ps) (k : DtA K ps H xs ds) : Dt K ps H (.ref a) (.tuple ds) := .tup (.inl ⟨h, n⟩) k.1 k.2
theorem Dt.inv_lst (h : Dt K ps H v (.list ds)) : ∃ a xs, v = .ref a ∧ H a = some (.lst xs) ∧ a ∉ ps ∧ DtA K ps H xs ds := by
  cases h with
  | lst h1 h2 h3 h4 => exact ⟨_, _, rfl, h1, h2, h3, h4⟩
theorem Dt.inv_tup (h : Dt K ps H v (.tuple ds)) : ∃ a xs, v = .ref a ∧ TupAt K ps H a xs ∧ DtA K ps H xs ds := by
  cases h with
  | tup h1 h3 h4 => exact ⟨_, _, rfl, h1, h3, h4⟩
theorem Dt.inv_int {i : Int} (h : Dt K ps H v (.int i)) : v = .int i := by cases h; rfl
theorem Dt.inv_str {z : Str} (h : Dt K ps H v (.str z)) : v = .str z := by cases h; rfl
theorem Dt.inv_bool {b : Bool} (h : Dt K ps H v (.bool b)) : v = .bl b := by cases h; rfl
theorem Dt.inv_none (h : Dt K ps H v .none) : v = .non := by cases h; rfl
theorem Dt.lst_ints {ns : List Int} (h : Dt K ps H (.ref a) (.list (ns.map PyData.int))) : H a = some (.lst (ns.map V.int)) ∧ a ∉ ps := by
  obtain ⟨a', xs, e, h1, h2, h3⟩ := h.inv_lst
  cases e
  rw [h3.ints_eq] at h1
  exact ⟨h1, h2⟩
theorem Dt.of_ints {ns : List Int} (h : H a = some (.lst (ns.map V.int))) (n : a ∉ ps) : Dt K ps H (.ref a) (.list (ns.map PyData.int)) := .lstA h n (.ints ns)
/-- a list of ints stands at a -/
theorem Dt.int_list {ns : List Int} (h : Dt K ps H v (.list (ns.map PyData.int))) : ∃ a, v = .ref a ∧ H a = some (.lst (ns.map V.int)) ∧ a ∉ ps := by
  obtain ⟨a', xs, e, h1, h2, h3⟩ := h.inv_lst
  rw [h3.ints_eq] at h1
  exact ⟨a', e, h1, h2⟩
theorem dpAll_of : ∀ {xs : List V} {ds : List PyData}, xs.length = ds.length → (∀ (i : Nat) x d, xs[i]? = some x → ds[i]? = some d → Dp K H x d) → DpAll K H xs ds
  | [], [], _, _ => .nil
  | [], _ :: _, h, _ => by simp at h
  | _ :: _, [], h, _ => by simp at h
  | x :: xs, d :: ds, h, k => .cons (k 0 x d rfl rfl) (dpAll_of (by simpa using h) fun i y f e1 e2 => k (i + 1) y f (by simpa using e1) (by simpa using e2))
theorem Dt.dp (h : Dt K ps H v d) : Dp K H v d := by
  induction h with
  | non => exact .non
  | bl b => exact .bl b
  | int i => exact .int i
  | str x => exact .str x
  | lst h1 h2 h3 h4 ih => exact .lst (SqL.of h1) (dpAll_of h3 ih)
  | tup h1 h3 h4 ih => exact .tup h1.sq (dpAll_of h3 ih)
end

/-! ### kinds of things -/
def tyN : PyData → String
  | .none => "NoneType" | .bool _ => "bool" | .int _ => "int" | .str _ => "str" | .list _ => "list" | .tuple _ => "tuple" | .dict _ => "dict"
section
variable {K : PySem.W.Frag} {ps : List Addr} {H : Hp} {v x : V} {d : PyData} {Q : VK}
theorem Dt.ty (h : Dt K ps H v d) : TyX K H v (.type (tyN d)) := by
  cases h with
  | non => exact .base .non
  | bl b => exact .base (.bl b)
  | int i => exact .base (.int i)
  | str z => exact .base (.str z)
  | lst h1 _ _ _ => exact .base (.lst h1)
  | tup h1 _ _ =>
    rcases h1 with ⟨h1, _⟩ | ⟨o, its, n, h1, h2, _⟩
    · exact .base (.tup h1)
    · exact .kTuple h1 h2
theorem w_isi {U : String} {b : Bool} (h : Dt K ps H x d) (e : kitB (tyN d) U = some b) (k : Q (.bl b) H) : rIsi K [x, .ty U] H Q :=
  ⟨x, .ty U, .type (tyN d), .type U, b, rfl, .ty U, h.ty, kit_ty e, k⟩
theorem kb_bool_bool : kitB "bool" "bool" = some true := by decide +kernel
theorem kb_int_bool : kitB "int" "bool" = some false := by decide +kernel
theorem kb_int_int : kitB "int" "int" = some true := by decide +kernel
theorem kb_str_bool : kitB "str" "bool" = some false := by decide +kernel
theorem kb_str_int : kitB "str" "int" = some false := by decide +kernel
theorem kb_str_str : kitB "str" "str" = some true := by decide +kernel
theorem kb_int_str : kitB "int" "str" = some false := by decide +kernel
theorem kb_list_bool : kitB "list" "bool" = some false := by decide +kernel
theorem kb_list_int : kitB "list" "int" = some false := by decide +kernel
theorem kb_list_str : kitB "list" "str" = some false := by decide +kernel
theorem kb_list_list : kitB "list" "list" = some true := by decide +kernel
theorem kb_list_tuple : kitB "list" "tuple" = some false := by decide +kernel
theorem kb_tuple_bool : kitB "tuple" "bool" = some false := by decide +kernel
theorem kb_tuple_int : kitB "tuple" "int" = some false := by decide +kernel
theorem kb_tuple_str : kitB "tuple" "str" = some false := by decide +kernel
theorem kb_tuple_list : kitB "tuple" "list" = some false := by decide +kernel
theorem kb_tuple_tuple : kitB "tuple" "tuple" = some true := by decide +kernel
end
/-- at most n deep -/
inductive Dep : Nat → PyData → Prop
  | none {n : Nat} : Dep n .none
  | bool {n : Nat} {b : Bool} : Dep n (.bool b)
  | int {n : Nat} {i : Int} : Dep n (.int i)
  | str {n : Nat} {z : Str} : Dep n (.str z)
  | list {n : Nat} {ds : List PyData} : (∀ (i : Nat) d, ds[i]? = some d → Dep n d) → Dep (n + 1) (.list ds)
  | tuple {n : Nat} {ds : List PyData} : (∀ (i : Nat) d, ds[i]? = some d → Dep n d) → Dep (n + 1) (.tuple ds)
theorem Dep.ints {ns : List Int} {n : Nat} : Dep (n + 1) (.list (ns.map PyData.int)) := .list fun i d e => by
  rw [List.getElem?_map] at e
  cases q : ns[i]? with
  | none => rw [q] at e; cases e
  | some z => rw [q] at e; cases e; exact .int
theorem Dep.mono {n m : Nat} {d : PyData} (h : Dep n d) (k : n ≤ m) : Dep m d := by
  induction h generalizing m with
  | none => exact .none
  | bool => exact .bool
  | int => exact .int
  | str => exact .str
  | list h ih => obtain ⟨m', rfl⟩ : ∃ m', m = m' + 1 := ⟨m - 1, by omega⟩; exact .list fun i d e => ih i d e (by omega)
  | tuple h ih => obtain ⟨m', rfl⟩ : ∃ m', m = m' + 1 := ⟨m - 1, by omega⟩; exact .tuple fun i d e => ih i d e (by omega)

/-! ### heaps, slices -/
theorem upd_keep {H : Hp} {l b : Addr} {o x : HO} (h : H b = some x) (n : H l = none) : upd H l o b = some x := by rw [upd_ne (ne_of_none h n)]; exact h
theorem upd_ne2 {H : Hp} {l b : Addr} {o x : HO} (n : b ≠ l) (h : H b = some x) : upd H l o b = some x := by rw [upd_ne n]; exact h
theorem upd_ne3 {H : Hp} {l b : Addr} {o x : HO} (n : l ≠ b) (h : H b = some x) : upd H l o b = some x := upd_ne2 n.symm h
theorem upd_back {H : Hp} {l b : Addr} {o : HO} (h : upd H l o b = none) : H b = none ∧ b ≠ l := by
  by_cases e : b = l
  · subst e; rw [upd_same] at h; cases h
  · rw [upd_ne e] at h; exact ⟨h, e⟩
theorem cutV_to (xs : List V) (i : Nat) : cutV xs none (some (i : Int)) = xs.take i := by
  unfold cutV
  rw [HT.sIx_none, HT.sIx_nat, List.drop_zero, Nat.sub_zero]
  rw [List.take_eq_take_iff]; omega
theorem cutV_upto (xs : List V) {i : Int} (h : 0 ≤ i) : cutV xs none (some i) = xs.take i.toNat := by
  have := cutV_to xs i.toNat
  rwa [Int.toNat_of_nonneg h] at this
theorem cutV_from (xs : List V) (i : Nat) : cutV xs (some (i : Int)) none = xs.drop i := by
  unfold cutV
  rw [HT.sIx_none, HT.sIx_nat]
  by_cases c : i ≤ xs.length
  · rw [Nat.min_eq_left c, List.take_of_length_le]
    rw [List.length_drop]; omega
  · rw [Nat.min_eq_right (by omega), List.drop_of_length_le (by omega), List.drop_of_length_le (by omega)]; simp
section
variable {K : PySem.W.Frag} {H : Hp} {Q : VK} {p : Addr} {xs : List V}
theorem w_rep {k : Int} (hp : H p = some (.lst xs)) (c : -(2 ^ 63) ≤ k ∧ k < 2 ^ 63 ∧ xs.length * k.toNat ≤ 16777216) (h : ∀ r, H r = none → Q (.ref r) (upd H r (.lst (List.replicate k.toNat xs).flatten))) : rMulD (.ref p) (.int k) H Q :=
  ⟨p, k, xs, rfl, rfl, hp, c.1, c.2.1, by rw [sizeLine_eq]; exact c.2.2, h⟩
end
theorem rep_one (n : Nat) (v : V) : (List.replicate n [v]).flatten = List.replicate n v := by
  induction n with
  | zero => rfl
  | succ n ih => rw [List.replicate_succ, List.flatten_cons, ih, List.replicate_succ]; rfl
theorem map_at {ns : List Int} {i : Nat} {z : Int} (h : ns[i]? = some z) : atI (ns.map V.int) (i : Int) = some (.int z) := atI_nat (by simp [h])
theorem map_atI {ns : List Int} {i : Int} {z : Int} (h0 : 0 ≤ i) (h : ns[i.toNat]? = some z) : atI (ns.map V.int) i = some (.int z) := by
  have := map_at h
  rwa [Int.toNat_of_nonneg h0] at this


theorem ints_shaped (ns : List Int) : SeqAt.shaped (.list (ns.map PyData.int)) = true := by
  have h1 : ∀ ns : List Int, PyData.canLayAll0 (ns.map PyData.int) = true := fun ns => by
    induction ns with
    | nil => simp [PyData.canLayAll0]
    | cons n r ih => simp [PyData.canLayAll0, PyData.canLay0, ih]
  have h2 : ∀ ns : List Int, PyData.depthAll (ns.map PyData.int) = 0 := fun ns => by
    induction ns with
    | nil => simp [PyData.depthAll]
    | cons n r ih => simp [PyData.depthAll, PyData.depth, ih]
  simp [SeqAt.shaped, PyData.canLay0, PyData.depth, h1, h2]
section
variable {K : PySem.W.Frag} {ps qs : List Addr} {H : Hp} {Q : VK} {x y : V} {d e : PyData} {n : Nat}
theorem w_neD (h1 : Dt K ps H x d) (h2 : Dt K qs H y d) (hd : SeqAt.shaped d = true) (k : Q (.bl false) H) : rNeX K x y H Q :=
  .inr ⟨d, d, h1.dp, h2.dp, hd, hd, by rw [SeqAt.eqv_refl d (SeqAt.canLay_of_shaped hd)]; exact k⟩
theorem w_eqDt (h1 : Dt K ps H x d) (h2 : Dt K qs H y d) (hd : SeqAt.shaped d = true) (k : Q (.bl true) H) : rEqX K x y H Q :=
  .inr ⟨d, d, h1.dp, h2.dp, hd, hd, by rw [SeqAt.eqv_refl d (SeqAt.canLay_of_shaped hd)]; exact k⟩
end

/-- an item of a list of ints, whichever -/
theorem w_pick {K : PySem.W.Frag} {H : Hp} {Q : VK} {p : Addr} {n : Int} (ns : List Int) (hp : H p = some (.lst (ns.map V.int))) (h0 : 0 ≤ n) (h1 : n < ns.length) (h : ∀ z, z ∈ ns → Q (.int z) H) : rIxD K (.ref p) (.int n) H Q := by
  have hn : n.toNat < ns.length := by omega
  exact w_ixL hp (map_atI h0 (z := ns[n.toNat]) (by simp [hn])) (h _ (List.getElem_mem hn))
theorem map_snoc (ns : List Int) (z : Int) : ns.map V.int ++ [V.int z] = (ns ++ [z]).map V.int := by simp
end Q


namespace Q
open PySem L2
def topS (i : Nat) : Stmt := PySem.Challenge.pw_quickways_k25_whole_next_picks_go_throug.main.body.getD i (.Pass ⟨0, 0, 0, 0⟩)
abbrev s_l_pool : Stmt := topS 3
def nm_l_pool : List Str := ["_law_script"]
theorem sc_l_pool : FnScope nm_l_pool ["_law_script"] (defScope s_l_pool) := ⟨rfl, rfl, rfl, by decide +kernel, rfl, by decide +kernel, by decide +kernel⟩
abbrev s_l_mixed : Stmt := topS 4
def nm_l_mixed : List Str := ["_law_cell", "_law_turn", "_law_limit", "_law_first", "_law_second", "_law_third"]
theorem sc_l_mixed : FnScope nm_l_mixed ["_law_cell", "_law_turn", "_law_limit"] (defScope s_l_mixed) := ⟨rfl, rfl, rfl, by decide +kernel, rfl, by decide +kernel, by decide +kernel⟩
abbrev s_l_draw : Stmt := topS 5
def nm_l_draw : List Str := ["_law_pool_here", "_law_limit", "_law_digit", "_law_cell"]
theorem sc_l_draw : FnScope nm_l_draw ["_law_pool_here", "_law_limit"] (defScope s_l_draw) := ⟨rfl, rfl, rfl, by decide +kernel, rfl, by decide +kernel, by decide +kernel⟩
abbrev s_l_grow : Stmt := topS 8
def nm_l_grow : List Str := ["_law_pool_here", "_law_picks", "_law_options", "_law_leaves", "_law_option", "_law_pick"]
theorem sc_l_grow : FnScope nm_l_grow ["_law_pool_here", "_law_picks", "_law_options", "_law_leaves"] (defScope s_l_grow) := ⟨rfl, rfl, rfl, by decide +kernel, rfl, by decide +kernel, by decide +kernel⟩
abbrev s_l_parting : Stmt := topS 9
def nm_l_parting : List Str := ["_law_one", "_law_other", "_law_at"]
theorem sc_l_parting : FnScope nm_l_parting ["_law_one", "_law_other"] (defScope s_l_parting) := ⟨rfl, rfl, rfl, by decide +kernel, rfl, by decide +kernel, by decide +kernel⟩
abbrev s_next_picks : Stmt := topS 1
def nm_next_picks : List Str := ["picks", "options", "full", "at"]
theorem sc_next_picks : FnScope nm_next_picks ["picks", "options"] (defScope s_next_picks) := ⟨rfl, rfl, rfl, by decide +kernel, rfl, by decide +kernel, by decide +kernel⟩
abbrev s_l_is_int : Stmt := topS 6
def nm_l_is_int : List Str := ["_law_thing"]
theorem sc_l_is_int : FnScope nm_l_is_int ["_law_thing"] (defScope s_l_is_int) := ⟨rfl, rfl, rfl, by decide +kernel, rfl, by decide +kernel, by decide +kernel⟩
abbrev s_l_same : Stmt := topS 7
def nm_l_same : List Str := ["_law_mine", "_law_due", "_law_k"]
theorem sc_l_same : FnScope nm_l_same ["_law_mine", "_law_due"] (defScope s_l_same) := ⟨rfl, rfl, rfl, by decide +kernel, rfl, by decide +kernel, by decide +kernel⟩
abbrev s_l_follows : Stmt := topS 10
def nm_l_follows : List Str := ["_law_picks", "_law_options", "_law_due", "_law_given", "_law_bounds", "_law_told"]
theorem sc_l_follows : FnScope nm_l_follows ["_law_picks", "_law_options", "_law_due"] (defScope s_l_follows) := ⟨rfl, rfl, rfl, by decide +kernel, rfl, by decide +kernel, by decide +kernel⟩
abbrev s_l_loose : Stmt := topS 12
def nm_l_loose : List Str := ["_law_pool_here", "_law_options", "_law_picks", "_law_k", "_law_option", "_law_pick"]
theorem sc_l_loose : FnScope nm_l_loose ["_law_pool_here"] (defScope s_l_loose) := ⟨rfl, rfl, rfl, by decide +kernel, rfl, by decide +kernel, by decide +kernel⟩
abbrev s_l_raised : Stmt := topS 11
def nm_l_raised : List Str := ["_law_picks", "_law_options", "_law_full", "_law_k", "_law_found", "_law_at"]
theorem sc_l_raised : FnScope nm_l_raised ["_law_picks", "_law_options"] (defScope s_l_raised) := ⟨rfl, rfl, rfl, by decide +kernel, rfl, by decide +kernel, by decide +kernel⟩
abbrev s_law : Stmt := topS 13
def nm_law : List Str := ["_law_script", "_law_pool_here", "_law_leaves", "_law_now", "_law_k", "_law_full", "_law_options", "_law_due", "_law_after", "_law_picks"]
theorem sc_law : FnScope nm_law ["_law_script"] (defScope s_law) := ⟨rfl, rfl, rfl, by decide +kernel, rfl, by decide +kernel, by decide +kernel⟩
/-- what the top has written -/
structure Txt (K : PySem.W.Frag) (mg : Str → Option Value) where
  f_l_pool : Addr
  d_l_pool : FuncData
  F_l_pool : Fun K "_law_pool" "_law_pool" s_l_pool f_l_pool d_l_pool
  g_l_pool : mg "_law_pool" = some (.ref f_l_pool)
  b_l_pool : Binds K d_l_pool ["_law_script"] []
  f_l_mixed : Addr
  d_l_mixed : FuncData
  F_l_mixed : Fun K "_law_mixed" "_law_mixed" s_l_mixed f_l_mixed d_l_mixed
  g_l_mixed : mg "_law_mixed" = some (.ref f_l_mixed)
  b_l_mixed : Binds K d_l_mixed ["_law_cell", "_law_turn", "_law_limit"] []
  f_l_draw : Addr
  d_l_draw : FuncData
  F_l_draw : Fun K "_law_draw" "_law_draw" s_l_draw f_l_draw d_l_draw
  g_l_draw : mg "_law_draw" = some (.ref f_l_draw)
  b_l_draw : Binds K d_l_draw ["_law_pool_here", "_law_limit"] []
  f_l_grow : Addr
  d_l_grow : FuncData
  F_l_grow : Fun K "_law_grow" "_law_grow" s_l_grow f_l_grow d_l_grow
  g_l_grow : mg "_law_grow" = some (.ref f_l_grow)
  b_l_grow : Binds K d_l_grow ["_law_pool_here", "_law_picks", "_law_options", "_law_leaves"] []
  f_l_parting : Addr
  d_l_parting : FuncData
  F_l_parting : Fun K "_law_parting" "_law_parting" s_l_parting f_l_parting d_l_parting
  g_l_parting : mg "_law_parting" = some (.ref f_l_parting)
  b_l_parting : Binds K d_l_parting ["_law_one", "_law_other"] []
  f_next_picks : Addr
  d_next_picks : FuncData
  F_next_picks : Fun K "next_picks" "next_picks" s_next_picks f_next_picks d_next_picks
  g_next_picks : mg "next_picks" = some (.ref f_next_picks)
  b_next_picks : Binds K d_next_picks ["picks", "options"] []
  f_l_is_int : Addr
  d_l_is_int : FuncData
  F_l_is_int : Fun K "_law_is_int" "_law_is_int" s_l_is_int f_l_is_int d_l_is_int
  g_l_is_int : mg "_law_is_int" = some (.ref f_l_is_int)
  b_l_is_int : Binds K d_l_is_int ["_law_thing"] []
  f_l_same : Addr
  d_l_same : FuncData
  F_l_same : Fun K "_law_same" "_law_same" s_l_same f_l_same d_l_same
  g_l_same : mg "_law_same" = some (.ref f_l_same)
  b_l_same : Binds K d_l_same ["_law_mine", "_law_due"] []
  f_l_follows : Addr
  d_l_follows : FuncData
  F_l_follows : Fun K "_law_follows" "_law_follows" s_l_follows f_l_follows d_l_follows
  g_l_follows : mg "_law_follows" = some (.ref f_l_follows)
  b_l_follows : Binds K d_l_follows ["_law_picks", "_law_options", "_law_due"] []
  f_l_loose : Addr
  d_l_loose : FuncData
  F_l_loose : Fun K "_law_loose" "_law_loose" s_l_loose f_l_loose d_l_loose
  g_l_loose : mg "_law_loose" = some (.ref f_l_loose)
  b_l_loose : Binds K d_l_loose ["_law_pool_here"] []
  f_l_raised : Addr
  d_l_raised : FuncData
  F_l_raised : Fun K "_law_raised" "_law_raised" s_l_raised f_l_raised d_l_raised
  g_l_raised : mg "_law_raised" = some (.ref f_l_raised)
  b_l_raised : Binds K d_l_raised ["_law_picks", "_law_options"] []
  f_law : Addr
  d_law : FuncData
  F_law : Fun K "law" "law" s_law f_law d_law
  g_law : mg "law" = some (.ref f_law)
  b_law : Binds K d_law ["_law_script"] []
  b_range : mg "range" = none
  b_min : mg "min" = none
  b_len : mg "len" = none
  b_list : mg "list" = none
  b_int : mg "int" = none
  b_reversed : mg "reversed" = none
  b_isinstance : mg "isinstance" = none
  b_bool : mg "bool" = none
  b_str : mg "str" = none
  b_tuple : mg "tuple" = none
section
variable {P : Program} {w : World} {K : PySem.W.Frag} {mg : Str → Option Value} {base : Heap}
def rd_l_pool {K : PySem.W.Frag} {mg : Str → Option Value} (T : Txt K mg) : TS :=
    (tRet (tLst (tCons (tCB (rListD K) (tCons (tVar 0) tNil)) (tCons (tC (.int 0)) (tCons (tC (.int 0)) (tCons (tC (.int 0)) (tCons (tC (.int 0)) tNil)))))))
theorem fn_l_pool (T : Txt K mg) {sp : Sp} {k : Nat} (len : ∀ vs H Q E, sp vs H Q E → vs.length = 1)
    (h : ∀ vs H Q E, sp vs H Q E → rd_l_pool T { nx := fun _ H' => Q .non H', rt := Q } (start nm_l_pool vs) H) : FnOk P w K mg base CX0 (k + 1) T.f_l_pool T.d_l_pool ["_law_script"] sp := by
  refine T.F_l_pool.ok sc_l_pool len (fun cdv A outer s H vs Q E hr h0 => ⟨rd_l_pool T, ?_, h vs H Q E h0⟩)
  exact (pss_one (ps_ret (pe_lst (pa_cons (pe_callTy call_listD (by rfl) T.b_list bt_list (pa_cons (pv 0) pa_nil)) (pa_cons pe_int (pa_cons pe_int (pa_cons pe_int (pa_cons pe_int pa_nil))))))))
def rd_l_mixed {K : PySem.W.Frag} {mg : Str → Option Value} (T : Txt K mg) : TS :=
    (tSeq (tAsg (tOp rModD (tCB (rIntD) (tCons (tOp (rAddD K) (tOp (rAddD K) (tOp rMulD (tVar 0) (tC (.int 48271))) (tOp rMulD (tVar 1) (tC (.int 69621)))) (tC (.int 11))) tNil)) (tC (.int 2147483647))) (gName 3))
    (tSeq (tAsg (tOp rModD (tCB (rIntD) (tCons (tOp (rAddD K) (tOp (rAddD K) (tOp rMulD (tVar 3) (tC (.int 40692))) (tOp rMulD (tVar 0) (tC (.int 16807)))) (tOp rMulD (tVar 1) (tC (.int 30269)))) tNil)) (tC (.int 2147483399))) (gName 4))
    (tSeq (tAsg (tOp rModD (tCB (rIntD) (tCons (tOp (rAddD K) (tOp rMulD (tVar 4) (tC (.int 39373))) (tOp rFdivD (tVar 3) (tC (.int 7)))) tNil)) (tC (.int 1000000007))) (gName 5))
    (tRet (tOp rModD (tCB (rIntD) (tCons (tVar 5) tNil)) (tVar 2))))))
theorem fn_l_mixed (T : Txt K mg) {sp : Sp} {k : Nat} (len : ∀ vs H Q E, sp vs H Q E → vs.length = 3)
    (h : ∀ vs H Q E, sp vs H Q E → rd_l_mixed T { nx := fun _ H' => Q .non H', rt := Q } (start nm_l_mixed vs) H) : FnOk P w K mg base CX0 (k + 1) T.f_l_mixed T.d_l_mixed ["_law_cell", "_law_turn", "_law_limit"] sp := by
  refine T.F_l_mixed.ok sc_l_mixed len (fun cdv A outer s H vs Q E hr h0 => ⟨rd_l_mixed T, ?_, h vs H Q E h0⟩)
  exact (pss_cons (sset 3 sc_l_mixed.nd (pe_op op_modD (pe_callTy call_intD (by rfl) T.b_int bt_int (pa_cons (pe_op op_addD (pe_op op_addD (pe_op op_mulD (pv 0) pe_int) (pe_op op_mulD (pv 1) pe_int)) pe_int) pa_nil)) pe_int))
      (pss_cons (sset 4 sc_l_mixed.nd (pe_op op_modD (pe_callTy call_intD (by rfl) T.b_int bt_int (pa_cons (pe_op op_addD (pe_op op_addD (pe_op op_mulD (pv 3) pe_int) (pe_op op_mulD (pv 0) pe_int)) (pe_op op_mulD (pv 1) pe_int)) pa_nil)) pe_int))
      (pss_cons (sset 5 sc_l_mixed.nd (pe_op op_modD (pe_callTy call_intD (by rfl) T.b_int bt_int (pa_cons (pe_op op_addD (pe_op op_mulD (pv 4) pe_int) (pe_op op_fdivD (pv 3) pe_int)) pa_nil)) pe_int))
      (pss_one (ps_ret (pe_op op_modD (pe_callTy call_intD (by rfl) T.b_int bt_int (pa_cons (pv 5) pa_nil)) (pv 2)))))))
def rd_l_draw {K : PySem.W.Frag} {mg : Str → Option Value} (T : Txt K mg) (sp_l_mixed : Sp) : TS :=
    (tSeq (tIfS (tTest (tOp rGtD (tOp (rIxD K) (tVar 0) (tC (.int 2))) (tC (.int 0)))) (tSeq (tAsg (tOp rModD (tCB (rIntD) (tCons (tOp (rIxD K) (tVar 0) (tC (.int 2))) tNil)) (tVar 1)) (gName 2))
    (tSeq (tAsg (tOp rFdivD (tOp (rIxD K) (tVar 0) (tC (.int 2))) (tVar 1)) (gSub (tVar 0) (tC (.int 2)) rSetD))
    (tRet (tVar 2)))) tNext)
    (tSeq (tIfS (tTest (tOp rGtD (tOp (rIxD K) (tVar 0) (tC (.int 4))) (tC (.int 0)))) (tSeq (tAsg (tOp rSubD (tOp (rIxD K) (tVar 0) (tC (.int 4))) (tC (.int 1))) (gSub (tVar 0) (tC (.int 4)) rSetD))
    (tRet (tCall sp_l_mixed [] E0 (tCons (tOp (rIxD K) (tVar 0) (tC (.int 3))) (tCons (tOp (rIxD K) (tVar 0) (tC (.int 4))) (tCons (tVar 1) tNil)))))) tNext)
    (tSeq (tIfS (tTest (tOp rGeD (tOp (rIxD K) (tVar 0) (tC (.int 1))) (tCB (rLenD K) (tCons (tOp (rIxD K) (tVar 0) (tC (.int 0))) tNil)))) (tRet (tC (.int 0))) tNext)
    (tSeq (tAsg (tOp (rIxD K) (tOp (rIxD K) (tVar 0) (tC (.int 0))) (tOp (rIxD K) (tVar 0) (tC (.int 1)))) (gName 3))
    (tSeq (tAsg (tOp (rAddD K) (tOp (rIxD K) (tVar 0) (tC (.int 1))) (tC (.int 1))) (gSub (tVar 0) (tC (.int 1)) rSetD))
    (tSeq (tIfS (tTest (tOp rLtD (tVar 3) (tC (.int 0)))) (tAsg (tOp rSubD (tUn rNeg (tC (.int 1))) (tVar 3)) (gName 3)) tNext)
    (tSeq (tIfS (tTest (tOp rGeD (tVar 3) (tOp rPowD (tC (.int 10)) (tC (.int 18))))) (tSeq (tAsg (tOp rFdivD (tVar 3) (tVar 1)) (gSub (tVar 0) (tC (.int 2)) rSetD))
    (tRet (tOp rModD (tCB (rIntD) (tCons (tVar 3) tNil)) (tVar 1)))) tNext)
    (tSeq (tAsg (tVar 3) (gSub (tVar 0) (tC (.int 3)) rSetD))
    (tSeq (tAsg (tC (.int 7)) (gSub (tVar 0) (tC (.int 4)) rSetD))
    (tRet (tCall sp_l_mixed [] E0 (tCons (tVar 3) (tCons (tC (.int 7)) (tCons (tVar 1) tNil))))))))))))))
theorem fn_l_draw (T : Txt K mg) {sp : Sp} {k : Nat} {sp_l_mixed : Sp} {k_l_mixed : Nat} (G_l_mixed : FnOk P w K mg base CX0 k_l_mixed T.f_l_mixed T.d_l_mixed ["_law_cell", "_law_turn", "_law_limit"] sp_l_mixed) (h_l_mixed : k_l_mixed ≤ k) (len : ∀ vs H Q E, sp vs H Q E → vs.length = 2)
    (h : ∀ vs H Q E, sp vs H Q E → rd_l_draw T sp_l_mixed { nx := fun _ H' => Q .non H', rt := Q } (start nm_l_draw vs) H) : FnOk P w K mg base CX0 (k + 1) T.f_l_draw T.d_l_draw ["_law_pool_here", "_law_limit"] sp := by
  refine T.F_l_draw.ok sc_l_draw len (fun cdv A outer s H vs Q E hr h0 => ⟨rd_l_draw T sp_l_mixed, ?_, h vs H Q E h0⟩)
  exact (pss_cons (ps_if (pt_cmpR op_gtD (pe_ix (ix_D hr.units) (pv 0) pe_int (fun _ _ => rfl)) pe_int (nomark _)) (pss_cons (sset 2 sc_l_draw.nd (pe_op op_modD (pe_callTy call_intD (by rfl) T.b_int bt_int (pa_cons (pe_ix (ix_D hr.units) (pv 0) pe_int (fun _ _ => rfl)) pa_nil)) (pv 1)))
      (pss_cons (ps_asg (pe_op op_fdivD (pe_ix (ix_D hr.units) (pv 0) pe_int (fun _ _ => rfl)) (pv 1)) (pg_sub (pv 0) pe_int (set_D hr.units)))
      (pss_one (ps_ret (pv 2))))) pss_nil)
      (pss_cons (ps_if (pt_cmpR op_gtD (pe_ix (ix_D hr.units) (pv 0) pe_int (fun _ _ => rfl)) pe_int (nomark _)) (pss_cons (ps_asg (pe_op op_subD (pe_ix (ix_D hr.units) (pv 0) pe_int (fun _ _ => rfl)) pe_int) (pg_sub (pv 0) pe_int (set_D hr.units)))
      (pss_one (ps_ret (pe_call G_l_mixed (hr.mono h_l_mixed) rfl T.g_l_mixed T.F_l_mixed.kp T.b_l_mixed .nil pass0 (pa_cons (pe_ix (ix_D hr.units) (pv 0) pe_int (fun _ _ => rfl)) (pa_cons (pe_ix (ix_D hr.units) (pv 0) pe_int (fun _ _ => rfl)) (pa_cons (pv 1) pa_nil))))))) pss_nil)
      (pss_cons (ps_if (pt_cmpR op_geD (pe_ix (ix_D hr.units) (pv 0) pe_int (fun _ _ => rfl)) (pe_callB call_lenX (by rfl) T.b_len bt_len (pa_cons (pe_ix (ix_D hr.units) (pv 0) pe_int (fun _ _ => rfl)) pa_nil)) (nomark _)) (pss_one (ps_ret pe_int)) pss_nil)
      (pss_cons (sset 3 sc_l_draw.nd (pe_ix (ix_D hr.units) (pe_ix (ix_D hr.units) (pv 0) pe_int (fun _ _ => rfl)) (pe_ix (ix_D hr.units) (pv 0) pe_int (fun _ _ => rfl)) (fun _ _ => rfl)))
      (pss_cons (ps_asg (pe_op op_addD (pe_ix (ix_D hr.units) (pv 0) pe_int (fun _ _ => rfl)) pe_int) (pg_sub (pv 0) pe_int (set_D hr.units)))
      (pss_cons (ps_if (pt_cmpR op_ltD (pv 3) pe_int (nomark _)) (pss_one (sset 3 sc_l_draw.nd (pe_op op_subD (pe_un un_neg pe_int) (pv 3)))) pss_nil)
      (pss_cons (ps_if (pt_cmpR op_geD (pv 3) (pe_op op_powD pe_int pe_int) (nomark _)) (pss_cons (ps_asg (pe_op op_fdivD (pv 3) (pv 1)) (pg_sub (pv 0) pe_int (set_D hr.units)))
      (pss_one (ps_ret (pe_op op_modD (pe_callTy call_intD (by rfl) T.b_int bt_int (pa_cons (pv 3) pa_nil)) (pv 1))))) pss_nil)
      (pss_cons (ps_asg (pv 3) (pg_sub (pv 0) pe_int (set_D hr.units)))
      (pss_cons (ps_asg pe_int (pg_sub (pv 0) pe_int (set_D hr.units)))
      (pss_one (ps_ret (pe_call G_l_mixed (hr.mono h_l_mixed) rfl T.g_l_mixed T.F_l_mixed.kp T.b_l_mixed .nil pass0 (pa_cons (pv 3) (pa_cons pe_int (pa_cons (pv 1) pa_nil)))))))))))))))
def rd_l_grow {K : PySem.W.Frag} {mg : Str → Option Value} (T : Txt K mg) (sp_l_draw : Sp) (sp_l_grow : Sp) : TS :=
    (tSeq (tAsg (tOp (rIxD K) (tLst (tCons (tC (.int 0)) (tCons (tC (.int 0)) (tCons (tC (.int 1)) (tCons (tC (.int 2)) (tCons (tC (.int 3)) (tCons (tC (.int 4)) (tCons (tC (.int 2)) (tCons (tC (.int 3)) (tCons (tC (.int 1)) (tCons (tC (.int 12)) tNil))))))))))) (tCall sp_l_draw [] E0 (tCons (tVar 0) (tCons (tC (.int 10)) tNil)))) (gName 4))
    (tSeq (tIfS (tTest (tOp rGeD (tCB (rLenD K) (tCons (tVar 2) tNil)) (tC (.int 6)))) (tAsg (tC (.int 0)) (gName 4)) tNext)
    (tSeq (tIfS (tTest (tOp (rEqX K) (tVar 4) (tC (.int 0)))) (tDrop (tBM K "list" (rAppend) (tVar 3) (tCons (tLst (tCons (tVar 1) (tCons (tVar 2) tNil))) tNil))) tNext)
    (tFor (iRng1 (tCons (tVar 4) tNil)) (gName 5) (tIfS (tTest (tOp rLtD (tCB (rLenD K) (tCons (tVar 3) tNil)) (tC (.int 61)))) (tDrop (tCall sp_l_grow [] E0 (tCons (tVar 0) (tCons (tOp (rAddD K) (tVar 1) (tLst (tCons (tVar 5) tNil))) (tCons (tOp (rAddD K) (tVar 2) (tLst (tCons (tVar 4) tNil))) (tCons (tVar 3) tNil)))))) tNext)))))
theorem fn_l_grow (T : Txt K mg) {sp : Sp} {k : Nat} {sp_l_draw : Sp} {k_l_draw : Nat} (G_l_draw : FnOk P w K mg base CX0 k_l_draw T.f_l_draw T.d_l_draw ["_law_pool_here", "_law_limit"] sp_l_draw) (h_l_draw : k_l_draw ≤ k) {sp_l_grow : Sp} {k_l_grow : Nat} (G_l_grow : FnOk P w K mg base CX0 k_l_grow T.f_l_grow T.d_l_grow ["_law_pool_here", "_law_picks", "_law_options", "_law_leaves"] sp_l_grow) (h_l_grow : k_l_grow ≤ k) (len : ∀ vs H Q E, sp vs H Q E → vs.length = 4)
    (h : ∀ vs H Q E, sp vs H Q E → rd_l_grow T sp_l_draw sp_l_grow { nx := fun _ H' => Q .non H', rt := Q } (start nm_l_grow vs) H) : FnOk P w K mg base CX0 (k + 1) T.f_l_grow T.d_l_grow ["_law_pool_here", "_law_picks", "_law_options", "_law_leaves"] sp := by
  refine T.F_l_grow.ok sc_l_grow len (fun cdv A outer s H vs Q E hr h0 => ⟨rd_l_grow T sp_l_draw sp_l_grow, ?_, h vs H Q E h0⟩)
  exact (pss_cons (sset 4 sc_l_grow.nd (pe_ix (ix_D hr.units) (pe_lst (pa_cons pe_int (pa_cons pe_int (pa_cons pe_int (pa_cons pe_int (pa_cons pe_int (pa_cons pe_int (pa_cons pe_int (pa_cons pe_int (pa_cons pe_int (pa_cons pe_int pa_nil))))))))))) (pe_call G_l_draw (hr.mono h_l_draw) rfl T.g_l_draw T.F_l_draw.kp T.b_l_draw .nil pass0 (pa_cons (pv 0) (pa_cons pe_int pa_nil))) (fun _ _ => rfl)))
      (pss_cons (ps_if (pt_cmpR op_geD (pe_callB call_lenX (by rfl) T.b_len bt_len (pa_cons (pv 2) pa_nil)) pe_int (nomark _)) (pss_one (sset 4 sc_l_grow.nd pe_int)) pss_nil)
      (pss_cons (ps_if (pt_cmpR (op_eqX hr.units) (pv 4) pe_int (nomark _)) (pss_one (ps_expr (pe_bm PySem.F.plainAttrs_list PySem.F.slot_list_append PySem.F.type_list_append mt_append (pv 3) (pa_cons (pe_lst (pa_cons (pv 1) (pa_cons (pv 2) pa_nil))) pa_nil)))) pss_nil)
      (pss_one (ps_for PassesOwn.never rfl (pi_range1 (by rfl) T.b_range (pa_cons (pv 4) pa_nil)) (gn 5 sc_l_grow.nd) (pss_one (ps_if (pt_cmpR op_ltD (pe_callB call_lenX (by rfl) T.b_len bt_len (pa_cons (pv 3) pa_nil)) pe_int (nomark _)) (pss_one (ps_expr (pe_call G_l_grow (hr.mono h_l_grow) rfl T.g_l_grow T.F_l_grow.kp T.b_l_grow .nil pass0 (pa_cons (pv 0) (pa_cons (pe_op op_addD (pv 1) (pe_lst (pa_cons (pv 5) pa_nil))) (pa_cons (pe_op op_addD (pv 2) (pe_lst (pa_cons (pv 4) pa_nil))) (pa_cons (pv 3) pa_nil))))))) pss_nil)))))))
def rd_l_parting {K : PySem.W.Frag} {mg : Str → Option Value} (T : Txt K mg) : TS :=
    (tSeq (tFor (iRng1 (tCons (tCB (rLenD K) (tCons (tVar 0) tNil)) tNil)) (gName 2) (tIfS (tTest (tOp (rNeX K) (tOp (rIxD K) (tVar 0) (tVar 2)) (tOp (rIxD K) (tVar 1) (tVar 2)))) (tRet (tVar 2)) tNext))
    (tRet (tCB (rLenD K) (tCons (tVar 0) tNil))))
theorem fn_l_parting (T : Txt K mg) {sp : Sp} {k : Nat} (len : ∀ vs H Q E, sp vs H Q E → vs.length = 2)
    (h : ∀ vs H Q E, sp vs H Q E → rd_l_parting T { nx := fun _ H' => Q .non H', rt := Q } (start nm_l_parting vs) H) : FnOk P w K mg base CX0 (k + 1) T.f_l_parting T.d_l_parting ["_law_one", "_law_other"] sp := by
  refine T.F_l_parting.ok sc_l_parting len (fun cdv A outer s H vs Q E hr h0 => ⟨rd_l_parting T, ?_, h vs H Q E h0⟩)
  exact (pss_cons (ps_for PassesOwn.never rfl (pi_range1 (by rfl) T.b_range (pa_cons (pe_callB call_lenX (by rfl) T.b_len bt_len (pa_cons (pv 0) pa_nil)) pa_nil)) (gn 2 sc_l_parting.nd) (pss_one (ps_if (pt_cmpR (op_neX hr.units) (pe_ix (ix_D hr.units) (pv 0) (pv 2) (fun _ _ => rfl)) (pe_ix (ix_D hr.units) (pv 1) (pv 2) (fun _ _ => rfl)) (nomark _)) (pss_one (ps_ret (pv 2))) pss_nil)))
      (pss_one (ps_ret (pe_callB call_lenX (by rfl) T.b_len bt_len (pa_cons (pv 0) pa_nil)))))
def rd_next_picks {K : PySem.W.Frag} {mg : Str → Option Value} (T : Txt K mg) : TS :=
    (tSeq (tAsg (tOp (rAddD K) (tCB (rListD K) (tCons (tVar 0) tNil)) (tOp rMulD (tLst (tCons (tC (.int 0)) tNil)) (tOp rSubD (tCB (rLenD K) (tCons (tVar 1) tNil)) (tCB (rLenD K) (tCons (tVar 0) tNil))))) (gName 2))
    (tSeq (tFor (iRevR (tRg1 (tCB (rLenD K) (tCons (tVar 1) tNil)))) (gName 3) (tIfS (tTest (tOp rLtD (tOp (rAddD K) (tOp (rIxD K) (tVar 2) (tVar 3)) (tC (.int 1))) (tOp (rIxD K) (tVar 1) (tVar 3)))) (tRet (tOp (rAddD K) (tSl (rSlX K) (tVar 2) tNoPart (tPart (tVar 3))) (tLst (tCons (tOp (rAddD K) (tOp (rIxD K) (tVar 2) (tVar 3)) (tC (.int 1))) tNil)))) tNext))
    (tRet (tC .non))))
theorem fn_next_picks (T : Txt K mg) {sp : Sp} {k : Nat} (len : ∀ vs H Q E, sp vs H Q E → vs.length = 2)
    (h : ∀ vs H Q E, sp vs H Q E → rd_next_picks T { nx := fun _ H' => Q .non H', rt := Q } (start nm_next_picks vs) H) : FnOk P w K mg base CX0 (k + 1) T.f_next_picks T.d_next_picks ["picks", "options"] sp := by
  refine T.F_next_picks.ok sc_next_picks len (fun cdv A outer s H vs Q E hr h0 => ⟨rd_next_picks T, ?_, h vs H Q E h0⟩)
  exact (pss_cons (sset 2 sc_next_picks.nd (pe_op op_addD (pe_callTy call_listD (by rfl) T.b_list bt_list (pa_cons (pv 0) pa_nil)) (pe_op op_mulD (pe_lst (pa_cons pe_int pa_nil)) (pe_op op_subD (pe_callB call_lenX (by rfl) T.b_len bt_len (pa_cons (pv 1) pa_nil)) (pe_callB call_lenX (by rfl) T.b_len bt_len (pa_cons (pv 0) pa_nil))))))
      (pss_cons (ps_for PassesOwn.never rfl (pi_revR (by rfl) T.b_reversed (prg_1 (by rfl) T.b_range (pe_callB call_lenX (by rfl) T.b_len bt_len (pa_cons (pv 1) pa_nil)))) (gn 3 sc_next_picks.nd) (pss_one (ps_if (pt_cmpR op_ltD (pe_op op_addD (pe_ix (ix_D hr.units) (pv 2) (pv 3) (fun _ _ => rfl)) pe_int) (pe_ix (ix_D hr.units) (pv 1) (pv 3) (fun _ _ => rfl)) (nomark _)) (pss_one (ps_ret (pe_op op_addD (pe_slice sl_X (pv 2) po_none (po_some (pv 3))) (pe_lst (pa_cons (pe_op op_addD (pe_ix (ix_D hr.units) (pv 2) (pv 3) (fun _ _ => rfl)) pe_int) pa_nil))))) pss_nil)))
      (pss_one (ps_ret pe_non))))
def rd_l_is_int {K : PySem.W.Frag} {mg : Str → Option Value} (T : Txt K mg) : TS :=
    (tRet (tAndV (tCB (rIsi K) (tCons (tVar 0) (tCons (tC (.ty "int")) tNil))) (tNotV (tCB (rIsi K) (tCons (tVar 0) (tCons (tC (.ty "bool")) tNil))))))
theorem fn_l_is_int (T : Txt K mg) {sp : Sp} {k : Nat} (len : ∀ vs H Q E, sp vs H Q E → vs.length = 1)
    (h : ∀ vs H Q E, sp vs H Q E → rd_l_is_int T { nx := fun _ H' => Q .non H', rt := Q } (start nm_l_is_int vs) H) : FnOk P w K mg base CX0 (k + 1) T.f_l_is_int T.d_l_is_int ["_law_thing"] sp := by
  refine T.F_l_is_int.ok sc_l_is_int len (fun cdv A outer s H vs Q E hr h0 => ⟨rd_l_is_int T, ?_, h vs H Q E h0⟩)
  exact (pss_one (ps_ret (pe_and (pe_callB call_isiD (by rfl) T.b_isinstance bt_isinstance (pa_cons (pv 0) (pa_cons (pe_bltn (by rfl) T.b_int bt_int rfl) pa_nil))) (pe_one (pe_not (pe_callB call_isiD (by rfl) T.b_isinstance bt_isinstance (pa_cons (pv 0) (pa_cons (pe_bltn (by rfl) T.b_bool bt_bool rfl) pa_nil))))))))
def rd_l_same {K : PySem.W.Frag} {mg : Str → Option Value} (T : Txt K mg) (sp_l_is_int : Sp) (sp_l_same : Sp) : TS :=
    (tSeq (tIfS (tTest (tOp rIsD (tVar 1) (tC .non))) (tRet (tOp rIsD (tVar 0) (tC .non))) tNext)
    (tSeq (tIfS (tTru K (tCB (rIsi K) (tCons (tVar 1) (tCons (tC (.ty "bool")) tNil)))) (tRet (tAndV (tCB (rIsi K) (tCons (tVar 0) (tCons (tC (.ty "bool")) tNil))) (tOp (rEqX K) (tVar 0) (tVar 1)))) tNext)
    (tSeq (tIfS (tTru K (tCB (rIsi K) (tCons (tVar 1) (tCons (tC (.ty "int")) tNil)))) (tRet (tAndV (tCall sp_l_is_int [] E0 (tCons (tVar 0) tNil)) (tOp (rEqX K) (tVar 0) (tVar 1)))) tNext)
    (tSeq (tIfS (tTru K (tCB (rIsi K) (tCons (tVar 1) (tCons (tC (.ty "str")) tNil)))) (tRet (tAndV (tCB (rIsi K) (tCons (tVar 0) (tCons (tC (.ty "str")) tNil))) (tOp (rEqX K) (tVar 0) (tVar 1)))) tNext)
    (tSeq (tIfS (tAnd (tTru K (tCB (rIsi K) (tCons (tVar 1) (tCons (tC (.ty "list")) tNil)))) (tNot (tTru K (tCB (rIsi K) (tCons (tVar 0) (tCons (tC (.ty "list")) tNil)))))) (tRet (tC (.bl false))) tNext)
    (tSeq (tIfS (tAnd (tTru K (tCB (rIsi K) (tCons (tVar 1) (tCons (tC (.ty "tuple")) tNil)))) (tNot (tTru K (tCB (rIsi K) (tCons (tVar 0) (tCons (tC (.ty "tuple")) tNil)))))) (tRet (tC (.bl false))) tNext)
    (tSeq (tIfS (tTest (tOp (rNeX K) (tCB (rLenD K) (tCons (tVar 0) tNil)) (tCB (rLenD K) (tCons (tVar 1) tNil)))) (tRet (tC (.bl false))) tNext)
    (tSeq (tFor (iRng1 (tCons (tCB (rLenD K) (tCons (tVar 1) tNil)) tNil)) (gName 2) (tIfS (tNot (tTru K (tCall sp_l_same [] E0 (tCons (tOp (rIxD K) (tVar 0) (tVar 2)) (tCons (tOp (rIxD K) (tVar 1) (tVar 2)) tNil))))) (tRet (tC (.bl false))) tNext))
    (tRet (tC (.bl true)))))))))))
theorem fn_l_same (T : Txt K mg) {sp : Sp} {k : Nat} {sp_l_is_int : Sp} {k_l_is_int : Nat} (G_l_is_int : FnOk P w K mg base CX0 k_l_is_int T.f_l_is_int T.d_l_is_int ["_law_thing"] sp_l_is_int) (h_l_is_int : k_l_is_int ≤ k) {sp_l_same : Sp} {k_l_same : Nat} (G_l_same : FnOk P w K mg base CX0 k_l_same T.f_l_same T.d_l_same ["_law_mine", "_law_due"] sp_l_same) (h_l_same : k_l_same ≤ k) (len : ∀ vs H Q E, sp vs H Q E → vs.length = 2)
    (h : ∀ vs H Q E, sp vs H Q E → rd_l_same T sp_l_is_int sp_l_same { nx := fun _ H' => Q .non H', rt := Q } (start nm_l_same vs) H) : FnOk P w K mg base CX0 (k + 1) T.f_l_same T.d_l_same ["_law_mine", "_law_due"] sp := by
  refine T.F_l_same.ok sc_l_same len (fun cdv A outer s H vs Q E hr h0 => ⟨rd_l_same T sp_l_is_int sp_l_same, ?_, h vs H Q E h0⟩)
  exact (pss_cons (ps_if (pt_cmpR op_isD (pv 1) pe_non (nomark _)) (pss_one (ps_ret (pe_cmpR op_isD (pv 0) pe_non (nomark _)))) pss_nil)
      (pss_cons (ps_if (pt_truthD (pe_callB call_isiD (by rfl) T.b_isinstance bt_isinstance (pa_cons (pv 1) (pa_cons (pe_bltn (by rfl) T.b_bool bt_bool rfl) pa_nil))) (by intro _; rfl)) (pss_one (ps_ret (pe_and (pe_callB call_isiD (by rfl) T.b_isinstance bt_isinstance (pa_cons (pv 0) (pa_cons (pe_bltn (by rfl) T.b_bool bt_bool rfl) pa_nil))) (pe_one (pe_cmpR (op_eqX hr.units) (pv 0) (pv 1) (nomark _)))))) pss_nil)
      (pss_cons (ps_if (pt_truthD (pe_callB call_isiD (by rfl) T.b_isinstance bt_isinstance (pa_cons (pv 1) (pa_cons (pe_bltn (by rfl) T.b_int bt_int rfl) pa_nil))) (by intro _; rfl)) (pss_one (ps_ret (pe_and (pe_call G_l_is_int (hr.mono h_l_is_int) rfl T.g_l_is_int T.F_l_is_int.kp T.b_l_is_int .nil pass0 (pa_cons (pv 0) pa_nil)) (pe_one (pe_cmpR (op_eqX hr.units) (pv 0) (pv 1) (nomark _)))))) pss_nil)
      (pss_cons (ps_if (pt_truthD (pe_callB call_isiD (by rfl) T.b_isinstance bt_isinstance (pa_cons (pv 1) (pa_cons (pe_bltn (by rfl) T.b_str bt_str rfl) pa_nil))) (by intro _; rfl)) (pss_one (ps_ret (pe_and (pe_callB call_isiD (by rfl) T.b_isinstance bt_isinstance (pa_cons (pv 0) (pa_cons (pe_bltn (by rfl) T.b_str bt_str rfl) pa_nil))) (pe_one (pe_cmpR (op_eqX hr.units) (pv 0) (pv 1) (nomark _)))))) pss_nil)
      (pss_cons (ps_if (PW.pt (pw_and (pt_truthD (pe_callB call_isiD (by rfl) T.b_isinstance bt_isinstance (pa_cons (pv 1) (pa_cons (pe_bltn (by rfl) T.b_list bt_list rfl) pa_nil))) (by intro _; rfl)) (pw_and1 (pt_not (pt_truthD (pe_callB call_isiD (by rfl) T.b_isinstance bt_isinstance (pa_cons (pv 0) (pa_cons (pe_bltn (by rfl) T.b_list bt_list rfl) pa_nil))) (by intro _; rfl)))))) (pss_one (ps_ret pe_bl)) pss_nil)
      (pss_cons (ps_if (PW.pt (pw_and (pt_truthD (pe_callB call_isiD (by rfl) T.b_isinstance bt_isinstance (pa_cons (pv 1) (pa_cons (pe_bltn (by rfl) T.b_tuple bt_tuple rfl) pa_nil))) (by intro _; rfl)) (pw_and1 (pt_not (pt_truthD (pe_callB call_isiD (by rfl) T.b_isinstance bt_isinstance (pa_cons (pv 0) (pa_cons (pe_bltn (by rfl) T.b_tuple bt_tuple rfl) pa_nil))) (by intro _; rfl)))))) (pss_one (ps_ret pe_bl)) pss_nil)
      (pss_cons (ps_if (pt_cmpR (op_neX hr.units) (pe_callB call_lenX (by rfl) T.b_len bt_len (pa_cons (pv 0) pa_nil)) (pe_callB call_lenX (by rfl) T.b_len bt_len (pa_cons (pv 1) pa_nil)) (nomark _)) (pss_one (ps_ret pe_bl)) pss_nil)
      (pss_cons (ps_for PassesOwn.never rfl (pi_range1 (by rfl) T.b_range (pa_cons (pe_callB call_lenX (by rfl) T.b_len bt_len (pa_cons (pv 1) pa_nil)) pa_nil)) (gn 2 sc_l_same.nd) (pss_one (ps_if (pt_not (pt_truthD (pe_call G_l_same (hr.mono h_l_same) rfl T.g_l_same T.F_l_same.kp T.b_l_same .nil pass0 (pa_cons (pe_ix (ix_D hr.units) (pv 0) (pv 2) (fun _ _ => rfl)) (pa_cons (pe_ix (ix_D hr.units) (pv 1) (pv 2) (fun _ _ => rfl)) pa_nil))) (by intro _; rfl))) (pss_one (ps_ret pe_bl)) pss_nil)))
      (pss_one (ps_ret pe_bl))))))))))
def rd_l_follows {K : PySem.W.Frag} {mg : Str → Option Value} (T : Txt K mg) (sp_next_picks : Sp) (sp_l_same : Sp) : TS :=
    (tSeq (tAsg (tCB (rListD K) (tCons (tVar 0) tNil)) (gName 3))
    (tSeq (tAsg (tCB (rListD K) (tCons (tVar 1) tNil)) (gName 4))
    (tSeq (tAsg (tCall sp_next_picks [] E0 (tCons (tVar 3) (tCons (tVar 4) tNil))) (gName 5))
    (tSeq (tIfS (tOr (tNot (tTru K (tCall sp_l_same [] E0 (tCons (tVar 5) (tCons (tVar 2) tNil))))) (tOr (tTest (tOp (rNeX K) (tVar 3) (tVar 0))) (tTest (tOp (rNeX K) (tVar 4) (tVar 1))))) (tRet (tC (.bl false))) tNext)
    (tSeq (tIfS (tTest (tOp rIsnotD (tVar 5) (tC .non))) (tSeq (tDrop (tBM K "list" (rAppend) (tVar 5) (tCons (tC (.int 1)) tNil)))
    (tAsg (tC (.int 5)) (gSub (tVar 5) (tC (.int 0)) rSetD))) tNext)
    (tRet (tCall sp_l_same [] E0 (tCons (tCall sp_next_picks [] E0 (tCons (tVar 3) (tCons (tVar 4) tNil))) (tCons (tVar 2) tNil)))))))))
theorem fn_l_follows (T : Txt K mg) {sp : Sp} {k : Nat} {sp_next_picks : Sp} {k_next_picks : Nat} (G_next_picks : FnOk P w K mg base CX0 k_next_picks T.f_next_picks T.d_next_picks ["picks", "options"] sp_next_picks) (h_next_picks : k_next_picks ≤ k) {sp_l_same : Sp} {k_l_same : Nat} (G_l_same : FnOk P w K mg base CX0 k_l_same T.f_l_same T.d_l_same ["_law_mine", "_law_due"] sp_l_same) (h_l_same : k_l_same ≤ k) (len : ∀ vs H Q E, sp vs H Q E → vs.length = 3)
    (h : ∀ vs H Q E, sp vs H Q E → rd_l_follows T sp_next_picks sp_l_same { nx := fun _ H' => Q .non H', rt := Q } (start nm_l_follows vs) H) : FnOk P w K mg base CX0 (k + 1) T.f_l_follows T.d_l_follows ["_law_picks", "_law_options", "_law_due"] sp := by
  refine T.F_l_follows.ok sc_l_follows len (fun cdv A outer s H vs Q E hr h0 => ⟨rd_l_follows T sp_next_picks sp_l_same, ?_, h vs H Q E h0⟩)
  exact (pss_cons (sset 3 sc_l_follows.nd (pe_callTy call_listD (by rfl) T.b_list bt_list (pa_cons (pv 0) pa_nil)))
      (pss_cons (sset 4 sc_l_follows.nd (pe_callTy call_listD (by rfl) T.b_list bt_list (pa_cons (pv 1) pa_nil)))
      (pss_cons (sset 5 sc_l_follows.nd (pe_call G_next_picks (hr.mono h_next_picks) rfl T.g_next_picks T.F_next_picks.kp T.b_next_picks .nil pass0 (pa_cons (pv 3) (pa_cons (pv 4) pa_nil))))
      (pss_cons (ps_if (PW.pt (pw_or (pt_not (pt_truthD (pe_call G_l_same (hr.mono h_l_same) rfl T.g_l_same T.F_l_same.kp T.b_l_same .nil pass0 (pa_cons (pv 5) (pa_cons (pv 2) pa_nil))) (by intro _; rfl))) (pw_or (pt_cmpR (op_neX hr.units) (pv 3) (pv 0) (nomark _)) (pw_or1 (pt_cmpR (op_neX hr.units) (pv 4) (pv 1) (nomark _)))))) (pss_one (ps_ret pe_bl)) pss_nil)
      (pss_cons (ps_if (pt_cmpR op_isnotD (pv 5) pe_non (nomark _)) (pss_cons (ps_expr (pe_bm PySem.F.plainAttrs_list PySem.F.slot_list_append PySem.F.type_list_append mt_append (pv 5) (pa_cons pe_int pa_nil)))
      (pss_one (ps_asg pe_int (pg_sub (pv 5) pe_int (set_D hr.units))))) pss_nil)
      (pss_one (ps_ret (pe_call G_l_same (hr.mono h_l_same) rfl T.g_l_same T.F_l_same.kp T.b_l_same .nil pass0 (pa_cons (pe_call G_next_picks (hr.mono h_next_picks) rfl T.g_next_picks T.F_next_picks.kp T.b_next_picks .nil pass0 (pa_cons (pv 3) (pa_cons (pv 4) pa_nil))) (pa_cons (pv 2) pa_nil))))))))))
def rd_l_loose {K : PySem.W.Frag} {mg : Str → Option Value} (T : Txt K mg) (sp_l_draw : Sp) : TS :=
    (tSeq (tAsg (tLst tNil) (gName 1))
    (tSeq (tAsg (tLst tNil) (gName 2))
    (tSeq (tFor (iRng1 (tCons (tCall sp_l_draw [] E0 (tCons (tVar 0) (tCons (tC (.int 9)) tNil))) tNil)) (gName 3) (tDrop (tBM K "list" (rAppend) (tVar 1) (tCons (tOp (rAddD K) (tC (.int 1)) (tCall sp_l_draw [] E0 (tCons (tVar 0) (tCons (tOp (rIxD K) (tLst (tCons (tC (.int 1)) (tCons (tC (.int 3)) (tCons (tC (.int 12)) (tCons (tOp rPowD (tC (.int 10)) (tC (.int 9))) tNil))))) (tCall sp_l_draw [] E0 (tCons (tVar 0) (tCons (tC (.int 4)) tNil)))) tNil)))) tNil))))
    (tSeq (tFor (iSeq K (tVar 1)) (gName 4) (tSeq (tAsg (tOp rSubD (tVar 4) (tC (.int 1))) (gName 5))
    (tSeq (tIfS (tTest (tOp (rEqX K) (tCall sp_l_draw [] E0 (tCons (tVar 0) (tCons (tC (.int 2)) tNil))) (tC (.int 1)))) (tAsg (tCall sp_l_draw [] E0 (tCons (tVar 0) (tCons (tVar 4) tNil))) (gName 5)) tNext)
    (tDrop (tBM K "list" (rAppend) (tVar 2) (tCons (tVar 5) tNil))))))
    (tRet (tLst (tCons (tSl (rSlX K) (tVar 2) tNoPart (tPart (tOp rSubD (tCB (rLenD K) (tCons (tVar 2) tNil)) (tCall sp_l_draw [] E0 (tCons (tVar 0) (tCons (tOp (rAddD K) (tCB (rLenD K) (tCons (tVar 2) tNil)) (tC (.int 1))) tNil)))))) (tCons (tVar 1) tNil))))))))
theorem fn_l_loose (T : Txt K mg) {sp : Sp} {k : Nat} {sp_l_draw : Sp} {k_l_draw : Nat} (G_l_draw : FnOk P w K mg base CX0 k_l_draw T.f_l_draw T.d_l_draw ["_law_pool_here", "_law_limit"] sp_l_draw) (h_l_draw : k_l_draw ≤ k) (len : ∀ vs H Q E, sp vs H Q E → vs.length = 1)
    (h : ∀ vs H Q E, sp vs H Q E → rd_l_loose T sp_l_draw { nx := fun _ H' => Q .non H', rt := Q } (start nm_l_loose vs) H) : FnOk P w K mg base CX0 (k + 1) T.f_l_loose T.d_l_loose ["_law_pool_here"] sp := by
  refine T.F_l_loose.ok sc_l_loose len (fun cdv A outer s H vs Q E hr h0 => ⟨rd_l_loose T sp_l_draw, ?_, h vs H Q E h0⟩)
  exact (pss_cons (sset 1 sc_l_loose.nd (pe_lst pa_nil))
      (pss_cons (sset 2 sc_l_loose.nd (pe_lst pa_nil))
      (pss_cons (ps_for PassesOwn.never rfl (pi_range1 (by rfl) T.b_range (pa_cons (pe_call G_l_draw (hr.mono h_l_draw) rfl T.g_l_draw T.F_l_draw.kp T.b_l_draw .nil pass0 (pa_cons (pv 0) (pa_cons pe_int pa_nil))) pa_nil)) (gn 3 sc_l_loose.nd) (pss_one (ps_expr (pe_bm PySem.F.plainAttrs_list PySem.F.slot_list_append PySem.F.type_list_append mt_append (pv 1) (pa_cons (pe_op op_addD pe_int (pe_call G_l_draw (hr.mono h_l_draw) rfl T.g_l_draw T.F_l_draw.kp T.b_l_draw .nil pass0 (pa_cons (pv 0) (pa_cons (pe_ix (ix_D hr.units) (pe_lst (pa_cons pe_int (pa_cons pe_int (pa_cons pe_int (pa_cons (pe_op op_powD pe_int pe_int) pa_nil))))) (pe_call G_l_draw (hr.mono h_l_draw) rfl T.g_l_draw T.F_l_draw.kp T.b_l_draw .nil pass0 (pa_cons (pv 0) (pa_cons pe_int pa_nil))) (fun _ _ => rfl)) pa_nil)))) pa_nil)))))
      (pss_cons (ps_for PassesOwn.never rfl (pi_seq (pv 1)) (gn 4 sc_l_loose.nd) (pss_cons (sset 5 sc_l_loose.nd (pe_op op_subD (pv 4) pe_int))
      (pss_cons (ps_if (pt_cmpR (op_eqX hr.units) (pe_call G_l_draw (hr.mono h_l_draw) rfl T.g_l_draw T.F_l_draw.kp T.b_l_draw .nil pass0 (pa_cons (pv 0) (pa_cons pe_int pa_nil))) pe_int (nomark _)) (pss_one (sset 5 sc_l_loose.nd (pe_call G_l_draw (hr.mono h_l_draw) rfl T.g_l_draw T.F_l_draw.kp T.b_l_draw .nil pass0 (pa_cons (pv 0) (pa_cons (pv 4) pa_nil))))) pss_nil)
      (pss_one (ps_expr (pe_bm PySem.F.plainAttrs_list PySem.F.slot_list_append PySem.F.type_list_append mt_append (pv 2) (pa_cons (pv 5) pa_nil)))))))
      (pss_one (ps_ret (pe_lst (pa_cons (pe_slice sl_X (pv 2) po_none (po_some (pe_op op_subD (pe_callB call_lenX (by rfl) T.b_len bt_len (pa_cons (pv 2) pa_nil)) (pe_call G_l_draw (hr.mono h_l_draw) rfl T.g_l_draw T.F_l_draw.kp T.b_l_draw .nil pass0 (pa_cons (pv 0) (pa_cons (pe_op op_addD (pe_callB call_lenX (by rfl) T.b_len bt_len (pa_cons (pv 2) pa_nil)) pe_int) pa_nil)))))) (pa_cons (pv 1) pa_nil)))))))))
def rd_l_raised {K : PySem.W.Frag} {mg : Str → Option Value} (T : Txt K mg) : TS :=
    (tSeq (tAsg (tOp (rAddD K) (tVar 0) (tLc (iRng1 (tCons (tOp rSubD (tCB (rLenD K) (tCons (tVar 1) tNil)) (tCB (rLenD K) (tCons (tVar 0) tNil))) tNil)) (gName 3) tYes (tC (.int 0)) [3])) (gName 2))
    (tSeq (tAsg (tC .non) (gName 4))
    (tSeq (tFor (iRng1 (tCons (tCB (rLenD K) (tCons (tVar 1) tNil)) tNil)) (gName 5) (tIfS (tTest (tOp rLtD (tOp (rAddD K) (tOp (rIxD K) (tVar 2) (tVar 5)) (tC (.int 1))) (tOp (rIxD K) (tVar 1) (tVar 5)))) (tAsg (tOp (rAddD K) (tSl (rSlX K) (tVar 2) tNoPart (tPart (tVar 5))) (tLst (tCons (tOp (rAddD K) (tOp (rIxD K) (tVar 2) (tVar 5)) (tC (.int 1))) tNil))) (gName 4)) tNext))
    (tRet (tVar 4)))))
theorem fn_l_raised (T : Txt K mg) {sp : Sp} {k : Nat} (len : ∀ vs H Q E, sp vs H Q E → vs.length = 2)
    (h : ∀ vs H Q E, sp vs H Q E → rd_l_raised T { nx := fun _ H' => Q .non H', rt := Q } (start nm_l_raised vs) H) : FnOk P w K mg base CX0 (k + 1) T.f_l_raised T.d_l_raised ["_law_picks", "_law_options"] sp := by
  refine T.F_l_raised.ok sc_l_raised len (fun cdv A outer s H vs Q E hr h0 => ⟨rd_l_raised T, ?_, h vs H Q E h0⟩)
  exact (pss_cons (sset 2 sc_l_raised.nd (pe_op op_addD (pv 0) (pe_lc (own := [("_law_k", 3)]) (g := (gName 3)) (tt := tYes) rfl sc_l_raised.nd (pi_range1 (by rfl) T.b_range (pa_cons (pe_op op_subD (pe_callB call_lenX (by rfl) T.b_len bt_len (pa_cons (pv 1) pa_nil)) (pe_callB call_lenX (by rfl) T.b_len bt_len (pa_cons (pv 0) pa_nil))) pa_nil)) (blkOk_by (own := [("_law_k", 3)]) (N := nm_l_raised) (sc := defScope s_l_raised) (by decide +kernel)) (fun _ _ _ _ _ => (gn 3 sc_l_raised.nd)) (fun _ _ _ _ _ => pts_nil) (fun _ _ _ _ _ => pe_int))))
      (pss_cons (sset 4 sc_l_raised.nd pe_non)
      (pss_cons (ps_for PassesOwn.never rfl (pi_range1 (by rfl) T.b_range (pa_cons (pe_callB call_lenX (by rfl) T.b_len bt_len (pa_cons (pv 1) pa_nil)) pa_nil)) (gn 5 sc_l_raised.nd) (pss_one (ps_if (pt_cmpR op_ltD (pe_op op_addD (pe_ix (ix_D hr.units) (pv 2) (pv 5) (fun _ _ => rfl)) pe_int) (pe_ix (ix_D hr.units) (pv 1) (pv 5) (fun _ _ => rfl)) (nomark _)) (pss_one (sset 4 sc_l_raised.nd (pe_op op_addD (pe_slice sl_X (pv 2) po_none (po_some (pv 5))) (pe_lst (pa_cons (pe_op op_addD (pe_ix (ix_D hr.units) (pv 2) (pv 5) (fun _ _ => rfl)) pe_int) pa_nil))))) pss_nil)))
      (pss_one (ps_ret (pv 4))))))
def rd_law {K : PySem.W.Frag} {mg : Str → Option Value} (T : Txt K mg) (sp_l_pool : Sp) (sp_l_grow : Sp) (sp_l_parting : Sp) (sp_l_follows : Sp) (sp_l_loose : Sp) (sp_l_raised : Sp) : TS :=
    (tSeq (tAsg (tCall sp_l_pool [] E0 (tCons (tVar 0) tNil)) (gName 1))
    (tSeq (tAsg (tLst tNil) (gName 2))
    (tSeq (tDrop (tCall sp_l_grow [] E0 (tCons (tVar 1) (tCons (tLst tNil) (tCons (tLst tNil) (tCons (tVar 2) tNil))))))
    (tSeq (tAsg (tLst tNil) (gName 3))
    (tSeq (tFor (iRng1 (tCons (tCB (rMinD K) (tCons (tC (.int 60)) (tCons (tCB (rLenD K) (tCons (tVar 2) tNil)) tNil))) tNil)) (gName 4) (tSeq (tAsg (tOp (rIxD K) (tVar 2) (tVar 4)) (gUnp K 2 (gCons (gName 5) (gCons (gName 6) gNil))))
    (tSeq (tAsg (tC .non) (gName 7))
    (tSeq (tIfS (tTest (tOp rLtD (tOp (rAddD K) (tVar 4) (tC (.int 1))) (tCB (rLenD K) (tCons (tVar 2) tNil)))) (tSeq (tAsg (tOp (rIxD K) (tOp (rIxD K) (tVar 2) (tOp (rAddD K) (tVar 4) (tC (.int 1)))) (tC (.int 0))) (gName 8))
    (tAsg (tSl (rSlX K) (tVar 8) tNoPart (tPart (tOp (rAddD K) (tCall sp_l_parting [] E0 (tCons (tVar 5) (tCons (tVar 8) tNil))) (tC (.int 1))))) (gName 7))) tNext)
    (tSeq (tIfS (tOr (tNot (tTru K (tCall sp_l_follows [] E0 (tCons (tVar 3) (tCons (tVar 6) (tCons (tVar 7) tNil)))))) (tNot (tTru K (tCall sp_l_follows [] E0 (tCons (tVar 5) (tCons (tVar 6) (tCons (tVar 7) tNil))))))) (tRet (tC (.bl false))) tNext)
    (tAsg (tVar 7) (gName 3)))))))
    (tSeq (tFor (iRng1 (tCons (tC (.int 3)) tNil)) (gName 4) (tSeq (tAsg (tCall sp_l_loose [] E0 (tCons (tVar 1) tNil)) (gUnp K 2 (gCons (gName 9) (gCons (gName 6) gNil))))
    (tIfS (tNot (tTru K (tCall sp_l_follows [] E0 (tCons (tVar 9) (tCons (tVar 6) (tCons (tCall sp_l_raised [] E0 (tCons (tVar 9) (tCons (tVar 6) tNil))) tNil)))))) (tRet (tC (.bl false))) tNext)))
    (tRet (tC (.bl true)))))))))
theorem fn_law (T : Txt K mg) {sp : Sp} {k : Nat} {sp_l_pool : Sp} {k_l_pool : Nat} (G_l_pool : FnOk P w K mg base CX0 k_l_pool T.f_l_pool T.d_l_pool ["_law_script"] sp_l_pool) (h_l_pool : k_l_pool ≤ k) {sp_l_grow : Sp} {k_l_grow : Nat} (G_l_grow : FnOk P w K mg base CX0 k_l_grow T.f_l_grow T.d_l_grow ["_law_pool_here", "_law_picks", "_law_options", "_law_leaves"] sp_l_grow) (h_l_grow : k_l_grow ≤ k) {sp_l_parting : Sp} {k_l_parting : Nat} (G_l_parting : FnOk P w K mg base CX0 k_l_parting T.f_l_parting T.d_l_parting ["_law_one", "_law_other"] sp_l_parting) (h_l_parting : k_l_parting ≤ k) {sp_l_follows : Sp} {k_l_follows : Nat} (G_l_follows : FnOk P w K mg base CX0 k_l_follows T.f_l_follows T.d_l_follows ["_law_picks", "_law_options", "_law_due"] sp_l_follows) (h_l_follows : k_l_follows ≤ k) {sp_l_loose : Sp} {k_l_loose : Nat} (G_l_loose : FnOk P w K mg base CX0 k_l_loose T.f_l_loose T.d_l_loose ["_law_pool_here"] sp_l_loose) (h_l_loose : k_l_loose ≤ k) {sp_l_raised : Sp} {k_l_raised : Nat} (G_l_raised : FnOk P w K mg base CX0 k_l_raised T.f_l_raised T.d_l_raised ["_law_picks", "_law_options"] sp_l_raised) (h_l_raised : k_l_raised ≤ k) (len : ∀ vs H Q E, sp vs H Q E → vs.length = 1)
    (h : ∀ vs H Q E, sp vs H Q E → rd_law T sp_l_pool sp_l_grow sp_l_parting sp_l_follows sp_l_loose sp_l_raised { nx := fun _ H' => Q .non H', rt := Q } (start nm_law vs) H) : FnOk P w K mg base CX0 (k + 1) T.f_law T.d_law ["_law_script"] sp := by
  refine T.F_law.ok sc_law len (fun cdv A outer s H vs Q E hr h0 => ⟨rd_law T sp_l_pool sp_l_grow sp_l_parting sp_l_follows sp_l_loose sp_l_raised, ?_, h vs H Q E h0⟩)
  exact (pss_cons (sset 1 sc_law.nd (pe_call G_l_pool (hr.mono h_l_pool) rfl T.g_l_pool T.F_l_pool.kp T.b_l_pool .nil pass0 (pa_cons (pv 0) pa_nil)))
      (pss_cons (sset 2 sc_law.nd (pe_lst pa_nil))
      (pss_cons (ps_expr (pe_call G_l_grow (hr.mono h_l_grow) rfl T.g_l_grow T.F_l_grow.kp T.b_l_grow .nil pass0 (pa_cons (pv 1) (pa_cons (pe_lst pa_nil) (pa_cons (pe_lst pa_nil) (pa_cons (pv 2) pa_nil))))))
      (pss_cons (sset 3 sc_law.nd (pe_lst pa_nil))
      (pss_cons (ps_for PassesOwn.never rfl (pi_range1 (by rfl) T.b_range (pa_cons (pe_callB (call_minD rfl) (by rfl) T.b_min bt_min (pa_cons pe_int (pa_cons (pe_callB call_lenX (by rfl) T.b_len bt_len (pa_cons (pv 2) pa_nil)) pa_nil))) pa_nil)) (gn 4 sc_law.nd) (pss_cons (ps_asg (pe_ix (ix_D hr.units) (pv 2) (pv 4) (fun _ _ => rfl)) (pg_unp rfl (pgs_cons (gn 5 sc_law.nd) (pgs_cons (gn 6 sc_law.nd) pgs_nil))))
      (pss_cons (sset 7 sc_law.nd pe_non)
      (pss_cons (ps_if (pt_cmpR op_ltD (pe_op op_addD (pv 4) pe_int) (pe_callB call_lenX (by rfl) T.b_len bt_len (pa_cons (pv 2) pa_nil)) (nomark _)) (pss_cons (sset 8 sc_law.nd (pe_ix (ix_D hr.units) (pe_ix (ix_D hr.units) (pv 2) (pe_op op_addD (pv 4) pe_int) (fun _ _ => rfl)) pe_int (fun _ _ => rfl)))
      (pss_one (sset 7 sc_law.nd (pe_slice sl_X (pv 8) po_none (po_some (pe_op op_addD (pe_call G_l_parting (hr.mono h_l_parting) rfl T.g_l_parting T.F_l_parting.kp T.b_l_parting .nil pass0 (pa_cons (pv 5) (pa_cons (pv 8) pa_nil))) pe_int)))))) pss_nil)
      (pss_cons (ps_if (PW.pt (pw_or (pt_not (pt_truthD (pe_call G_l_follows (hr.mono h_l_follows) rfl T.g_l_follows T.F_l_follows.kp T.b_l_follows .nil pass0 (pa_cons (pv 3) (pa_cons (pv 6) (pa_cons (pv 7) pa_nil)))) (by intro _; rfl))) (pw_or1 (pt_not (pt_truthD (pe_call G_l_follows (hr.mono h_l_follows) rfl T.g_l_follows T.F_l_follows.kp T.b_l_follows .nil pass0 (pa_cons (pv 5) (pa_cons (pv 6) (pa_cons (pv 7) pa_nil)))) (by intro _; rfl)))))) (pss_one (ps_ret pe_bl)) pss_nil)
      (pss_one (sset 3 sc_law.nd (pv 7))))))))
      (pss_cons (ps_for PassesOwn.never rfl (pi_range1 (by rfl) T.b_range (pa_cons pe_int pa_nil)) (gn 4 sc_law.nd) (pss_cons (ps_asg (pe_call G_l_loose (hr.mono h_l_loose) rfl T.g_l_loose T.F_l_loose.kp T.b_l_loose .nil pass0 (pa_cons (pv 1) pa_nil)) (pg_unp rfl (pgs_cons (gn 9 sc_law.nd) (pgs_cons (gn 6 sc_law.nd) pgs_nil))))
      (pss_one (ps_if (pt_not (pt_truthD (pe_call G_l_follows (hr.mono h_l_follows) rfl T.g_l_follows T.F_l_follows.kp T.b_l_follows .nil pass0 (pa_cons (pv 9) (pa_cons (pv 6) (pa_cons (pe_call G_l_raised (hr.mono h_l_raised) rfl T.g_l_raised T.F_l_raised.kp T.b_l_raised .nil pass0 (pa_cons (pv 9) (pa_cons (pv 6) pa_nil))) pa_nil)))) (by intro _; rfl))) (pss_one (ps_ret pe_bl)) pss_nil))))
      (pss_one (ps_ret pe_bl))))))))
end
end Q

namespace Q
/-! ### the plain law: next picks -/
/-- the last place that can be raised, raised, cut behind it -/
def nx : List Int → List Int → Option (List Int)
  | f :: fs, o :: os => match nx fs os with
    | some r => some (f :: r)
    | none => if f + 1 < o then some [f + 1] else none
  | _, _ => none
def padTo (ps : List Int) (n : Nat) : List Int := ps ++ List.replicate (n - ps.length) 0
theorem padTo_len {ps : List Int} {n : Nat} (h : ps.length ≤ n) : (padTo ps n).length = n := by
  unfold padTo; rw [List.length_append, List.length_replicate]; omega
theorem nx_nil (fs : List Int) : nx fs [] = none := by cases fs <;> rfl
theorem nx_nil' (os : List Int) : nx [] os = none := by cases os <;> rfl
theorem nx_snoc : ∀ (fs os : List Int) (f o : Int), fs.length = os.length → nx (fs ++ [f]) (os ++ [o]) = if f + 1 < o then some (fs ++ [f + 1]) else nx fs os
  | [], [], f, o, _ => rfl
  | [], _ :: _, _, _, h => by simp at h
  | _ :: _, [], _, _, h => by simp at h
  | a :: fs, b :: os, f, o, h => by
    have ih := nx_snoc fs os f o (by simpa using h)
    show nx (a :: (fs ++ [f])) (b :: (os ++ [o])) = _
    rw [nx, ih]
    by_cases c : f + 1 < o
    · rw [if_pos c, if_pos c]; rfl
    · rw [if_neg c, if_neg c]; rfl
theorem nx_some : ∀ {fs os d : List Int}, nx fs os = some d → ∃ (k : Nat) (x : Int), fs[k]? = some x ∧ d = fs.take k ++ [x + 1]
  | [], os, d, h => by rw [nx_nil'] at h; cases h
  | f :: fs, [], d, h => by rw [nx_nil] at h; cases h
  | f :: fs, o :: os, d, h => by
    rw [nx] at h
    cases e : nx fs os with
    | some r =>
      rw [e] at h
      obtain ⟨k, x, h1, h2⟩ := nx_some e
      cases h
      exact ⟨k + 1, x, by simpa using h1, by rw [h2]; rfl⟩
    | none =>
      rw [e] at h
      dsimp only at h
      by_cases c : f + 1 < o
      · rw [if_pos c] at h
        cases h
        exact ⟨0, f, rfl, rfl⟩
      · rw [if_neg c] at h; cases h
theorem nx_app : ∀ (ps os g h : List Int), ps.length = os.length → (∀ r, nx g h = some r → nx (ps ++ g) (os ++ h) = some (ps ++ r)) ∧ (ps = [] → nx (ps ++ g) (os ++ h) = nx g h)
  | [], [], g, h, _ => ⟨fun r e => e, fun _ => rfl⟩
  | [], _ :: _, _, _, h => by simp at h
  | _ :: _, [], _, _, h => by simp at h
  | a :: ps, b :: os, g, h, e => ⟨fun r q => by
      have ih := (nx_app ps os g h (by simpa using e)).1 r q
      show nx (a :: (ps ++ g)) (b :: (os ++ h)) = _
      rw [nx, ih]; rfl, fun z => by cases z⟩
/-- the leaf b stands behind the leaf a -/
def Lk (a b : List Int × List Int) : Prop := ∃ d z, nx a.1 a.2 = some d ∧ b.1 = d ++ List.replicate z 0
/-- the leaves beneath a node, from the left: full: all of them -/
structure Lvs (ls : List (List Int × List Int)) (full : Prop) : Prop where
  len : ∀ a ∈ ls, a.1.length = a.2.length
  first : ∀ a, ls[0]? = some a → ∃ z, a.1 = List.replicate z 0
  link : ∀ (i : Nat) a b, ls[i]? = some a → ls[i + 1]? = some b → Lk a b
  last : full → ∀ a, ls.getLast? = some a → nx a.1 a.2 = none
  some : ls ≠ []
theorem Lvs.leaf : Lvs [([], [])] True where
  len := fun a h => by simp at h; subst h; rfl
  first := fun a h => by simp at h; subst h; exact ⟨0, rfl⟩
  link := fun i a b h1 h2 => by simp at h2
  last := fun _ a h => by simp at h; subst h; rfl
  some := by simp
theorem Lvs.imp {ls : List (List Int × List Int)} {f g : Prop} (a : Lvs ls f) (h : g → f) : Lvs ls g := ⟨a.len, a.first, a.link, fun z => a.last (h z), a.some⟩
/-- one step in front of each leaf -/
def under1 (c n : Int) (ls : List (List Int × List Int)) : List (List Int × List Int) := ls.map fun a => (c :: a.1, n :: a.2)
/-- the leaves beneath the first k children of n; full: all of them -/
structure Kids (n : Int) (k : Nat) (ls : List (List Int × List Int)) (full : Prop) : Prop where
  len : ∀ a ∈ ls, a.1.length = a.2.length
  first : ∀ a, ls[0]? = some a → ∃ z, a.1 = List.replicate z 0
  link : ∀ (i : Nat) a b, ls[i]? = some a → ls[i + 1]? = some b → Lk a b
  last : full → ∀ a, ls.getLast? = some a → ∃ g h, a = (((k : Int) - 1) :: g, n :: h) ∧ nx g h = none
  some : ls = [] → k = 0
theorem Kids.nil (n : Int) : Kids n 0 [] True where
  len := fun a h => by simp at h
  first := fun a h => by simp at h
  link := fun i a b h1 h2 => by simp at h2
  last := fun _ a h => by simp at h
  some := fun _ => rfl
theorem Kids.more {n : Int} {k : Nat} {ls ms : List (List Int × List Int)} {f : Prop} (a : Kids n k ls True) (hk : (k : Int) < n) (b : Lvs ms f) : Kids n (k + 1) (ls ++ under1 k n ms) f where
  len := fun x h => by
    rcases List.mem_append.mp h with h | h
    · exact a.len x h
    · obtain ⟨y, hy, rfl⟩ := List.mem_map.mp h
      simp [b.len y hy]
  first := fun x h => by
    cases ls with
    | nil =>
      have hk0 := a.some rfl
      subst hk0
      rw [List.nil_append, under1, List.getElem?_map] at h
      cases e : ms[0]? with
      | none => rw [e] at h; cases h
      | some y =>
        rw [e] at h; cases h
        obtain ⟨z, hz⟩ := b.first y e
        exact ⟨z + 1, by simp [hz, List.replicate_succ]⟩
    | cons y r => exact a.first x (by simpa using h)
  link := fun i x y h1 h2 => by
    by_cases c1 : i + 1 < ls.length
    · rw [List.getElem?_append_left (by omega)] at h1
      rw [List.getElem?_append_left c1] at h2
      exact a.link i x y h1 h2
    · by_cases c2 : i + 1 = ls.length
      · rw [List.getElem?_append_left (by omega)] at h1
        rw [List.getElem?_append_right (by omega), under1, List.getElem?_map, c2, Nat.sub_self] at h2
        cases e : ms[0]? with
        | none => rw [e] at h2; cases h2
        | some w =>
          rw [e] at h2; cases h2
          obtain ⟨z, hz⟩ := b.first w e
          have hl : ls.getLast? = Option.some x := by
            rw [List.getLast?_eq_getElem?]
            have : ls.length - 1 = i := by omega
            rw [this]; exact h1
          obtain ⟨g, h, rfl, hn⟩ := a.last trivial x hl
          refine ⟨[(k : Int)], z, ?_, by simp [hz]⟩
          show nx (((k : Int) - 1) :: g) (n :: h) = _
          rw [nx, hn]
          dsimp only
          rw [if_pos (by omega)]
          have : (k : Int) - 1 + 1 = k := by omega
          rw [this]
      · rw [List.getElem?_append_right (by omega), under1, List.getElem?_map] at h1
        rw [List.getElem?_append_right (by omega), under1, List.getElem?_map] at h2
        have e0 : i + 1 - ls.length = (i - ls.length) + 1 := by omega
        rw [e0] at h2
        cases e1 : ms[i - ls.length]? with
        | none => rw [e1] at h1; cases h1
        | some u =>
          cases e2 : ms[(i - ls.length) + 1]? with
          | none => rw [e2] at h2; cases h2
          | some w =>
            rw [e1] at h1; cases h1
            rw [e2] at h2; cases h2
            obtain ⟨d, z, q1, q2⟩ := b.link _ u w e1 e2
            refine ⟨(k : Int) :: d, z, ?_, by simp [q2]⟩
            show nx ((k : Int) :: u.1) (n :: u.2) = _
            rw [nx, q1]
  last := fun hf x h => by
    have hne : under1 k n ms ≠ [] := by
      intro z; exact b.some (List.map_eq_nil_iff.mp z)
    rw [List.getLast?_append, under1, List.getLast?_map] at h
    cases e : ms.getLast? with
    | none => exact absurd (List.getLast?_eq_none_iff.mp e) b.some
    | some w =>
      rw [e] at h; cases h
      refine ⟨w.1, w.2, ?_, b.last hf w e⟩
      have : ((k + 1 : Nat) : Int) - 1 = k := by omega
      rw [this]
  some := fun h => by
    have := (List.append_eq_nil_iff.mp h).2
    exact absurd (List.map_eq_nil_iff.mp this) b.some
theorem Kids.weak {n : Int} {k : Nat} {ls : List (List Int × List Int)} {f g : Prop} (a : Kids n k ls f) (h : g → f) : Kids n k ls g := ⟨a.len, a.first, a.link, fun z => a.last (h z), a.some⟩
theorem Kids.done {n : Int} {k : Nat} {ls : List (List Int × List Int)} {f : Prop} (a : Kids n k ls f) (hk : f → (k : Int) = n) (h0 : k ≠ 0) : Lvs ls f where
  len := a.len
  first := a.first
  link := a.link
  last := fun hf x hx => by
    obtain ⟨g, h, rfl, hn⟩ := a.last hf x hx
    show nx (((k : Int) - 1) :: g) (n :: h) = none
    rw [nx, hn]
    dsimp only
    rw [if_neg (by have := hk hf; omega)]
  some := fun h => h0 (a.some h)
end Q


namespace Q
open PySem L2
local macro_rules | `(tactic| walk_at "kp") => `(tactic| first | assumption | exact Kp.refl | (refine Kp.upd ?_ (by assumption); walk_at "kp") | (refine Kp.trans ?_ (Kp.mut (by simp)); walk_at "kp") | (refine Kp.loc ?_ (by assumption); walk_at "kp"))
local macro_rules | `(tactic| walk_at "hp") => `(tactic| first | assumption | exact upd_same | (refine upd_keep ?_ (by assumption); walk_at "hp") | (refine upd_ne2 (by assumption) ?_; walk_at "hp") | (refine upd_ne3 (by assumption) ?_; walk_at "hp"))
local macro_rules | `(tactic| walk_at "go1") => `(tactic| first
  | with_reducible refine w_seq ?_
  | with_reducible refine w_asg ?_
  | (with_reducible refine w_gname ?_; try dsimp only [List.set])
  | with_reducible refine w_op ?_
  | ((with_reducible show tVar _ _ _ _); refine w_var rfl ?_)
  | with_reducible refine w_c ?_
  | with_reducible refine w_addI ?_
  | with_reducible refine w_subI ?_
  | with_reducible refine w_ltI ?_
  | with_reducible refine w_leI ?_
  | with_reducible refine w_gtI ?_
  | with_reducible refine w_geI ?_
  | with_reducible refine w_eqI ?_
  | with_reducible refine w_neI ?_
  | with_reducible refine w_eqS ?_
  | with_reducible refine w_eqB ?_
  | with_reducible refine w_neS ?_
  | with_reducible refine w_intI ?_
  | with_reducible refine w_isN ?_
  | with_reducible refine w_isnotN ?_
  | ((with_reducible show rMulD _ _ _ _); refine w_mulR ⟨by decide, by decide⟩ ?_)
  | ((with_reducible show rModD _ _ _ _); refine w_modI (by first | decide | assumption | omega) ?_)
  | ((with_reducible show rFdivD _ _ _ _); refine w_fdivI (by first | (exact ⟨by decide, by decide⟩) | (exact ⟨by omega, by omega⟩)) ?_)
  | ((with_reducible show rPowD _ _ _ _); refine w_powI ⟨by decide, by decide, by decide⟩ ?_)
  | ((with_reducible show rIxD _ _ _ _ _); first | refine w_ixL (by walk_at "hp") rfl ?_)
  | ((with_reducible show rLenD _ _ _ _); first | refine w_lenL (by walk_at "hp") (fun _ => ?_) | refine w_lenT (by assumption) (fun _ => ?_))
  | ((with_reducible show ∃ _, _ ∧ _ ∧ _ ∧ LoopR _ _ _ _ _ _); refine w_rI ⟨by omega, by omega⟩ ?_; try simp only [Int.toNat_natCast])
  | ((with_reducible show ∃ _, _ ∧ _ ∧ _ ∧ CompR _ _ _ _ _ _ _ _); refine w_rI ⟨by omega, by omega⟩ ?_; try simp only [Int.toNat_natCast])
  | ((with_reducible show rSetD _ _ _ _ _); first | refine w_setL (by walk_at "hp") rfl ?_)
  | with_reducible refine w_next ?_
  | with_reducible refine w_ret ?_
  | with_reducible refine w_retN ?_
  | with_reducible refine w_drop ?_
  | with_reducible refine w_ifs ?_
  | with_reducible refine w_test ?_
  | with_reducible refine w_tB ?_
  | with_reducible refine w_tru ?_
  | with_reducible refine w_trub ?_
  | with_reducible refine w_bl ?_
  | with_reducible refine w_and ?_
  | with_reducible refine w_or ?_
  | with_reducible refine w_not ?_
  | with_reducible refine w_andV ?_
  | with_reducible refine w_orV ?_
  | with_reducible refine w_notV ?_
  | with_reducible refine w_ifE ?_
  | with_reducible refine w_nil ?_
  | with_reducible refine w_cons ?_
  | with_reducible refine w_tup ?_
  | with_reducible refine w_lst ?_
  | with_reducible refine w_cb ?_
  | with_reducible refine w_call ?_
  | with_reducible refine w_sl ?_
  | with_reducible refine w_nopart ?_
  | with_reducible refine w_part ?_
  | with_reducible refine w_pint ?_
  | with_reducible refine w_bm ?_
  | ((with_reducible show tyV _ "list" _ _ ∧ _); refine ⟨tyL (by walk_at "hp"), ?_⟩)
  | ((with_reducible show tyV _ "str" _ _ ∧ _); refine ⟨rfl, ?_⟩)
  | with_reducible refine w_gcons ?_
  | with_reducible refine w_gnil ?_
  | with_reducible refine w_min2 ?_
  | with_reducible refine w_max2 ?_
  | with_reducible refine w_for ?_
  | with_reducible refine w_rng1 ?_
  | with_reducible refine w_rng2 ?_
  | with_reducible refine w_iseq ?_
  | with_reducible refine w_revR ?_
  | with_reducible refine w_rg1 ?_
  | with_reducible refine w_lc ?_
  | with_reducible refine w_yes ?_
  | with_reducible refine w_bm0 ?_
  | with_reducible refine w_gsub ?_
  | with_reducible refine w_un ?_
  | with_reducible refine w_neg ?_
  | with_reducible refine w_tt ?_
  | with_reducible refine w_ff ?_
  | with_reducible refine w_ntt ?_
  | with_reducible refine w_nff ?_
  | (refine ⟨by simp [sizeLine_eq], ?_⟩; (with_reducible show ∀ _, _)))
local macro_rules | `(tactic| walk_at "go") => `(tactic| (repeat (walk_at "go1")))
/-! ### the law's own small defs -/
theorem mul_r {i j : Int} (h : -(2 ^ 64) < j ∧ j < 2 ^ 64) : CMul i j := .inr h
/-- the pool of draws at p, away from qs -/
structure PoolL (qs : List Addr) (H : Hp) (p l : Addr) (ns : List Int) (a b c d : Int) : Prop where
  hp : H p = some (.lst [.ref l, .int a, .int b, .int c, .int d])
  hl : H l = some (.lst (ns.map V.int))
  pq : p ∉ qs
  lq : l ∉ qs
  a0 : 0 ≤ a
  b0 : 0 ≤ b
  n63 : ns.length ≤ 63
def Pool (qs : List Addr) (H : Hp) (p : Addr) : Prop := ∃ l ns a b c d, PoolL qs H p l ns a b c d
section
variable {qs : List Addr} {H H1 : Hp} {p q : Addr}
theorem Pool.keep (h : Pool qs H p) (k : Kp qs H H1) : Pool qs H1 p := by
  obtain ⟨l, ns, a, b, c, d, P⟩ := h
  exact ⟨l, ns, a, b, c, d, k _ _ P.pq P.hp, k _ _ P.lq P.hl, P.pq, P.lq, P.a0, P.b0, P.n63⟩
theorem Pool.avoid (h : Pool qs H p) (k : H q = none) : Pool (q :: qs) H p := by
  obtain ⟨l, ns, a, b, c, d, P⟩ := h
  refine ⟨l, ns, a, b, c, d, P.hp, P.hl, fun z => ?_, fun z => ?_, P.a0, P.b0, P.n63⟩
  · rcases List.mem_cons.mp z with rfl | z
    · have := P.hp; rw [k] at this; cases this
    · exact P.pq z
  · rcases List.mem_cons.mp z with rfl | z
    · have := P.hl; rw [k] at this; cases this
    · exact P.lq z
theorem Pool.tail (h : Pool (q :: qs) H p) : Pool qs H p := by
  obtain ⟨l, ns, a, b, c, d, P⟩ := h
  exact ⟨l, ns, a, b, c, d, P.hp, P.hl, fun z => P.pq (List.mem_cons_of_mem _ z), fun z => P.lq (List.mem_cons_of_mem _ z), P.a0, P.b0, P.n63⟩
theorem Pool.ne (h : Pool qs H p) (k : q ∈ qs) : q ≠ p := by
  obtain ⟨l, ns, a, b, c, d, P⟩ := h
  exact fun z => P.pq (z ▸ k)
theorem Pool.new (h : Pool qs H p) (k : H q = none) {o : HO} : Pool qs (upd H q o) p := h.keep (Kp.new k)
theorem Pool.some (h : Pool qs H p) : ∃ o, H p = some o := by
  obtain ⟨l, ns, a, b, c, d, P⟩ := h
  exact ⟨_, P.hp⟩
end
theorem FnOk.never {P : Program} {w : World} {K : PySem.W.Frag} {mg : Str → Option Value} {base : Heap} {CX : CXT} {k : Nat} {f : Addr} {fd : FuncData} {ps : List Str} : FnOk P w K mg base CX k f fd ps (fun _ _ _ _ => False) :=
  ⟨fun _ _ _ _ h => h.elim, fun _ _ _ _ _ _ _ _ _ _ _ _ _ h => h.elim⟩
def sp_l_mixed : Sp := fun vs H Q _ => ∃ c t l : Int, vs = [.int c, .int t, .int l] ∧ 0 < l ∧ ∀ n, 0 ≤ n → n < l → Q (.int n) H
def sp_l_draw : Sp := fun vs H Q _ => ∃ (p : Addr) (l : Int) (qs : List Addr), vs = [.ref p, .int l] ∧ Pool qs H p ∧ 0 < l ∧ l < 1073741824 ∧
  ∀ n H', 0 ≤ n → n < l → Kp [p] H H' → Pool qs H' p → Q (.int n) H'
section
variable {P : Program} {w : World} {K : PySem.W.Frag} {mg : Str → Option Value} {base : Heap}
theorem rd_mixed_ok (T : Txt K mg) (vs : List V) (H : Hp) (Q : VK) (E : XK) (h : sp_l_mixed vs H Q E) : rd_l_mixed T { nx := fun _ H' => Q .non H', rt := Q } (start nm_l_mixed vs) H := by
  obtain ⟨c, t, l, rfl, h0, k⟩ := h
  unfold rd_l_mixed
  walk_at "go"
  exact k _ (Int.emod_nonneg _ (by omega)) (Int.emod_lt_of_pos _ h0)

theorem pool_set {qs : List Addr} {H : Hp} {p sc : Addr} {ns : List Int} {a b c d : Int} (hl : H sc = some (.lst (ns.map V.int))) (ne : sc ≠ p) (pq : p ∉ qs) (lq : sc ∉ qs) (a0 : 0 ≤ a) (b0 : 0 ≤ b) (n63 : ns.length ≤ 63) :
    Pool qs (upd H p (.lst [.ref sc, .int a, .int b, .int c, .int d])) p := ⟨sc, ns, a, b, c, d, upd_same, (by rw [upd_ne ne]; exact hl), pq, lq, a0, b0, n63⟩
theorem pool_same {H H' : Hp} {p : Addr} {o : HO} (k : Kp [p] H H') : Kp [p] H (upd H' p o) := k.trans (Kp.mut (by simp))
theorem rd_draw_ok (T : Txt K mg) (vs : List V) (H : Hp) (Q : VK) (E : XK) (h : sp_l_draw vs H Q E) : rd_l_draw T sp_l_mixed { nx := fun _ H' => Q .non H', rt := Q } (start nm_l_draw vs) H := by
  obtain ⟨p, l, qs, rfl, ⟨sc, ns, a, b, c, d, hp, hl, pq, lq, a0, b0, n63⟩, h0, h1, k⟩ := h
  have nlp : sc ≠ p := by
    rintro rfl; rw [hp] at hl; cases ns with
    | nil => cases hl
    | cons n r => cases hl
  have hm : ∀ x : Int, 0 ≤ x % l ∧ x % l < l := fun x => ⟨Int.emod_nonneg _ (by omega), Int.emod_lt_of_pos _ h0⟩
  unfold rd_l_draw
  walk_at "go"
  refine w_ite (fun hb => ?_) (fun hb => ?_)
  · walk_at "go"
    exact k _ _ (hm _).1 (hm _).2 (pool_same .refl) (pool_set hl nlp pq lq a0 (Int.ediv_nonneg b0 (by omega)) n63)
  walk_at "go"
  refine w_ite (fun hd => ?_) (fun hd => ?_)
  · walk_at "go"
    exact ⟨_, _, _, rfl, h0, fun n n0 n1 => k n _ n0 n1 (pool_same .refl) (pool_set hl nlp pq lq a0 b0 n63)⟩
  walk_at "go"
  refine w_ite (fun ha => ?_) (fun ha => ?_)
  · walk_at "go"
    exact k _ _ (by decide) h0 .refl ⟨sc, ns, a, b, c, d, hp, hl, pq, lq, a0, b0, n63⟩
  walk_at "go"
  have ha' : a.toNat < ns.length := by rw [List.length_map] at ha; omega
  have hx : atI (ns.map V.int) a = some (.int ns[a.toNat]) := by
    have := atI_nat (xs := ns.map V.int) (j := a.toNat) (v := .int ns[a.toNat]) (by simp [ha'])
    rwa [Int.toNat_of_nonneg a0] at this
  refine w_ixL hl hx ?_
  walk_at "go"
  generalize ns[a.toNat] = z
  have key : ∀ y : Int, 0 ≤ y → True := fun _ _ => trivial
  refine w_ite (fun hz => ?_) (fun hz => ?_)
  all_goals
    walk_at "go"
    refine w_ite (fun hy => ?_) (fun hy => ?_)
    · walk_at "go"
      refine k _ _ (hm _).1 (hm _).2 (pool_same (pool_same .refl)) ?_
      rw [upd_upd]
      exact pool_set hl nlp pq lq (by omega) (Int.ediv_nonneg (by omega) (by omega)) n63
    · walk_at "go"
      refine ⟨_, _, _, rfl, h0, fun n n0 n1 => k n _ n0 n1 (pool_same (pool_same (pool_same .refl))) ?_⟩
      rw [upd_upd, upd_upd]
      exact pool_set hl nlp pq lq (by omega) b0 n63

theorem ok_mixed (T : Txt K mg) : FnOk P w K mg base CX0 1 T.f_l_mixed T.d_l_mixed ["_law_cell", "_law_turn", "_law_limit"] sp_l_mixed :=
  fn_l_mixed (k := 0) T (fun vs H Q E h => by obtain ⟨c, t, l, rfl, _⟩ := h; rfl) (rd_mixed_ok T)
theorem ok_draw (T : Txt K mg) : FnOk P w K mg base CX0 2 T.f_l_draw T.d_l_draw ["_law_pool_here", "_law_limit"] sp_l_draw :=
  fn_l_draw (k := 1) T (ok_mixed T) (by decide) (fun vs H Q E h => by obtain ⟨p, l, qs, rfl, _⟩ := h; rfl) (rd_draw_ok T)
def sp_l_pool (K : PySem.W.Frag) : Sp := fun vs H Q _ => ∃ (a : Addr) (ns : List Int), vs = [.ref a] ∧ SqL K H a (ns.map V.int) ∧ ns.length ≤ 63 ∧ ∀ p H', H p = none → Kp [] H H' → Pool [] H' p → Q (.ref p) H'
theorem rd_pool_ok (T : Txt K mg) (vs : List V) (H : Hp) (Q : VK) (E : XK) (h : sp_l_pool K vs H Q E) : rd_l_pool T { nx := fun _ H' => Q .non H', rt := Q } (start nm_l_pool vs) H := by
  obtain ⟨a, ns, rfl, hS, hl, k⟩ := h
  unfold rd_l_pool
  walk_at "go"
  refine ⟨a, _, rfl, .inl hS, fun l hl' => ?_⟩
  walk_at "go"
  intro p hp
  have nlp : l ≠ p := fun z => by subst z; rw [upd_same] at hp; cases hp
  refine k p _ ?_ ((Kp.new hl').upd hp) ⟨l, ns, 0, 0, 0, 0, upd_same, ?_, by simp, by simp, by decide, by decide, hl⟩
  · rwa [upd_ne nlp.symm] at hp
  · rw [upd_ne nlp, upd_same]
theorem ok_pool (T : Txt K mg) : FnOk P w K mg base CX0 1 T.f_l_pool T.d_l_pool ["_law_script"] (sp_l_pool K) :=
  fn_l_pool (k := 0) T (fun vs H Q E h => by obtain ⟨a, ns, rfl, _⟩ := h; rfl) (rd_pool_ok T)
def sp_l_is_int : Sp := fun vs H Q _ => ∃ i : Int, vs = [.int i] ∧ Q (.bl true) H
theorem rd_is_int_ok (T : Txt K mg) (vs : List V) (H : Hp) (Q : VK) (E : XK) (h : sp_l_is_int vs H Q E) : rd_l_is_int T { nx := fun _ H' => Q .non H', rt := Q } (start nm_l_is_int vs) H := by
  obtain ⟨i, rfl, k⟩ := h
  unfold rd_l_is_int
  walk_at "go"
  refine w_isi (Dt.int (ps := []) i) kb_int_int ?_
  walk_at "go"
  refine w_isi (Dt.int (ps := []) i) kb_int_bool ?_
  walk_at "go"
  exact k
theorem ok_is_int (T : Txt K mg) : FnOk P w K mg base CX0 1 T.f_l_is_int T.d_l_is_int ["_law_thing"] sp_l_is_int :=
  fn_l_is_int (k := 0) T (fun vs H Q E h => by obtain ⟨a, rfl, _⟩ := h; rfl) (rd_is_int_ok T)
/-- equal data: True -/
def sp_l_same (K : PySem.W.Frag) (n : Nat) : Sp := fun vs H Q _ => ∃ (x y : V) (d : PyData) (ps qs : List Addr), vs = [x, y] ∧ Dt K ps H x d ∧ Dt K qs H y d ∧ Dep n d ∧ Q (.bl true) H
theorem rd_same_ok (T : Txt K mg) (n : Nat) (spR : Sp) (hR : ∀ m, n = m + 1 → ∀ vs H Q E, sp_l_same K m vs H Q E → spR vs H Q E) (vs : List V) (H : Hp) (Q : VK) (E : XK) (h : sp_l_same K n vs H Q E) :
    rd_l_same T sp_l_is_int spR { nx := fun _ H' => Q .non H', rt := Q } (start nm_l_same vs) H := by
  obtain ⟨x, y, d, ps, qs, rfl, hx, hy, hd, k⟩ := h
  unfold rd_l_same
  walk_at "go"
  cases hd with
  | none =>
    cases hx; cases hy
    refine w_T rfl ?_
    walk_at "go"
    exact k
  | bool =>
    cases hx; cases hy
    refine w_F (fun z => by cases z) ?_
    walk_at "go"
    refine w_isi (Dt.bl (ps := []) _) kb_bool_bool ?_
    walk_at "go"
    refine w_isi (Dt.bl (ps := []) _) kb_bool_bool ?_
    walk_at "go"
    rw [decide_eq_true rfl]
    exact k
  | int =>
    cases hx; cases hy
    refine w_F (fun z => by cases z) ?_
    walk_at "go"
    refine w_isi (Dt.int (ps := []) _) kb_int_bool ?_
    walk_at "go"
    refine w_isi (Dt.int (ps := []) _) kb_int_int ?_
    walk_at "go"
    refine ⟨_, rfl, ?_⟩
    walk_at "go"
    rw [decide_eq_true rfl]
    exact k
  | str =>
    cases hx; cases hy
    refine w_F (fun z => by cases z) ?_
    walk_at "go"
    refine w_isi (Dt.str (ps := []) _) kb_str_bool ?_
    walk_at "go"
    refine w_isi (Dt.str (ps := []) _) kb_str_int ?_
    walk_at "go"
    refine w_isi (Dt.str (ps := []) _) kb_str_str ?_
    walk_at "go"
    refine w_isi (Dt.str (ps := []) _) kb_str_str ?_
    walk_at "go"
    rw [decide_eq_true rfl]
    exact k
  | list hdep =>
    rename_i m ds
    obtain ⟨a, xs, rfl, ha, na, hA⟩ := hx.inv_lst
    obtain ⟨b, ys, rfl, hb, nb, hB⟩ := hy.inv_lst
    have ka : ∀ U r, kitB "list" U = some r → ∀ Q : VK, Q (.bl r) H → rIsi K [.ref a, .ty U] H Q := fun U r e Q q => w_isi hx e q
    have kb : ∀ U r, kitB "list" U = some r → ∀ Q : VK, Q (.bl r) H → rIsi K [.ref b, .ty U] H Q := fun U r e Q q => w_isi hy e q
    refine w_F (fun z => by cases z) ?_
    walk_at "go"
    refine kb _ _ kb_list_bool _ ?_
    walk_at "go"
    refine kb _ _ kb_list_int _ ?_
    walk_at "go"
    refine kb _ _ kb_list_str _ ?_
    walk_at "go"
    refine kb _ _ kb_list_list _ ?_
    walk_at "go"
    refine ka _ _ kb_list_list _ ?_
    walk_at "go"
    refine kb _ _ kb_list_tuple _ ?_
    walk_at "go"
    refine w_NF (by rw [hA.1, hB.1]) ?_
    walk_at "go"
    refine loop_range (fun i σ H' => ∃ v, σ = [some (.ref a), some (.ref b), v] ∧ H' = H) ⟨_, rfl, rfl⟩ ?_ ?_
    · rintro i σ H' hi ⟨v, rfl, rfl⟩
      have hda : i < xs.length := by rw [hA.1, ← hB.1]; exact hi
      obtain ⟨d, hd1, hd2⟩ := hB.get' (i := i) (x := ys[i]) (by simp [hi])
      have hxa : Dt K ps H' xs[i] d := hA.2 i _ _ (by simp [hda]) hd1
      rw [Int.zero_add]
      walk_at "go"
      refine w_ixL ha (atI_nat (v := xs[i]) (by simp [hda])) ?_
      walk_at "go"
      refine w_ixL hb (atI_nat (v := ys[i]) (by simp [hi])) ?_
      walk_at "go"
      refine hR m rfl _ _ _ _ ⟨_, _, d, ps, qs, rfl, hxa, hd2, hdep i d hd1, ?_⟩
      walk_at "go"
      exact ⟨_, rfl, rfl⟩
    · rintro σ H' ⟨v, rfl, rfl⟩
      walk_at "go"
      exact k
  | tuple hdep =>
    rename_i m ds
    obtain ⟨a, xs, rfl, ha, hA⟩ := hx.inv_tup
    obtain ⟨b, ys, rfl, hb, hB⟩ := hy.inv_tup
    have ha' := ha.sq
    have hb' := hb.sq
    have ka : ∀ U r, kitB "tuple" U = some r → ∀ Q : VK, Q (.bl r) H → rIsi K [.ref a, .ty U] H Q := fun U r e Q q => w_isi hx e q
    have kb : ∀ U r, kitB "tuple" U = some r → ∀ Q : VK, Q (.bl r) H → rIsi K [.ref b, .ty U] H Q := fun U r e Q q => w_isi hy e q
    refine w_F (fun z => by cases z) ?_
    walk_at "go"
    refine kb _ _ kb_tuple_bool _ ?_
    walk_at "go"
    refine kb _ _ kb_tuple_int _ ?_
    walk_at "go"
    refine kb _ _ kb_tuple_str _ ?_
    walk_at "go"
    refine kb _ _ kb_tuple_list _ ?_
    walk_at "go"
    refine kb _ _ kb_tuple_tuple _ ?_
    walk_at "go"
    refine ka _ _ kb_tuple_tuple _ ?_
    walk_at "go"
    refine w_NF (by rw [hA.1, hB.1]) ?_
    walk_at "go"
    refine loop_range (fun i σ H' => ∃ v, σ = [some (.ref a), some (.ref b), v] ∧ H' = H) ⟨_, rfl, rfl⟩ ?_ ?_
    · rintro i σ H' hi ⟨v, rfl, rfl⟩
      have hda : i < xs.length := by rw [hA.1, ← hB.1]; exact hi
      obtain ⟨d, hd1, hd2⟩ := hB.get' (i := i) (x := ys[i]) (by simp [hi])
      have hxa : Dt K ps H' xs[i] d := hA.2 i _ _ (by simp [hda]) hd1
      rw [Int.zero_add]
      walk_at "go"
      refine w_ixT ha' (atI_nat (v := xs[i]) (by simp [hda])) ?_
      walk_at "go"
      refine w_ixT hb' (atI_nat (v := ys[i]) (by simp [hi])) ?_
      walk_at "go"
      refine hR m rfl _ _ _ _ ⟨_, _, d, ps, qs, rfl, hxa, hd2, hdep i d hd1, ?_⟩
      walk_at "go"
      exact ⟨_, rfl, rfl⟩
    · rintro σ H' ⟨v, rfl, rfl⟩
      walk_at "go"
      exact k
theorem ok_same (T : Txt K mg) : ∀ n, FnOk P w K mg base CX0 (n + 2) T.f_l_same T.d_l_same ["_law_mine", "_law_due"] (sp_l_same K n)
  | 0 => fn_l_same (k := 1) T (ok_is_int T) (by omega) (FnOk.never (k := 0)) (by omega) (fun vs H Q E h => by obtain ⟨x, y, d, ps, qs, rfl, _⟩ := h; rfl) (rd_same_ok T 0 _ fun m e => by omega)
  | n + 1 => fn_l_same (k := n + 2) T (ok_is_int T) (by omega) (ok_same T n) (by omega) (fun vs H Q E h => by obtain ⟨x, y, d, ps, qs, rfl, _⟩ := h; rfl) (rd_same_ok T (n + 1) _ fun m e vs H Q E h => by
      obtain rfl : n = m := by omega
      exact h)
end
section
variable {P : Program} {w : World} {K : PySem.W.Frag} {mg : Str → Option Value} {base : Heap}
def encO : Option (List Int) → PyData
  | none => .none
  | some l => .list (l.map PyData.int)
/-- a list of ints or None, at v -/
def OptAt (H : Hp) (v : V) : Option (List Int) → Prop
  | none => v = .non
  | some l => ∃ p, v = .ref p ∧ H p = some (.lst (l.map V.int))
theorem OptAt.dt {H : Hp} {v : V} {o : Option (List Int)} (h : OptAt H v o) : Dt K [] H v (encO o) := by
  cases o with
  | none => cases h; exact .non
  | some l => obtain ⟨p, rfl, hp⟩ := h; exact .of_ints hp (by simp)
theorem OptAt.keep {H H' : Hp} {v : V} {o : Option (List Int)} (h : OptAt H v o) (k : Kp [] H H') : OptAt H' v o := by
  cases o with
  | none => exact h
  | some l => obtain ⟨p, rfl, hp⟩ := h; exact ⟨p, rfl, k _ _ (by simp) hp⟩
theorem encO_dep {o : Option (List Int)} : Dep 1 (encO o) := by
  cases o with
  | none => exact .none
  | some l => exact .ints
theorem take_succ' {α : Type} {l : List α} {i : Nat} {x : α} (h : l[i]? = some x) : l.take (i + 1) = l.take i ++ [x] := by rw [List.take_add_one, h]; rfl
theorem nx_take {fs os : List Int} {i : Nat} {x y : Int} (h1 : fs[i]? = some x) (h2 : os[i]? = some y) : nx (fs.take (i + 1)) (os.take (i + 1)) = if x + 1 < y then some (fs.take i ++ [x + 1]) else nx (fs.take i) (os.take i) := by
  have l1 : i < fs.length := (List.getElem?_eq_some_iff.mp h1).1
  have l2 : i < os.length := (List.getElem?_eq_some_iff.mp h2).1
  rw [take_succ' h1, take_succ' h2, nx_snoc _ _ _ _ (by rw [List.length_take, List.length_take]; omega)]
def sp_next_picks : Sp := fun vs H Q _ => ∃ (a b : Addr) (ps os : List Int), vs = [.ref a, .ref b] ∧ H a = some (.lst (ps.map V.int)) ∧ H b = some (.lst (os.map V.int)) ∧ ps.length ≤ os.length ∧ os.length ≤ 1000 ∧
  ∀ v H', Kp [] H H' → OptAt H' v (nx (padTo ps os.length) os) → (∀ p, v = .ref p → H p = none) → Q v H'
theorem rd_next_picks_ok (T : Txt K mg) (vs : List V) (H : Hp) (Q : VK) (E : XK) (h : sp_next_picks vs H Q E) : rd_next_picks T { nx := fun _ H' => Q .non H', rt := Q } (start nm_next_picks vs) H := by
  obtain ⟨a, b, ps, os, rfl, ha, hb, hle, h1000, k⟩ := h
  unfold rd_next_picks
  walk_at "go"
  refine w_listL ha fun l hl => ?_
  walk_at "go"
  intro q hq
  walk_at "go"
  refine w_rep upd_same ⟨by simp only [List.length_map]; omega, by simp only [List.length_map]; omega, by simp only [List.length_map, List.length_cons, List.length_nil]; omega⟩ fun r hr => ?_
  refine w_cat (by walk_at "hp") upd_same ?_ fun f hf => ?_
  · rw [rep_one]; simp only [List.length_map, List.length_replicate, sizeLine_eq]; omega
  have efull : ps.map V.int ++ (List.replicate ((((os.map V.int).length : Nat) : Int) - (((ps.map V.int).length : Nat) : Int)).toNat [V.int 0]).flatten = (padTo ps os.length).map V.int := by
    rw [rep_one]
    simp only [List.length_map, padTo, List.map_append, List.map_replicate]
    have : ((os.length : Int) - (ps.length : Int)).toNat = os.length - ps.length := by omega
    rw [this]
  rw [efull]
  have hfl := padTo_len hle
  generalize padTo ps os.length = full at *
  walk_at "go"
  have eL : (((os.map V.int).length : Nat) : Int) = os.length := by simp
  refine ⟨by omega, by omega, by omega, by omega, ?_⟩
  have eN : ((((os.map V.int).length : Nat) : Int) - 0).toNat = os.length := by omega
  rw [eN]
  have hf0 : H f = none := Kp.free (ps := []) (by walk_at "kp") (by simp) hf
  refine loop_rangeC (fun i σ H' => ∃ v, σ = [some (.ref a), some (.ref b), some (.ref f), v] ∧ Kp [] H H' ∧ H' f = some (.lst (full.map V.int)) ∧ H' b = some (.lst (os.map V.int)) ∧ i ≤ os.length ∧ nx full os = nx (full.take (os.length - i)) (os.take (os.length - i)))
    ⟨_, rfl, by walk_at "kp", upd_same, by walk_at "hp", Nat.zero_le _, ?_⟩ ?_ ?_
  · rw [Nat.sub_zero, List.take_length, ← hfl, List.take_length]
  · rintro i σ H' hi ⟨v, rfl, hk, h1, h2, _, hn⟩
    have ei : (0 : Int) + (os.length : Int) - 1 + (i : Int) * -1 = ((os.length - 1 - i : Nat) : Int) := by omega
    rw [ei]
    generalize hj : os.length - 1 - i = j
    have hj1 : os.length - i = j + 1 := by omega
    have hj2 : os.length - (i + 1) = j := by omega
    have hjl : j < os.length := by omega
    rw [hj1] at hn
    have g1 : full[j]? = some full[j] := by simp
    have g2 : os[j]? = some os[j] := by simp
    rw [nx_take g1 g2] at hn
    walk_at "go"
    refine w_ixL h1 (map_at g1) ?_
    walk_at "go"
    refine w_ixL h2 (map_at g2) ?_
    walk_at "go"
    refine w_ite (fun c => ?_) (fun c => ?_)
    · rw [if_pos c] at hn
      walk_at "go"
      refine w_slL h1 fun s hs => ?_
      walk_at "go"
      refine w_ixL (by walk_at "hp") (map_at g1) ?_
      walk_at "go"
      intro t ht
      refine w_cat (by walk_at "hp") upd_same ?_ fun u hu => ?_
      · rw [cutV_to]; simp only [List.length_take, List.length_map, List.length_cons, List.length_nil, sizeLine_eq]; omega
      have kk : Kp [] H (upd (upd (upd H' s (.lst (cutV (full.map V.int) none (some (j : Int))))) t (.lst [.int (full[j] + 1)])) u (.lst (cutV (full.map V.int) none (some (j : Int)) ++ [.int (full[j] + 1)]))) := by walk_at "kp"
      refine k _ _ kk ?_ ?_
      · rw [hn]
        refine ⟨u, rfl, ?_⟩
        rw [upd_same, cutV_to]
        simp
      · intro p hp
        cases hp
        exact Kp.free (ps := []) (by walk_at "kp") (by simp) hu
    · rw [if_neg c] at hn
      walk_at "go"
      exact ⟨_, rfl, hk, h1, h2, by omega, by rw [hj2]; exact hn⟩
  · rintro σ H' ⟨v, rfl, hk, h1, h2, _, hn⟩
    walk_at "go"
    refine k _ _ hk ?_ (fun p hp => by cases hp)
    rw [hn, Nat.sub_self]
    rfl
end
section
variable {P : Program} {w : World} {K : PySem.W.Frag} {mg : Str → Option Value} {base : Heap}
theorem ok_next_picks (T : Txt K mg) : FnOk P w K mg base CX0 1 T.f_next_picks T.d_next_picks ["picks", "options"] sp_next_picks :=
  fn_next_picks (k := 0) T (fun vs H Q E h => by obtain ⟨a, b, ps, os, rfl, _⟩ := h; rfl) (rd_next_picks_ok T)
def sp_l_parting : Sp := fun vs H Q _ => ∃ (a b : Addr) (f g : List Int) (k : Nat) (x y : Int), vs = [.ref a, .ref b] ∧ H a = some (.lst (f.map V.int)) ∧ H b = some (.lst (g.map V.int)) ∧ f[k]? = some x ∧ g[k]? = some y ∧ x ≠ y ∧ f.take k = g.take k ∧ Q (.int k) H
theorem take_get {α : Type} {f g : List α} {k i : Nat} {x : α} (h : f.take k = g.take k) (hi : i < k) (e : f[i]? = some x) : g[i]? = some x := by
  have e1 : (f.take k)[i]? = some x := by rw [List.getElem?_take, if_pos hi]; exact e
  rw [h, List.getElem?_take, if_pos hi] at e1
  exact e1
theorem rd_parting_ok (T : Txt K mg) (vs : List V) (H : Hp) (Q : VK) (E : XK) (h : sp_l_parting vs H Q E) : rd_l_parting T { nx := fun _ H' => Q .non H', rt := Q } (start nm_l_parting vs) H := by
  obtain ⟨a, b, f, g, k, x, y, rfl, ha, hb, hx, hy, hne, ht, q⟩ := h
  have hkl : k < f.length := (List.getElem?_eq_some_iff.mp hx).1
  unfold rd_l_parting
  walk_at "go"
  refine loop_range (fun i σ H' => ∃ v, σ = [some (.ref a), some (.ref b), v] ∧ H' = H ∧ i ≤ k) ⟨_, rfl, rfl, Nat.zero_le _⟩ ?_ ?_
  · rintro i σ H' hi ⟨v, rfl, rfl, hik⟩
    rw [Int.zero_add]
    have hil : i < f.length := by omega
    have e1 : f[i]? = some f[i] := by simp [hil]
    walk_at "go"
    refine w_ixL ha (map_at e1) ?_
    walk_at "go"
    by_cases c : i = k
    · subst c
      rw [e1] at hx; cases hx
      refine w_ixL hb (map_at hy) ?_
      walk_at "go"
      refine w_NT hne ?_
      walk_at "go"
      exact q
    · have e2 := take_get ht (by omega) e1
      refine w_ixL hb (map_at e2) ?_
      walk_at "go"
      refine w_NF rfl ?_
      walk_at "go"
      exact ⟨_, rfl, rfl, by omega⟩
  · rintro σ H' ⟨v, rfl, rfl, hik⟩
    rw [List.length_map] at hik
    omega
theorem ok_parting (T : Txt K mg) : FnOk P w K mg base CX0 1 T.f_l_parting T.d_l_parting ["_law_one", "_law_other"] sp_l_parting :=
  fn_l_parting (k := 0) T (fun vs H Q E h => by obtain ⟨a, b, f, g, k, x, y, rfl, _⟩ := h; rfl) (rd_parting_ok T)
def sp_l_raised : Sp := fun vs H Q _ => ∃ (a b : Addr) (ps os : List Int), vs = [.ref a, .ref b] ∧ H a = some (.lst (ps.map V.int)) ∧ H b = some (.lst (os.map V.int)) ∧ ps.length ≤ os.length ∧ os.length ≤ 1000 ∧
  ∀ v H', Kp [] H H' → OptAt H' v (nx (padTo ps os.length) os) → Q v H'
theorem rd_raised_ok (T : Txt K mg) (vs : List V) (H : Hp) (Q : VK) (E : XK) (h : sp_l_raised vs H Q E) : rd_l_raised T { nx := fun _ H' => Q .non H', rt := Q } (start nm_l_raised vs) H := by
  obtain ⟨a, b, ps, os, rfl, ha, hb, hle, h1000, k⟩ := h
  unfold rd_l_raised
  walk_at "go"
  have eN : ((((os.map V.int).length : Nat) : Int) - (((ps.map V.int).length : Nat) : Int)).toNat = os.length - ps.length := by simp only [List.length_map]; omega
  rw [eN]
  refine comp_range (fun E i H' => Kp [] H H' ∧ H' E = some (.lst ((List.replicate i 0).map V.int))) ?_ ?_ ?_
  · intro E hE
    exact ⟨Kp.new hE, upd_same⟩
  · rintro E hE i H' hi ⟨kk, hh⟩
    walk_at "go"
    refine ⟨rfl, ?_⟩
    walk_at "go"
    refine ⟨_, hh, ?_, Kp.loc kk hE, ?_⟩
    · simp only [List.length_map, List.length_replicate, sizeLine_eq]; omega
    · rw [upd_same, List.replicate_succ', List.map_append]; rfl
  · rintro E hE H' ⟨kk, hh⟩
    refine w_cat (kk _ _ (by simp) ha) hh ?_ fun f hf => ?_
    · simp only [List.length_map, List.length_replicate, sizeLine_eq]; omega
    rw [← List.map_append]
    have hfl := padTo_len hle
    have e0 : ps ++ List.replicate (os.length - ps.length) 0 = padTo ps os.length := rfl
    rw [e0]
    generalize padTo ps os.length = full at *
    have hb1 : (upd H' f (.lst (full.map V.int))) b = some (.lst (os.map V.int)) := upd_keep (kk _ _ (by simp) hb) hf
    have kf : Kp [] H (upd H' f (.lst (full.map V.int))) := kk.upd hf
    have hf1 : (upd H' f (.lst (full.map V.int))) f = some (.lst (full.map V.int)) := upd_same
    generalize upd H' f (.lst (full.map V.int)) = H1 at *
    walk_at "go"
    refine loop_range (fun i σ H' => ∃ u v, σ = [some (.ref a), some (.ref b), some (.ref f), none, some u, v] ∧ Kp [] H H' ∧ H' f = some (.lst (full.map V.int)) ∧ H' b = some (.lst (os.map V.int)) ∧ OptAt H' u (nx (full.take i) (os.take i)))
      ⟨.non, none, rfl, kf, hf1, hb1, rfl⟩ ?_ ?_
    · rintro i σ H2 hi ⟨u, v, rfl, hk, h1, h2, hn⟩
      rw [List.length_map] at hi
      rw [Int.zero_add]
      have g1 : full[i]? = some full[i] := by simp
      have g2 : os[i]? = some os[i] := by simp
      walk_at "go"
      refine w_ixL h1 (map_at g1) ?_
      walk_at "go"
      refine w_ixL h2 (map_at g2) ?_
      walk_at "go"
      refine w_ite (fun c => ?_) (fun c => ?_)
      · walk_at "go"
        refine w_slL h1 fun s hs => ?_
        walk_at "go"
        refine w_ixL (by walk_at "hp") (map_at g1) ?_
        walk_at "go"
        intro t ht
        refine w_cat (by walk_at "hp") upd_same ?_ fun r hr => ?_
        · rw [cutV_to]; simp only [List.length_take, List.length_map, List.length_cons, List.length_nil, sizeLine_eq]; omega
        walk_at "go"
        refine ⟨.ref r, _, rfl, by walk_at "kp", by walk_at "hp", by walk_at "hp", ?_⟩
        rw [nx_take g1 g2, if_pos c]
        refine ⟨r, rfl, ?_⟩
        rw [upd_same, cutV_to]; simp
      · walk_at "go"
        exact ⟨u, _, rfl, hk, h1, h2, by rw [nx_take g1 g2, if_neg c]; exact hn⟩
    · rintro σ H2 ⟨u, v, rfl, hk, h1, h2, hn⟩
      walk_at "go"
      refine k _ _ hk ?_
      rw [List.length_map, List.take_length, ← hfl, List.take_length] at hn
      exact hn
theorem ok_raised (T : Txt K mg) : FnOk P w K mg base CX0 1 T.f_l_raised T.d_l_raised ["_law_picks", "_law_options"] sp_l_raised :=
  fn_l_raised (k := 0) T (fun vs H Q E h => by obtain ⟨a, b, ps, os, rfl, _⟩ := h; rfl) (rd_raised_ok T)
def sp_l_follows (K : PySem.W.Frag) : Sp := fun vs H Q _ => ∃ (a b : Addr) (ps os : List Int) (u : V), vs = [.ref a, .ref b, u] ∧ H a = some (.lst (ps.map V.int)) ∧ H b = some (.lst (os.map V.int)) ∧ ps.length ≤ os.length ∧ os.length ≤ 1000 ∧
  OptAt H u (nx (padTo ps os.length) os) ∧ ∀ H', Kp [] H H' → Q (.bl true) H'
theorem rd_follows_ok (T : Txt K mg) (vs : List V) (H : Hp) (Q : VK) (E : XK) (h : sp_l_follows K vs H Q E) : rd_l_follows T sp_next_picks (sp_l_same K 1) { nx := fun _ H' => Q .non H', rt := Q } (start nm_l_follows vs) H := by
  obtain ⟨a, b, ps, os, u, rfl, ha, hb, hle, h1000, hu, k⟩ := h
  unfold rd_l_follows
  walk_at "go"
  refine w_listL ha fun c hc => ?_
  walk_at "go"
  refine w_listL (by walk_at "hp") fun d hd => ?_
  walk_at "go"
  have k0 : Kp [] H (upd (upd H c (.lst (ps.map V.int))) d (.lst (os.map V.int))) := by walk_at "kp"
  have c0 : upd (upd H c (.lst (ps.map V.int))) d (.lst (os.map V.int)) c = some (.lst (ps.map V.int)) := by walk_at "hp"
  have d0 : upd (upd H c (.lst (ps.map V.int))) d (.lst (os.map V.int)) d = some (.lst (os.map V.int)) := by walk_at "hp"
  generalize upd (upd H c (.lst (ps.map V.int))) d (.lst (os.map V.int)) = H0 at *
  refine ⟨c, d, ps, os, rfl, c0, d0, hle, h1000, fun v H1 k1 hv hfr => ?_⟩
  walk_at "go"
  have k01 := k0.trans k1
  refine ⟨v, u, _, [], [], rfl, hv.dt, (hu.keep k01).dt, encO_dep, ?_⟩
  walk_at "go"
  refine w_neD (Dt.of_ints (ps := []) (k1 _ _ (by simp) c0) (by simp)) (Dt.of_ints (ps := []) (k01 _ _ (by simp) ha) (by simp)) (ints_shaped _) ?_
  walk_at "go"
  refine w_neD (Dt.of_ints (ps := []) (k1 _ _ (by simp) d0) (by simp)) (Dt.of_ints (ps := []) (k01 _ _ (by simp) hb) (by simp)) (ints_shaped _) ?_
  walk_at "go"
  have fin : ∀ H2, Kp [] H0 H2 → ∀ v3 H3, Kp [] H2 H3 → OptAt H3 v3 (nx (padTo ps os.length) os) → sp_l_same K 1 [v3, u] H3 Q E0 := fun H2 k2 v3 H3 k3 hv3 => by
    have kk := (k0.trans k2).trans k3
    exact ⟨v3, u, _, [], [], rfl, hv3.dt, (hu.keep kk).dt, encO_dep, k _ kk⟩
  cases hn : nx (padTo ps os.length) os with
  | none =>
    rw [hn] at hv
    obtain rfl : v = .non := hv
    refine w_NF rfl ?_
    walk_at "go"
    refine ⟨c, d, ps, os, rfl, k1 _ _ (by simp) c0, k1 _ _ (by simp) d0, hle, h1000, fun v3 H3 k3 hv3 _ => ?_⟩
    walk_at "go"
    exact fin _ k1 v3 H3 k3 hv3
  | some l =>
    rw [hn] at hv
    obtain ⟨p, rfl, hp⟩ := hv
    have hp0 := hfr p rfl
    refine w_NT (fun z => by cases z) ?_
    walk_at "go"
    refine w_app hp ?_ ?_
    · have : l.length ≤ 1000 := by
        obtain ⟨i, x, e1, e2⟩ := nx_some hn
        have hi := (List.getElem?_eq_some_iff.mp e1).1
        rw [padTo_len hle] at hi
        rw [e2]; simp only [List.length_append, List.length_take, List.length_cons, List.length_nil]; omega
      simp only [List.length_map, sizeLine_eq]; omega
    walk_at "go"
    refine w_setL (k := 0) upd_same ?_ ?_
    · simp [ixN]
    walk_at "go"
    have k2 := Kp.loc (o := .lst ((l.map V.int ++ [V.int 1]).set 0 (V.int 5))) (Kp.loc (o := .lst (l.map V.int ++ [V.int 1])) k1 hp0) hp0
    refine ⟨c, d, ps, os, rfl, k2 _ _ (by simp) c0, k2 _ _ (by simp) d0, hle, h1000, fun v3 H3 k3 hv3 _ => ?_⟩
    walk_at "go"
    exact fin _ k2 v3 H3 k3 hv3
theorem ok_follows (T : Txt K mg) : FnOk P w K mg base CX0 4 T.f_l_follows T.d_l_follows ["_law_picks", "_law_options", "_law_due"] (sp_l_follows K) :=
  fn_l_follows (k := 3) T (ok_next_picks T) (by decide) (ok_same T 1) (by decide) (fun vs H Q E h => by obtain ⟨a, b, ps, os, u, rfl, _⟩ := h; rfl) (rd_follows_ok T)
end
section
variable {P : Program} {w : World} {K : PySem.W.Frag} {mg : Str → Option Value} {base : Heap}
def sp_l_loose : Sp := fun vs H Q _ => ∃ (p : Addr) (qs : List Addr), vs = [.ref p] ∧ Pool qs H p ∧
  ∀ r a b (ps os : List Int) H', Kp [p] H H' → Pool qs H' p → H' r = some (.lst [.ref a, .ref b]) → H' a = some (.lst (ps.map V.int)) → H' b = some (.lst (os.map V.int)) → ps.length ≤ os.length → os.length ≤ 8 → Q (.ref r) H'
theorem rd_loose_ok (T : Txt K mg) (vs : List V) (H : Hp) (Q : VK) (E : XK) (h : sp_l_loose vs H Q E) : rd_l_loose T sp_l_draw { nx := fun _ H' => Q .non H', rt := Q } (start nm_l_loose vs) H := by
  obtain ⟨p, qs, rfl, hP, k⟩ := h
  unfold rd_l_loose
  walk_at "go"
  intro o ho
  walk_at "go"
  intro q hq
  walk_at "go"
  have hPo := (hP.avoid ho).new (o := .lst []) ho
  have hPq := (hPo.avoid hq).new (o := .lst []) hq
  have noq : o ≠ q := fun z => by subst z; rw [upd_same] at hq; cases hq
  have hq0 : H q = none := (upd_back hq).1
  have nop : o ≠ p := hPq.ne (by simp)
  have nqp : q ≠ p := hPq.ne (by simp)
  refine ⟨p, 9, q :: o :: qs, rfl, hPq, by decide, by decide, fun n H1 n0 n9 k1 P1 => ?_⟩
  have kb : Kp [p] H H1 := Kp.trans (by walk_at "kp") k1
  have ho1 : H1 o = some (.lst []) := k1 _ _ (by simpa using nop) (by walk_at "hp")
  have hq1 : H1 q = some (.lst []) := k1 _ _ (by simpa using nqp) upd_same
  walk_at "go"
  refine loop_range (fun i σ H' => ∃ (v : Option V) (os : List Int), σ = [some (.ref p), some (.ref o), some (.ref q), v, none, none] ∧ Kp [p] H H' ∧ Pool (q :: o :: qs) H' p ∧ H' o = some (.lst (os.map V.int)) ∧ H' q = some (.lst []) ∧ os.length = i ∧ ∀ z ∈ os, 1 ≤ z ∧ z ≤ 1000000000)
    ⟨none, [], rfl, kb, P1, ho1, hq1, rfl, fun z hz => by simp at hz⟩ ?_ ?_
  · rintro i σ H2 hi ⟨v, os, rfl, k2, P2, ho2, hq2, hlen, hos⟩
    walk_at "go"
    intro t ht
    walk_at "go"
    refine ⟨p, 4, t :: q :: o :: qs, rfl, (P2.avoid ht).new ht, by decide, by decide, fun m H3 m0 m4 k3 P3 => ?_⟩
    have ntp : t ≠ p := P3.ne (by simp)
    refine w_pick [1, 3, 12, 10 ^ 9] (k3 _ _ (by simpa using ntp) upd_same) m0 (by simpa using m4) fun z hz => ?_
    have hz1 : 0 < z ∧ z ≤ 1000000000 := by simp at hz; omega
    walk_at "go"
    refine ⟨p, z, t :: q :: o :: qs, rfl, P3, hz1.1, by omega, fun m5 H5 m50 m51 k5 P5 => ?_⟩
    have kk : Kp [p] H2 H5 := (Kp.trans (by walk_at "kp") k3).trans k5
    have ho5 : H5 o = some (.lst (os.map V.int)) := kk _ _ (by simpa using nop) ho2
    have hq5 : H5 q = some (.lst []) := kk _ _ (by simpa using nqp) hq2
    walk_at "go"
    refine w_app ho5 ?_ ?_
    · simp only [List.length_map, sizeLine_eq]; omega
    have P6 : Pool (q :: o :: qs) (upd H5 o (.lst (os.map V.int ++ [.int (1 + m5)]))) p := P5.tail.keep (Kp.mut (by simp))
    refine ⟨_, os ++ [1 + m5], rfl, Kp.loc (k2.trans kk) ho, P6, ?_, upd_ne2 noq.symm hq5, by simp [hlen], ?_⟩
    · rw [upd_same, map_snoc]
    · intro y hy
      rcases List.mem_append.mp hy with hy | hy
      · exact hos y hy
      · simp at hy; subst hy; omega
  · rintro σ H2 ⟨v, os, rfl, k2, P2, ho2, hq2, hlen, hos⟩
    have hl8 : os.length ≤ 8 := by omega
    walk_at "go"
    refine w_seqL ho2 ?_
    refine loop_list (xs := os.map V.int) (fun i σ H' => ∃ (u v1 v2 : Option V) (ps : List Int), σ = [some (.ref p), some (.ref o), some (.ref q), u, v1, v2] ∧ Kp [p] H H' ∧ Pool (q :: o :: qs) H' p ∧ H' o = some (.lst (os.map V.int)) ∧ H' q = some (.lst (ps.map V.int)) ∧ ps.length = i)
      ⟨_, none, none, [], rfl, k2, P2, ho2, hq2, rfl⟩ (fun i σ H' _ ⟨_, _, _, _, _, _, _, h, _⟩ => h) ?_ ?_
    · rintro i y σ H3 hi ⟨u, v1, v2, ps, rfl, k3, P3, ho3, hq3, hlen3⟩
      rw [List.getElem?_map] at hi
      cases hz : os[i]? with
      | none => rw [hz] at hi; cases hi
      | some z =>
      rw [hz] at hi; cases hi
      have hzz := hos z (List.mem_of_getElem? hz)
      have hil : i < os.length := (List.getElem?_eq_some_iff.mp hz).1
      walk_at "go"
      refine ⟨p, 2, q :: o :: qs, rfl, P3, by decide, by decide, fun m H4 m0 m2 k4 P4 => ?_⟩
      have ho4 : H4 o = some (.lst (os.map V.int)) := k4 _ _ (by simpa using nop) ho3
      have hq4 : H4 q = some (.lst (ps.map V.int)) := k4 _ _ (by simpa using nqp) hq3
      have fin : ∀ (H5 : Hp) (n : Int), Kp [p] H4 H5 → Pool (q :: o :: qs) H5 p → H5 o = some (.lst (os.map V.int)) → H5 q = some (.lst (ps.map V.int)) → (ps.map V.int).length < sizeLine ∧ Kp [p] H (upd H5 q (.lst (ps.map V.int ++ [.int n]))) ∧ Pool (q :: o :: qs) (upd H5 q (.lst (ps.map V.int ++ [.int n]))) p ∧
          (upd H5 q (.lst (ps.map V.int ++ [.int n]))) o = some (.lst (os.map V.int)) ∧ (upd H5 q (.lst (ps.map V.int ++ [.int n]))) q = some (.lst ((ps ++ [n]).map V.int)) := fun H5 n k5 P5 ho5 hq5 => by
        refine ⟨?_, Kp.loc (k3.trans (k4.trans k5)) hq0, P5.keep (Kp.mut (by simp)), upd_ne2 noq ho5, ?_⟩
        · simp only [List.length_map, sizeLine_eq]; omega
        · rw [upd_same, map_snoc]
      walk_at "go"
      refine w_ite (fun c => ?_) (fun c => ?_)
      · walk_at "go"
        refine ⟨p, z, q :: o :: qs, rfl, P4, by omega, by omega, fun m5 H5 m50 m51 k5 P5 => ?_⟩
        have ho5 : H5 o = some (.lst (os.map V.int)) := k5 _ _ (by simpa using nop) ho4
        have hq5 : H5 q = some (.lst (ps.map V.int)) := k5 _ _ (by simpa using nqp) hq4
        obtain ⟨f1, f2, f3, f4, f5⟩ := fin H5 m5 k5 P5 ho5 hq5
        walk_at "go"
        refine w_app hq5 f1 ?_
        exact ⟨_, _, _, ps ++ [m5], rfl, f2, f3, f4, f5, by simp [hlen3]⟩
      · obtain ⟨f1, f2, f3, f4, f5⟩ := fin H4 (z - 1) .refl P4 ho4 hq4
        walk_at "go"
        refine w_app hq4 f1 ?_
        exact ⟨_, _, _, ps ++ [z - 1], rfl, f2, f3, f4, f5, by simp [hlen3]⟩
    · rintro σ H3 ⟨u, v1, v2, ps, rfl, k3, P3, ho3, hq3, hlen3⟩
      rw [List.length_map] at hlen3
      walk_at "go"
      refine ⟨p, _, q :: o :: qs, rfl, P3, by simp only [List.length_map]; omega, by simp only [List.length_map]; omega, fun m H4 m0 m2 k4 P4 => ?_⟩
      rw [List.length_map] at m2
      have ho4 : H4 o = some (.lst (os.map V.int)) := k4 _ _ (by simpa using nop) ho3
      have hq4 : H4 q = some (.lst (ps.map V.int)) := k4 _ _ (by simpa using nqp) hq3
      walk_at "go"
      refine w_slL hq4 fun s hs => ?_
      rw [cutV_upto _ (by simp only [List.length_map]; omega)]
      walk_at "go"
      intro r hr
      refine k r s o (ps.take ((((ps.map V.int).length : Nat) : Int) - m).toNat) os _ ?_ ?_ upd_same ?_ ?_ ?_ hl8
      · refine Kp.upd (Kp.upd (k3.trans k4) hs) hr
      · exact (P4.tail.tail.new hs).new hr
      · rw [List.map_take]; walk_at "hp"
      · walk_at "hp"
      · simp only [List.length_take]; omega
theorem ok_loose (T : Txt K mg) : FnOk P w K mg base CX0 3 T.f_l_loose T.d_l_loose ["_law_pool_here"] sp_l_loose :=
  fn_l_loose (k := 2) T (ok_draw T) (by decide) (fun vs H Q E h => by obtain ⟨p, qs, rfl, _⟩ := h; rfl) (rd_loose_ok T)
end
section
variable {P : Program} {w : World} {K : PySem.W.Frag} {mg : Str → Option Value} {base : Heap}
def encL (ps os : List Int) (a : List Int × List Int) : PyData := .list [.list ((ps ++ a.1).map PyData.int), .list ((os ++ a.2).map PyData.int)]
theorem encL_under (ps os : List Int) (c n : Int) (ls : List (List Int × List Int)) : ls.map (encL (ps ++ [c]) (os ++ [n])) = (under1 c n ls).map (encL ps os) := by
  unfold under1
  rw [List.map_map]
  refine List.map_congr_left fun a _ => ?_
  simp [encL, List.append_assoc]
/-- d more steps down at most -/
def sp_l_grow (K : PySem.W.Frag) (d : Nat) : Sp := fun vs H Q _ => ∃ (p a b lv : Addr) (qs : List Addr) (ps os : List Int) (xs : List V), vs = [.ref p, .ref a, .ref b, .ref lv] ∧ Pool (lv :: qs) H p ∧
  H a = some (.lst (ps.map V.int)) ∧ H b = some (.lst (os.map V.int)) ∧ a ∉ [p, lv] ∧ b ∉ [p, lv] ∧ ps.length = os.length ∧ 6 ≤ os.length + d ∧ os.length ≤ 6 ∧ H lv = some (.lst xs) ∧ xs.length < 61 ∧
  ∀ (H' : Hp) (ys : List V) (ls : List (List Int × List Int)), Kp [p, lv] H H' → Pool (lv :: qs) H' p → H' lv = some (.lst (xs ++ ys)) → DtA K [p, lv] H' ys (ls.map (encL ps os)) → Lvs ls (xs.length + ys.length < 61) → xs.length + ys.length ≤ 61 → (∀ a ∈ ls, os.length + a.2.length ≤ 6) → Q .non H'
theorem rd_grow_ok (T : Txt K mg) (d : Nat) (spR : Sp) (hR : ∀ e, d = e + 1 → ∀ vs H Q E, sp_l_grow K e vs H Q E → spR vs H Q E) (vs : List V) (H : Hp) (Q : VK) (E : XK) (h : sp_l_grow K d vs H Q E) :
    rd_l_grow T sp_l_draw spR { nx := fun _ H' => Q .non H', rt := Q } (start nm_l_grow vs) H := by
  obtain ⟨p, a, b, lv, qs, ps, os, xs, rfl, hP, ha, hb, na, nb, hl, hd, h6, hlv, h61, k⟩ := h
  have nlp : lv ≠ p := hP.ne (by simp)
  unfold rd_l_grow
  walk_at "go"
  intro t ht
  walk_at "go"
  refine ⟨p, 10, t :: lv :: qs, rfl, (hP.avoid ht).new ht, by decide, by decide, fun n H1 n0 n10 k1 P1 => ?_⟩
  have ntp : t ≠ p := P1.ne (by simp)
  refine w_pick [0, 0, 1, 2, 3, 4, 2, 3, 1, 12] (k1 _ _ (by simpa using ntp) upd_same) n0 (by simpa using n10) fun z hz => ?_
  have hz0 : 0 ≤ z ∧ z ≤ 12 := by simp at hz; omega
  have kk : Kp [p] H H1 := Kp.trans (by walk_at "kp") k1
  have ha1 : H1 a = some (.lst (ps.map V.int)) := kk _ _ (by simp at na; simpa using na.1) ha
  have hb1 : H1 b = some (.lst (os.map V.int)) := kk _ _ (by simp at nb; simpa using nb.1) hb
  have hlv1 : H1 lv = some (.lst xs) := kk _ _ (by simpa using nlp) hlv
  have kk2 : Kp [p, lv] H H1 := kk.more (by simp)
  replace P1 := P1.tail
  clear ht
  walk_at "go"
  have main : ∀ (opt : Int), 0 ≤ opt → opt ≤ 12 → (opt ≠ 0 → os.length < 6) → ∀ D' : Ends, D'.nx = (fun _ H' => Q .non H') →
      tIfS (tTest (tOp (rEqX K) (tVar 4) (tC (.int 0)))) (tDrop (tBM K "list" (rAppend) (tVar 3) (tCons (tLst (tCons (tVar 1) (tCons (tVar 2) tNil))) tNil))) tNext
        { D' with nx := tFor (iRng1 (tCons (tVar 4) tNil)) (gName 5) (tIfS (tTest (tOp rLtD (tCB (rLenD K) (tCons (tVar 3) tNil)) (tC (.int 61)))) (tDrop (tCall spR [] E0 (tCons (tVar 0) (tCons (tOp (rAddD K) (tVar 1) (tLst (tCons (tVar 5) tNil))) (tCons (tOp (rAddD K) (tVar 2) (tLst (tCons (tVar 4) tNil))) (tCons (tVar 3) tNil)))))) tNext) D' }
        [some (.ref p), some (.ref a), some (.ref b), some (.ref lv), some (.int opt), none] H1 := by
    intro opt o0 o12 o6 D' hD
    walk_at "go"
    refine w_ite (fun c => ?_) (fun c => ?_)
    · subst c
      walk_at "go"
      intro c hc
      walk_at "go"
      have ncl : c ≠ lv := fun z => by subst z; rw [hlv1] at hc; cases hc
      have ncp : c ≠ p := fun z => by subst z; obtain ⟨o, e⟩ := P1.some; rw [e] at hc; cases hc
      refine w_app (upd_keep hlv1 hc) (by rw [sizeLine_eq]; omega) ?_
      walk_at "go"
      refine loop_range (n := (0 : Int).toNat) (fun i σ H' => H' = upd (upd H1 c (.lst [.ref a, .ref b])) lv (.lst (xs ++ [.ref c]))) rfl (fun i σ H' hi => by simp at hi) ?_
      rintro σ H' rfl
      show D'.nx σ _
      rw [hD]
      refine k _ [.ref c] [([], [])] ?_ ?_ upd_same ?_ (Lvs.leaf.imp fun _ => trivial) (by simp; omega) ?_
      · exact (kk2.upd hc).trans (Kp.mut (by simp))
      · exact (P1.new hc).keep (Kp.mut (by simp))
      · refine .cons (.lstA (upd_ne2 ncl upd_same) (by simp [ncl, ncp]) ?_) .nil
        have kf : Kp [p, lv] H1 (upd (upd H1 c (.lst [.ref a, .ref b])) lv (.lst (xs ++ [.ref c]))) := (Kp.new hc).trans (Kp.mut (by simp))
        simp only [List.append_nil]
        exact .cons ((Dt.of_ints ha1 na).keep kf) (.cons ((Dt.of_ints hb1 nb).keep kf) .nil)
      · intro x hx; simp at hx; subst hx; simpa using h6
    · have hos6 := o6 c
      obtain ⟨e, rfl⟩ : ∃ e, d = e + 1 := ⟨d - 1, by omega⟩
      walk_at "go"
      refine loop_range (n := opt.toNat) (fun i σ H' => ∃ (v : Option V) (ys : List V) (ls : List (List Int × List Int)), σ = [some (.ref p), some (.ref a), some (.ref b), some (.ref lv), some (.int opt), v] ∧ Kp [p, lv] H H' ∧ Pool (lv :: qs) H' p ∧ H' lv = some (.lst (xs ++ ys)) ∧
          DtA K [p, lv] H' ys (ls.map (encL ps os)) ∧ xs.length + ys.length ≤ 61 ∧ (xs.length + ys.length < 61 → Kids opt i ls True) ∧ (¬ xs.length + ys.length < 61 → ∃ k', k' ≠ 0 ∧ Kids opt k' ls False) ∧ (∀ a ∈ ls, os.length + a.2.length ≤ 6))
        ⟨none, [], [], rfl, kk2, P1, by simpa using hlv1, .nil, by simp; omega, fun _ => Kids.nil _, fun z => absurd (by simpa using h61) z, fun x hx => by simp at hx⟩ ?_ ?_
      · rintro i σ H2 hi ⟨v, ys, ls, rfl, k2, P2, hl2, hd2, hc2, hk2, hf2, hm2⟩
        rw [Int.zero_add]
        walk_at "go"
        refine w_ite (fun c61 => ?_) (fun c61 => ?_)
        · have hlt : xs.length + ys.length < 61 := by simp at c61; omega
          have kids := hk2 hlt
          have ha2 : H2 a = some (.lst (ps.map V.int)) := k2 _ _ na ha
          have hb2 : H2 b = some (.lst (os.map V.int)) := k2 _ _ nb hb
          walk_at "go"
          intro s hs
          refine w_cat (by walk_at "hp") upd_same ?_ fun a' ha' => ?_
          · simp only [List.length_map, List.length_cons, List.length_nil, sizeLine_eq]; omega
          walk_at "go"
          intro s2 hs2
          refine w_cat (by walk_at "hp") upd_same ?_ fun b' hb' => ?_
          · simp only [List.length_map, List.length_cons, List.length_nil, sizeLine_eq]; omega
          rw [map_snoc, map_snoc] at *
          have P3 : Pool (lv :: qs) (upd (upd (upd (upd H2 s (.lst [.int i])) a' (.lst ((ps ++ [(i : Int)]).map V.int))) s2 (.lst [.int opt])) b' (.lst ((os ++ [opt]).map V.int))) p := (((P2.new hs).new ha').new hs2).new hb'
          have l3 : (upd (upd (upd (upd H2 s (.lst [.int i])) a' (.lst ((ps ++ [(i : Int)]).map V.int))) s2 (.lst [.int opt])) b' (.lst ((os ++ [opt]).map V.int))) lv = some (.lst (xs ++ ys)) := by walk_at "hp"
          have a3 : (upd (upd (upd (upd H2 s (.lst [.int i])) a' (.lst ((ps ++ [(i : Int)]).map V.int))) s2 (.lst [.int opt])) b' (.lst ((os ++ [opt]).map V.int))) a' = some (.lst ((ps ++ [(i : Int)]).map V.int)) := by walk_at "hp"
          have b3 : (upd (upd (upd (upd H2 s (.lst [.int i])) a' (.lst ((ps ++ [(i : Int)]).map V.int))) s2 (.lst [.int opt])) b' (.lst ((os ++ [opt]).map V.int))) b' = some (.lst ((os ++ [opt]).map V.int)) := by walk_at "hp"
          have k3 : Kp [p, lv] H2 (upd (upd (upd (upd H2 s (.lst [.int i])) a' (.lst ((ps ++ [(i : Int)]).map V.int))) s2 (.lst [.int opt])) b' (.lst ((os ++ [opt]).map V.int))) := by walk_at "kp"
          have frs : ∀ x, H2 x = none → x ∉ [p, lv] := fun x hx z => by
            simp at z
            rcases z with rfl | rfl
            · obtain ⟨o, e⟩ := P2.some; rw [e] at hx; cases hx
            · rw [hl2] at hx; cases hx
          have na' : a' ∉ [p, lv] := frs _ (Kp.free (ps := []) (by walk_at "kp") (by simp) ha')
          have nb' : b' ∉ [p, lv] := frs _ (Kp.free (ps := []) (by walk_at "kp") (by simp) hb')
          walk_at "go"
          generalize (upd (upd (upd (upd H2 s (.lst [.int i])) a' (.lst ((ps ++ [(i : Int)]).map V.int))) s2 (.lst [.int opt])) b' (.lst ((os ++ [opt]).map V.int))) = H3 at *
          refine hR e rfl _ _ _ _ ⟨p, a', b', lv, qs, ps ++ [(i : Int)], os ++ [opt], xs ++ ys, rfl, P3, a3, b3, na', nb', by simp [hl], by simp; omega, by simp; omega, l3, by simpa using hlt, fun H4 zs ms k4 P4 hl4 hd4 hL hc4 hm4 => ?_⟩
          rw [encL_under] at hd4
          rw [List.append_assoc] at hl4
          simp only [List.length_append, List.length_cons, List.length_nil] at hL hc4 hm4
          refine ⟨_, ys ++ zs, ls ++ under1 i opt ms, rfl, (k2.trans k3).trans k4, P4, hl4, ?_, by simp; omega, fun z => ?_, fun z => ?_, fun x hx => ?_⟩
          · rw [List.map_append]
            exact (hd2.keep (k3.trans k4)).append hd4
          · exact (kids.more (by omega) hL).weak fun _ => by simp at z; omega
          · exact ⟨i + 1, by omega, (kids.more (by omega) hL).weak fun h => h.elim⟩
          · rcases List.mem_append.mp hx with hx | hx
            · exact hm2 x hx
            · obtain ⟨y, hy, rfl⟩ := List.mem_map.mp hx
              have := hm4 y hy
              simp; omega
        · have hge : ¬ xs.length + ys.length < 61 := by simp at c61; omega
          walk_at "go"
          exact ⟨_, ys, ls, rfl, k2, P2, hl2, hd2, hc2, fun z => absurd z hge, hf2, hm2⟩
      · rintro σ H2 ⟨v, ys, ls, rfl, k2, P2, hl2, hd2, hc2, hk2, hf2, hm2⟩
        show D'.nx _ _
        rw [hD]
        by_cases c61 : xs.length + ys.length < 61
        · refine k _ ys ls k2 P2 hl2 hd2 ?_ hc2 hm2
          exact ((hk2 c61).done (fun _ => by omega) (by omega)).imp fun _ => trivial
        · obtain ⟨k', h1, h2⟩ := hf2 c61
          refine k _ ys ls k2 P2 hl2 hd2 ?_ hc2 hm2
          exact (h2.done (fun z => z.elim) h1).imp c61
  refine w_ite (fun c => ?_) (fun c => ?_)
  · exact main 0 (by decide) (by decide) (fun z => absurd rfl z) { nx := fun _ H' => Q .non H', rt := Q } rfl
  · exact main z hz0.1 hz0.2 (fun _ => by simp at c; omega) { nx := fun _ H' => Q .non H', rt := Q } rfl
theorem ok_grow (T : Txt K mg) : ∀ d, FnOk P w K mg base CX0 (d + 3) T.f_l_grow T.d_l_grow ["_law_pool_here", "_law_picks", "_law_options", "_law_leaves"] (sp_l_grow K d)
  | 0 => fn_l_grow (k := 2) T (ok_draw T) (by omega) (FnOk.never (k := 0)) (by omega) (fun vs H Q E h => by obtain ⟨p, a, b, lv, qs, ps, os, xs, rfl, _⟩ := h; rfl) (rd_grow_ok T 0 _ fun m e => by omega)
  | d + 1 => fn_l_grow (k := d + 3) T (ok_draw T) (by omega) (ok_grow T d) (by omega) (fun vs H Q E h => by obtain ⟨p, a, b, lv, qs, ps, os, xs, rfl, _⟩ := h; rfl) (rd_grow_ok T (d + 1) _ fun m e vs H Q E h => by
      obtain rfl : d = m := by omega
      exact h)
end
section
variable {P : Program} {w : World} {K : PySem.W.Frag} {mg : Str → Option Value} {base : Heap}
def sp_law (K : PySem.W.Frag) : Sp := fun vs H Q _ => ∃ (a : Addr) (ns : List Int), vs = [.ref a] ∧ SqL K H a (ns.map V.int) ∧ ns.length ≤ 63 ∧ ∀ H', Q (.bl true) H'
theorem encL_inv {ps : List Addr} {H : Hp} {v : V} {f o : List Int} (h : Dt K ps H v (encL [] [] (f, o))) : ∃ c fa oa, v = .ref c ∧ H c = some (.lst [.ref fa, .ref oa]) ∧ H fa = some (.lst (f.map V.int)) ∧ H oa = some (.lst (o.map V.int)) := by
  obtain ⟨c, xs, rfl, hc, _, hA⟩ := Dt.inv_lst h
  match xs, hA with
  | [], hA => have := hA.1; simp at this
  | [_], hA => have := hA.1; simp at this
  | x :: y :: z :: r, hA => have := hA.1; simp at this
  | [x, y], hA =>
    obtain ⟨fa, rfl, h1, _⟩ := Dt.int_list (hA.2 0 _ _ rfl rfl)
    obtain ⟨oa, rfl, h2, _⟩ := Dt.int_list (hA.2 1 _ _ rfl rfl)
    exact ⟨c, fa, oa, rfl, hc, h1, h2⟩
theorem pad_eq {nn f o : List Int} {z : Nat} (h : f = nn ++ List.replicate z 0) (hl : f.length = o.length) : padTo nn o.length = f ∧ nn.length ≤ o.length := by
  have e : f.length = nn.length + z := by rw [h]; simp
  have ez : o.length - nn.length = z := by omega
  exact ⟨by unfold padTo; rw [ez, h], by omega⟩
theorem pad_self {f o : List Int} (hl : f.length = o.length) : padTo f o.length = f := by unfold padTo; rw [hl]; simp
theorem rd_law_ok (T : Txt K mg) (vs : List V) (H : Hp) (Q : VK) (E : XK) (h : sp_law K vs H Q E) : rd_law T (sp_l_pool K) (sp_l_grow K 6) sp_l_parting (sp_l_follows K) sp_l_loose sp_l_raised { nx := fun _ H' => Q .non H', rt := Q } (start nm_law vs) H := by
  obtain ⟨a, ns, rfl, hS, h63, k⟩ := h
  unfold rd_law
  walk_at "go"
  refine ⟨a, ns, rfl, hS, h63, fun p H1 hp k1 P1 => ?_⟩
  walk_at "go"
  intro lv hlv
  walk_at "go"
  intro a1 ha1
  walk_at "go"
  intro b1 hb1
  walk_at "go"
  have Plv : Pool [lv] (upd H1 lv (.lst [])) p := (P1.avoid hlv).new hlv
  have nn1 : ∀ x, (upd H1 lv (.lst [])) x = none → x ∉ [p, lv] := fun x hx z => by
    simp at z
    rcases z with rfl | rfl
    · obtain ⟨o, e⟩ := Plv.some; rw [e] at hx; cases hx
    · rw [upd_same] at hx; cases hx
  refine ⟨p, a1, b1, lv, [], [], [], [], rfl, (Plv.new ha1).new hb1, by walk_at "hp", by walk_at "hp", nn1 _ ha1, nn1 _ (upd_back hb1).1, rfl, by decide, by decide, by walk_at "hp", by decide, fun H2 ys ls k2 P2 hl2 hd2 hL hc hm => ?_⟩
  simp only [List.length_nil, Nat.zero_add, List.nil_append] at hl2 hL hc hm
  have hyl : ys.length = ls.length := by have := hd2.1; simpa using this
  walk_at "go"
  intro nw hnw
  have P3 : Pool [lv] (upd H2 nw (.lst [])) p := P2.new hnw
  have hl3 : (upd H2 nw (.lst [])) lv = some (.lst ys) := by walk_at "hp"
  have hd3 : DtA K [p, lv] (upd H2 nw (.lst [])) ys (ls.map (encL [] [])) := hd2.keep (Kp.new hnw)
  have hn3 : (upd H2 nw (.lst [])) nw = some (.lst (([] : List Int).map V.int)) := upd_same
  generalize upd H2 nw (.lst []) = H3 at *
  walk_at "go"
  have hN : (if (ys.length : Int) < 60 then (ys.length : Int) else 60) = ((min 60 ys.length : Nat) : Int) := by split <;> omega
  rw [hN]
  rw [Int.toNat_natCast]
  refine loop_range (n := min 60 ys.length) (fun i σ H' => ∃ (nv : V) (v4 v5 v6 v7 v8 v9 : Option V), σ = [some (.ref a), some (.ref p), some (.ref lv), some nv, v4, v5, v6, v7, v8, v9] ∧ Kp [] H3 H' ∧
      (∀ f o, ls[i]? = some (f, o) → ∃ c nn z, nv = .ref c ∧ H' c = some (.lst (nn.map V.int)) ∧ f = nn ++ List.replicate z 0))
    ⟨.ref nw, none, none, none, none, none, none, rfl, .refl, fun f o e => ?_⟩ ?_ ?_
  · obtain ⟨z, hz⟩ := hL.first _ e
    exact ⟨nw, [], z, rfl, hn3, by simpa using hz⟩
  · rintro i σ H4 hi ⟨nv, v4, v5, v6, v7, v8, v9, rfl, k4, hnow⟩
    rw [Int.zero_add]
    have hil : i < ls.length := by omega
    obtain ⟨fo, hfo⟩ : ∃ fo, ls[i]? = some fo := ⟨ls[i], by simp [hil]⟩
    obtain ⟨f, o⟩ := fo
    have hlen : f.length = o.length := hL.len _ (List.mem_of_getElem? hfo)
    have ho6 : o.length ≤ 6 := by have := hm _ (List.mem_of_getElem? hfo); simpa using this
    obtain ⟨c, nn, z, rfl, hcn, hpad⟩ := hnow f o hfo
    obtain ⟨hp1, hp2⟩ := pad_eq hpad hlen
    have hd4 : DtA K [p, lv] H4 ys (ls.map (encL [] [])) := hd3.keep k4.cons.cons
    have hl4 : H4 lv = some (.lst ys) := k4 _ _ (by simp) hl3
    obtain ⟨y, hy1, hy2⟩ := hd4.get (i := i) (d := encL [] [] (f, o)) (by rw [List.getElem?_map, hfo]; rfl)
    obtain ⟨cc, fa, oa, rfl, hcc, hfa, hoa⟩ := encL_inv hy2
    walk_at "go"
    refine w_ixL hl4 (atI_nat hy1) ?_
    walk_at "go"
    refine w_unpL hcc rfl ?_
    walk_at "go"
    refine w_ite (fun c1 => ?_) (fun c1 => ?_)
    · have hi1 : i + 1 < ls.length := by omega
      obtain ⟨go, hgo⟩ : ∃ go, ls[i + 1]? = some go := ⟨ls[i + 1], by simp [hi1]⟩
      obtain ⟨g, o2⟩ := go
      obtain ⟨d, z2, hd, hg⟩ := hL.link i _ _ hfo hgo
      dsimp only at hd hg
      obtain ⟨kx, x, hx1, hx2⟩ := nx_some hd
      obtain ⟨y', hy1', hy2'⟩ := hd4.get (i := i + 1) (d := encL [] [] (g, o2)) (by rw [List.getElem?_map, hgo]; rfl)
      obtain ⟨cc', ga, oa', rfl, hcc', hga, hoa'⟩ := encL_inv hy2'
      walk_at "go"
      refine w_ixL hl4 (atI_nat (j := i + 1) hy1') ?_
      walk_at "go"
      have hkl : kx < f.length := (List.getElem?_eq_some_iff.mp hx1).1
      have hlt : (f.take kx).length = kx := by rw [List.length_take]; omega
      have hg' : g = f.take kx ++ ([x + 1] ++ List.replicate z2 0) := by rw [hg, hx2, List.append_assoc]
      have hgk : g[kx]? = some (x + 1) := by rw [hg', List.getElem?_append_right (by omega), hlt]; simp
      have htk : f.take kx = g.take kx := by
        have q := List.take_left (l₁ := f.take kx) (l₂ := [x + 1] ++ List.replicate z2 0)
        rw [hlt] at q
        rw [hg', q]
      have htk1 : g.take (kx + 1) = d := by rw [take_succ' hgk, ← htk, hx2]
      refine ⟨fa, ga, f, g, kx, x, x + 1, rfl, hfa, hga, hx1, hgk, by omega, htk, ?_⟩
      walk_at "go"
      refine w_slL hga fun du hdu => ?_
      have ecut : cutV (g.map V.int) none (some ((kx : Int) + 1)) = d.map V.int := by
        have := cutV_to (g.map V.int) (kx + 1)
        rw [← List.map_take, htk1] at this
        exact_mod_cast this
      rw [ecut]
      have k5 : Kp [] H4 (upd H4 du (.lst (d.map V.int))) := Kp.new hdu
      have hdue : OptAt (upd H4 du (.lst (d.map V.int))) (.ref du) (nx f o) := by rw [hd]; exact ⟨du, rfl, upd_same⟩
      walk_at "go"
      refine ⟨c, oa, nn, o, _, rfl, k5 _ _ (by simp) hcn, k5 _ _ (by simp) hoa, hp2, by omega, by rw [hp1]; exact hdue, fun H6 k6 => ?_⟩
      walk_at "go"
      have k56 := k5.trans k6
      refine ⟨fa, oa, f, o, _, rfl, k56 _ _ (by simp) hfa, k56 _ _ (by simp) hoa, by omega, by omega, by rw [pad_self hlen]; exact hdue.keep k6, fun H7 k7 => ?_⟩
      walk_at "go"
      refine ⟨.ref du, _, _, _, _, _, _, rfl, (k4.trans k56).trans k7, fun f2 o2' e2 => ?_⟩
      rw [hgo] at e2
      cases e2
      exact ⟨du, d, z2, rfl, (k6.trans k7) _ _ (by simp) upd_same, hg⟩
    · have hlast : i + 1 = ls.length := by omega
      have hll : ls.length - 1 = i := by omega
      have hdn : nx f o = none := hL.last (by omega) (f, o) (by rw [List.getLast?_eq_getElem?, hll]; exact hfo)
      walk_at "go"
      refine ⟨c, oa, nn, o, _, rfl, hcn, hoa, hp2, by omega, by rw [hp1, hdn]; rfl, fun H6 k6 => ?_⟩
      walk_at "go"
      refine ⟨fa, oa, f, o, _, rfl, k6 _ _ (by simp) hfa, k6 _ _ (by simp) hoa, by omega, by omega, by rw [pad_self hlen, hdn]; rfl, fun H7 k7 => ?_⟩
      walk_at "go"
      refine ⟨.non, _, _, _, _, _, _, rfl, (k4.trans k6).trans k7, fun f2 o2' e2 => ?_⟩
      rw [hlast] at e2
      simp at e2
  · rintro σ H4 ⟨nv, v4, v5, v6, v7, v8, v9, rfl, k4, _⟩
    have P4 : Pool [] H4 p := P3.tail.keep k4
    walk_at "go"
    refine loop_range (n := (3 : Int).toNat) (fun i σ H' => ∃ (v3 v4 v5 v6 v7 v8 v9 : Option V), σ = [some (.ref a), some (.ref p), some (.ref lv), v3, v4, v5, v6, v7, v8, v9] ∧ Pool [] H' p) ⟨_, _, _, _, _, _, _, rfl, P4⟩ ?_ ?_
    · rintro i σ H5 hi ⟨v3, v4, v5, v6, v7, v8, v9, rfl, P5⟩
      walk_at "go"
      refine ⟨p, [], rfl, P5, fun r x y ps os H6 k6 P6 hr hx hy hle h8 => ?_⟩
      refine w_unpL hr rfl ?_
      walk_at "go"
      refine ⟨x, y, ps, os, rfl, hx, hy, hle, by omega, fun v H7 k7 hv => ?_⟩
      walk_at "go"
      refine ⟨x, y, ps, os, v, rfl, k7 _ _ (by simp) hx, k7 _ _ (by simp) hy, hle, by omega, hv, fun H8 k8 => ?_⟩
      walk_at "go"
      exact ⟨_, _, _, _, _, _, _, rfl, (P6.keep k7).keep k8⟩
    · rintro σ H5 ⟨v3, v4, v5, v6, v7, v8, v9, rfl, P5⟩
      walk_at "go"
      exact k _
theorem ok_law (T : Txt K mg) : FnOk P w K mg base CX0 20 T.f_law T.d_law ["_law_script"] (sp_law K) :=
  fn_law (k := 19) T (ok_pool T) (by decide) (ok_grow T 6) (by decide) (ok_parting T) (by decide) (ok_follows T) (by decide) (ok_loose T) (by decide) (ok_raised T) (by decide) (fun vs H Q E h => by obtain ⟨a, ns, rfl, _⟩ := h; rfl) (rd_law_ok T)
end
end Q

namespace Q
open PySem L2
theorem all_mk {l : PySem.W.OpenLaw} {w : World} {K : PySem.W.Frag} {h : Heap} {mg : Str → Option Value} {fa : Addr} (X : K.In h) (G : h.Ns mainGlobals mg) (hfa : mg "law" = some (.ref fa))
    {f_l_pool : Addr} {od_l_pool an_l_pool : Option Addr} {sl_l_pool : Array (Option Value)} {oc_l_pool kV_l_pool dc_l_pool pm_l_pool cd_l_pool ct_l_pool : Value}
    {f_l_mixed : Addr} {od_l_mixed an_l_mixed : Option Addr} {sl_l_mixed : Array (Option Value)} {oc_l_mixed kV_l_mixed dc_l_mixed pm_l_mixed cd_l_mixed ct_l_mixed : Value}
    {f_l_draw : Addr} {od_l_draw an_l_draw : Option Addr} {sl_l_draw : Array (Option Value)} {oc_l_draw kV_l_draw dc_l_draw pm_l_draw cd_l_draw ct_l_draw : Value}
    {f_l_grow : Addr} {od_l_grow an_l_grow : Option Addr} {sl_l_grow : Array (Option Value)} {oc_l_grow kV_l_grow dc_l_grow pm_l_grow cd_l_grow ct_l_grow : Value}
    {f_l_parting : Addr} {od_l_parting an_l_parting : Option Addr} {sl_l_parting : Array (Option Value)} {oc_l_parting kV_l_parting dc_l_parting pm_l_parting cd_l_parting ct_l_parting : Value}
    {f_next_picks : Addr} {od_next_picks an_next_picks : Option Addr} {sl_next_picks : Array (Option Value)} {oc_next_picks kV_next_picks dc_next_picks pm_next_picks cd_next_picks ct_next_picks : Value}
    {f_l_is_int : Addr} {od_l_is_int an_l_is_int : Option Addr} {sl_l_is_int : Array (Option Value)} {oc_l_is_int kV_l_is_int dc_l_is_int pm_l_is_int cd_l_is_int ct_l_is_int : Value}
    {f_l_same : Addr} {od_l_same an_l_same : Option Addr} {sl_l_same : Array (Option Value)} {oc_l_same kV_l_same dc_l_same pm_l_same cd_l_same ct_l_same : Value}
    {f_l_follows : Addr} {od_l_follows an_l_follows : Option Addr} {sl_l_follows : Array (Option Value)} {oc_l_follows kV_l_follows dc_l_follows pm_l_follows cd_l_follows ct_l_follows : Value}
    {f_l_loose : Addr} {od_l_loose an_l_loose : Option Addr} {sl_l_loose : Array (Option Value)} {oc_l_loose kV_l_loose dc_l_loose pm_l_loose cd_l_loose ct_l_loose : Value}
    {f_l_raised : Addr} {od_l_raised an_l_raised : Option Addr} {sl_l_raised : Array (Option Value)} {oc_l_raised kV_l_raised dc_l_raised pm_l_raised cd_l_raised ct_l_raised : Value}
    {f_law : Addr} {od_law an_law : Option Addr} {sl_law : Array (Option Value)} {oc_law kV_law dc_law pm_law cd_law ct_law : Value}
    (a_l_pool : PySem.W.nsIn K mainGlobals "_law_pool" = some (some (.ref f_l_pool))) (l_l_pool : K.lookup f_l_pool = some ⟨oc_l_pool, od_l_pool, .func (PySem.W.fnOf "_law_pool" "_law_pool" (defArgs s_l_pool) (defBody s_l_pool) (defScope s_l_pool) .none kV_l_pool dc_l_pool pm_l_pool an_l_pool cd_l_pool ct_l_pool), sl_l_pool⟩) (c_l_pool : PySem.W.codeIn K cd_l_pool "_law_pool" = true) (k_l_pool : PySem.W.keepIn K (.ref f_l_pool) = true)
    (a_l_mixed : PySem.W.nsIn K mainGlobals "_law_mixed" = some (some (.ref f_l_mixed))) (l_l_mixed : K.lookup f_l_mixed = some ⟨oc_l_mixed, od_l_mixed, .func (PySem.W.fnOf "_law_mixed" "_law_mixed" (defArgs s_l_mixed) (defBody s_l_mixed) (defScope s_l_mixed) .none kV_l_mixed dc_l_mixed pm_l_mixed an_l_mixed cd_l_mixed ct_l_mixed), sl_l_mixed⟩) (c_l_mixed : PySem.W.codeIn K cd_l_mixed "_law_mixed" = true) (k_l_mixed : PySem.W.keepIn K (.ref f_l_mixed) = true)
    (a_l_draw : PySem.W.nsIn K mainGlobals "_law_draw" = some (some (.ref f_l_draw))) (l_l_draw : K.lookup f_l_draw = some ⟨oc_l_draw, od_l_draw, .func (PySem.W.fnOf "_law_draw" "_law_draw" (defArgs s_l_draw) (defBody s_l_draw) (defScope s_l_draw) .none kV_l_draw dc_l_draw pm_l_draw an_l_draw cd_l_draw ct_l_draw), sl_l_draw⟩) (c_l_draw : PySem.W.codeIn K cd_l_draw "_law_draw" = true) (k_l_draw : PySem.W.keepIn K (.ref f_l_draw) = true)
    (a_l_grow : PySem.W.nsIn K mainGlobals "_law_grow" = some (some (.ref f_l_grow))) (l_l_grow : K.lookup f_l_grow = some ⟨oc_l_grow, od_l_grow, .func (PySem.W.fnOf "_law_grow" "_law_grow" (defArgs s_l_grow) (defBody s_l_grow) (defScope s_l_grow) .none kV_l_grow dc_l_grow pm_l_grow an_l_grow cd_l_grow ct_l_grow), sl_l_grow⟩) (c_l_grow : PySem.W.codeIn K cd_l_grow "_law_grow" = true) (k_l_grow : PySem.W.keepIn K (.ref f_l_grow) = true)
    (a_l_parting : PySem.W.nsIn K mainGlobals "_law_parting" = some (some (.ref f_l_parting))) (l_l_parting : K.lookup f_l_parting = some ⟨oc_l_parting, od_l_parting, .func (PySem.W.fnOf "_law_parting" "_law_parting" (defArgs s_l_parting) (defBody s_l_parting) (defScope s_l_parting) .none kV_l_parting dc_l_parting pm_l_parting an_l_parting cd_l_parting ct_l_parting), sl_l_parting⟩) (c_l_parting : PySem.W.codeIn K cd_l_parting "_law_parting" = true) (k_l_parting : PySem.W.keepIn K (.ref f_l_parting) = true)
    (a_next_picks : PySem.W.nsIn K mainGlobals "next_picks" = some (some (.ref f_next_picks))) (l_next_picks : K.lookup f_next_picks = some ⟨oc_next_picks, od_next_picks, .func (PySem.W.fnOf "next_picks" "next_picks" (defArgs s_next_picks) (defBody s_next_picks) (defScope s_next_picks) .none kV_next_picks dc_next_picks pm_next_picks an_next_picks cd_next_picks ct_next_picks), sl_next_picks⟩) (c_next_picks : PySem.W.codeIn K cd_next_picks "next_picks" = true) (k_next_picks : PySem.W.keepIn K (.ref f_next_picks) = true)
    (a_l_is_int : PySem.W.nsIn K mainGlobals "_law_is_int" = some (some (.ref f_l_is_int))) (l_l_is_int : K.lookup f_l_is_int = some ⟨oc_l_is_int, od_l_is_int, .func (PySem.W.fnOf "_law_is_int" "_law_is_int" (defArgs s_l_is_int) (defBody s_l_is_int) (defScope s_l_is_int) .none kV_l_is_int dc_l_is_int pm_l_is_int an_l_is_int cd_l_is_int ct_l_is_int), sl_l_is_int⟩) (c_l_is_int : PySem.W.codeIn K cd_l_is_int "_law_is_int" = true) (k_l_is_int : PySem.W.keepIn K (.ref f_l_is_int) = true)
    (a_l_same : PySem.W.nsIn K mainGlobals "_law_same" = some (some (.ref f_l_same))) (l_l_same : K.lookup f_l_same = some ⟨oc_l_same, od_l_same, .func (PySem.W.fnOf "_law_same" "_law_same" (defArgs s_l_same) (defBody s_l_same) (defScope s_l_same) .none kV_l_same dc_l_same pm_l_same an_l_same cd_l_same ct_l_same), sl_l_same⟩) (c_l_same : PySem.W.codeIn K cd_l_same "_law_same" = true) (k_l_same : PySem.W.keepIn K (.ref f_l_same) = true)
    (a_l_follows : PySem.W.nsIn K mainGlobals "_law_follows" = some (some (.ref f_l_follows))) (l_l_follows : K.lookup f_l_follows = some ⟨oc_l_follows, od_l_follows, .func (PySem.W.fnOf "_law_follows" "_law_follows" (defArgs s_l_follows) (defBody s_l_follows) (defScope s_l_follows) .none kV_l_follows dc_l_follows pm_l_follows an_l_follows cd_l_follows ct_l_follows), sl_l_follows⟩) (c_l_follows : PySem.W.codeIn K cd_l_follows "_law_follows" = true) (k_l_follows : PySem.W.keepIn K (.ref f_l_follows) = true)
    (a_l_loose : PySem.W.nsIn K mainGlobals "_law_loose" = some (some (.ref f_l_loose))) (l_l_loose : K.lookup f_l_loose = some ⟨oc_l_loose, od_l_loose, .func (PySem.W.fnOf "_law_loose" "_law_loose" (defArgs s_l_loose) (defBody s_l_loose) (defScope s_l_loose) .none kV_l_loose dc_l_loose pm_l_loose an_l_loose cd_l_loose ct_l_loose), sl_l_loose⟩) (c_l_loose : PySem.W.codeIn K cd_l_loose "_law_loose" = true) (k_l_loose : PySem.W.keepIn K (.ref f_l_loose) = true)
    (a_l_raised : PySem.W.nsIn K mainGlobals "_law_raised" = some (some (.ref f_l_raised))) (l_l_raised : K.lookup f_l_raised = some ⟨oc_l_raised, od_l_raised, .func (PySem.W.fnOf "_law_raised" "_law_raised" (defArgs s_l_raised) (defBody s_l_raised) (defScope s_l_raised) .none kV_l_raised dc_l_raised pm_l_raised an_l_raised cd_l_raised ct_l_raised), sl_l_raised⟩) (c_l_raised : PySem.W.codeIn K cd_l_raised "_law_raised" = true) (k_l_raised : PySem.W.keepIn K (.ref f_l_raised) = true)
    (a_law : PySem.W.nsIn K mainGlobals "law" = some (some (.ref f_law))) (l_law : K.lookup f_law = some ⟨oc_law, od_law, .func (PySem.W.fnOf "law" "law" (defArgs s_law) (defBody s_law) (defScope s_law) .none kV_law dc_law pm_law an_law cd_law ct_law), sl_law⟩) (c_law : PySem.W.codeIn K cd_law "law" = true) (k_law : PySem.W.keepIn K (.ref f_law) = true)
    (z_range : PySem.W.nsIn K mainGlobals "range" = some none)
    (z_min : PySem.W.nsIn K mainGlobals "min" = some none)
    (z_len : PySem.W.nsIn K mainGlobals "len" = some none)
    (z_list : PySem.W.nsIn K mainGlobals "list" = some none)
    (z_int : PySem.W.nsIn K mainGlobals "int" = some none)
    (z_reversed : PySem.W.nsIn K mainGlobals "reversed" = some none)
    (z_isinstance : PySem.W.nsIn K mainGlobals "isinstance" = some none)
    (z_bool : PySem.W.nsIn K mainGlobals "bool" = some none)
    (z_str : PySem.W.nsIn K mainGlobals "str" = some none)
    (z_tuple : PySem.W.nsIn K mainGlobals "tuple" = some none) :
    ∃ fd : FuncData, (∀ (s : Shared) (v : Value), BindsTo s fd ⟨[v], []⟩ [("_law_script", v)]) ∧ ∀ base : Heap, K.In base → base.Ns mainGlobals mg → FnOk l.prog w K mg base CX0 20 fa fd ["_law_script"] (sp_law K) := by
  have e := hfa.symm.trans (PySem.W.mg_of X G a_law)
  cases e
  have F_l_pool := fun_mk (st := s_l_pool) l_l_pool c_l_pool k_l_pool
  have b_l_pool := F_l_pool.binds (ps := ["_law_script"]) fun _ _ _ _ _ _ us hl => match us, hl with | [_], _ => rfl
  have F_l_mixed := fun_mk (st := s_l_mixed) l_l_mixed c_l_mixed k_l_mixed
  have b_l_mixed := F_l_mixed.binds (ps := ["_law_cell", "_law_turn", "_law_limit"]) fun _ _ _ _ _ _ us hl => match us, hl with | [_, _, _], _ => rfl
  have F_l_draw := fun_mk (st := s_l_draw) l_l_draw c_l_draw k_l_draw
  have b_l_draw := F_l_draw.binds (ps := ["_law_pool_here", "_law_limit"]) fun _ _ _ _ _ _ us hl => match us, hl with | [_, _], _ => rfl
  have F_l_grow := fun_mk (st := s_l_grow) l_l_grow c_l_grow k_l_grow
  have b_l_grow := F_l_grow.binds (ps := ["_law_pool_here", "_law_picks", "_law_options", "_law_leaves"]) fun _ _ _ _ _ _ us hl => match us, hl with | [_, _, _, _], _ => rfl
  have F_l_parting := fun_mk (st := s_l_parting) l_l_parting c_l_parting k_l_parting
  have b_l_parting := F_l_parting.binds (ps := ["_law_one", "_law_other"]) fun _ _ _ _ _ _ us hl => match us, hl with | [_, _], _ => rfl
  have F_next_picks := fun_mk (st := s_next_picks) l_next_picks c_next_picks k_next_picks
  have b_next_picks := F_next_picks.binds (ps := ["picks", "options"]) fun _ _ _ _ _ _ us hl => match us, hl with | [_, _], _ => rfl
  have F_l_is_int := fun_mk (st := s_l_is_int) l_l_is_int c_l_is_int k_l_is_int
  have b_l_is_int := F_l_is_int.binds (ps := ["_law_thing"]) fun _ _ _ _ _ _ us hl => match us, hl with | [_], _ => rfl
  have F_l_same := fun_mk (st := s_l_same) l_l_same c_l_same k_l_same
  have b_l_same := F_l_same.binds (ps := ["_law_mine", "_law_due"]) fun _ _ _ _ _ _ us hl => match us, hl with | [_, _], _ => rfl
  have F_l_follows := fun_mk (st := s_l_follows) l_l_follows c_l_follows k_l_follows
  have b_l_follows := F_l_follows.binds (ps := ["_law_picks", "_law_options", "_law_due"]) fun _ _ _ _ _ _ us hl => match us, hl with | [_, _, _], _ => rfl
  have F_l_loose := fun_mk (st := s_l_loose) l_l_loose c_l_loose k_l_loose
  have b_l_loose := F_l_loose.binds (ps := ["_law_pool_here"]) fun _ _ _ _ _ _ us hl => match us, hl with | [_], _ => rfl
  have F_l_raised := fun_mk (st := s_l_raised) l_l_raised c_l_raised k_l_raised
  have b_l_raised := F_l_raised.binds (ps := ["_law_picks", "_law_options"]) fun _ _ _ _ _ _ us hl => match us, hl with | [_, _], _ => rfl
  have F_law := fun_mk (st := s_law) l_law c_law k_law
  have b_law := F_law.binds (ps := ["_law_script"]) fun _ _ _ _ _ _ us hl => match us, hl with | [_], _ => rfl
  let T : Txt K mg := { f_l_pool := f_l_pool, d_l_pool := _, F_l_pool := F_l_pool, g_l_pool := PySem.W.mg_of X G a_l_pool, b_l_pool := b_l_pool, f_l_mixed := f_l_mixed, d_l_mixed := _, F_l_mixed := F_l_mixed, g_l_mixed := PySem.W.mg_of X G a_l_mixed, b_l_mixed := b_l_mixed, f_l_draw := f_l_draw, d_l_draw := _, F_l_draw := F_l_draw, g_l_draw := PySem.W.mg_of X G a_l_draw, b_l_draw := b_l_draw, f_l_grow := f_l_grow, d_l_grow := _, F_l_grow := F_l_grow, g_l_grow := PySem.W.mg_of X G a_l_grow, b_l_grow := b_l_grow, f_l_parting := f_l_parting, d_l_parting := _, F_l_parting := F_l_parting, g_l_parting := PySem.W.mg_of X G a_l_parting, b_l_parting := b_l_parting, f_next_picks := f_next_picks, d_next_picks := _, F_next_picks := F_next_picks, g_next_picks := PySem.W.mg_of X G a_next_picks, b_next_picks := b_next_picks, f_l_is_int := f_l_is_int, d_l_is_int := _, F_l_is_int := F_l_is_int, g_l_is_int := PySem.W.mg_of X G a_l_is_int, b_l_is_int := b_l_is_int, f_l_same := f_l_same, d_l_same := _, F_l_same := F_l_same, g_l_same := PySem.W.mg_of X G a_l_same, b_l_same := b_l_same, f_l_follows := f_l_follows, d_l_follows := _, F_l_follows := F_l_follows, g_l_follows := PySem.W.mg_of X G a_l_follows, b_l_follows := b_l_follows, f_l_loose := f_l_loose, d_l_loose := _, F_l_loose := F_l_loose, g_l_loose := PySem.W.mg_of X G a_l_loose, b_l_loose := b_l_loose, f_l_raised := f_l_raised, d_l_raised := _, F_l_raised := F_l_raised, g_l_raised := PySem.W.mg_of X G a_l_raised, b_l_raised := b_l_raised, f_law := fa, d_law := _, F_law := F_law, g_law := PySem.W.mg_of X G a_law, b_law := b_law, b_range := PySem.W.mg_none_of X G z_range, b_min := PySem.W.mg_none_of X G z_min, b_len := PySem.W.mg_none_of X G z_len, b_list := PySem.W.mg_none_of X G z_list, b_int := PySem.W.mg_none_of X G z_int, b_reversed := PySem.W.mg_none_of X G z_reversed, b_isinstance := PySem.W.mg_none_of X G z_isinstance, b_bool := PySem.W.mg_none_of X G z_bool, b_str := PySem.W.mg_none_of X G z_str, b_tuple := PySem.W.mg_none_of X G z_tuple }
  exact ⟨T.d_law, fun s v => .of_eq rfl, fun base _ _ => ok_law T⟩
theorem walk {l : PySem.W.OpenLaw} {q : Program} {loose : List Str} {XP : (Str → Option Value) → Heap → Prop} {YP : World → Heap → Prop} {d : DefRec} {K : Params → PySem.W.Frag} (hn : l.most = some 63) (hdf : d.params.defaults = [])
    (hY : ∀ (w : World) (h : Heap), YP w h → (K w.params).In h)
    (F : ∀ (w : World) (mg : Str → Option Value) (fa : Addr) (h : Heap), (K w.params).In h → h.Ns mainGlobals mg → mg d.name = some (.ref fa) →
      ∃ fd : FuncData, (∀ (s : Shared) (u : Value), BindsTo s fd ⟨[u], []⟩ [("_law_script", u)]) ∧ ∀ base : Heap, (K w.params).In base → base.Ns mainGlobals mg → FnOk l.prog w (K w.params) mg base CX0 20 fa fd ["_law_script"] (sp_law (K w.params))) :
    PySem.W.WalkO q loose XP YP l.row.toRowW d [] (fun f vs => PySem.call f vs) :=
  L2.walk_of (n := 63) (k := 20) (x := "_law_script") (CX := fun _ => CX0) (sp := fun w => sp_law (K w.params)) hn (by decide) hdf ⟨rfl, by decide, by decide⟩ hY F (fun _ _ a ns hl _ hS => ⟨a, ns, rfl, hS, hl, fun _ => rfl⟩) fun _ _ _ _ _ z => z
end Q
open PySem PySem.W PyProof.Rows
set_option maxRecDepth 100000 in
set_option maxHeartbeats 0 in
theorem PySem.Challenge.cw_quickways_k25_whole_next_picks_go_throug_holds : PySem.Challenge.rw_quickways_k25_whole_next_picks_go_throug.Holds := by
  w_on; o_law; k_head; (case hw => w_witness2)
  k_fill
  refine Q.walk (l := PySem.Challenge.rw_quickways_k25_whole_next_picks_go_throug) rfl rfl (fun w h Y => PySem.W.kIn_of Y) ?F
  case F =>
    intro w mg fa h KX G hmg
    refine' Q.all_mk KX G hmg ?a_l_pool ?l_l_pool ?c_l_pool ?k_l_pool ?a_l_mixed ?l_l_mixed ?c_l_mixed ?k_l_mixed ?a_l_draw ?l_l_draw ?c_l_draw ?k_l_draw ?a_l_grow ?l_l_grow ?c_l_grow ?k_l_grow ?a_l_parting ?l_l_parting ?c_l_parting ?k_l_parting ?a_next_picks ?l_next_picks ?c_next_picks ?k_next_picks ?a_l_is_int ?l_l_is_int ?c_l_is_int ?k_l_is_int ?a_l_same ?l_l_same ?c_l_same ?k_l_same ?a_l_follows ?l_l_follows ?c_l_follows ?k_l_follows ?a_l_loose ?l_l_loose ?c_l_loose ?k_l_loose ?a_l_raised ?l_l_raised ?c_l_raised ?k_l_raised ?a_law ?l_law ?c_law ?k_law ?z_range ?z_min ?z_len ?z_list ?z_int ?z_reversed ?z_isinstance ?z_bool ?z_str ?z_tuple
    (case a_l_pool => k_is)
    (case l_l_pool => k_is)
    (case c_l_pool => k_is)
    (case k_l_pool => k_is)
    (case a_l_mixed => k_is)
    (case l_l_mixed => k_is)
    (case c_l_mixed => k_is)
    (case k_l_mixed => k_is)
    (case a_l_draw => k_is)
    (case l_l_draw => k_is)
    (case c_l_draw => k_is)
    (case k_l_draw => k_is)
    (case a_l_grow => k_is)
    (case l_l_grow => k_is)
    (case c_l_grow => k_is)
    (case k_l_grow => k_is)
    (case a_l_parting => k_is)
    (case l_l_parting => k_is)
    (case c_l_parting => k_is)
    (case k_l_parting => k_is)
    (case a_next_picks => k_is)
    (case l_next_picks => k_is)
    (case c_next_picks => k_is)
    (case k_next_picks => k_is)
    (case a_l_is_int => k_is)
    (case l_l_is_int => k_is)
    (case c_l_is_int => k_is)
    (case k_l_is_int => k_is)
    (case a_l_same => k_is)
    (case l_l_same => k_is)
    (case c_l_same => k_is)
    (case k_l_same => k_is)
    (case a_l_follows => k_is)
    (case l_l_follows => k_is)
    (case c_l_follows => k_is)
    (case k_l_follows => k_is)
    (case a_l_loose => k_is)
    (case l_l_loose => k_is)
    (case c_l_loose => k_is)
    (case k_l_loose => k_is)
    (case a_l_raised => k_is)
    (case l_l_raised => k_is)
    (case c_l_raised => k_is)
    (case k_l_raised => k_is)
    (case a_law => k_is)
    (case l_law => k_is)
    (case c_law => k_is)
    (case k_law => k_is)
    (case z_range => k_is)
    (case z_min => k_is)
    (case z_len => k_is)
    (case z_list => k_is)
    (case z_int => k_is)
    (case z_reversed => k_is)
    (case z_isinstance => k_is)
    (case z_bool => k_is)
    (case z_str => k_is)
    (case z_tuple => k_is)
#print axioms PySem.Challenge.cw_quickways_k25_whole_next_picks_go_throug_holds
