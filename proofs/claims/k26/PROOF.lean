import PyProof.Rows.All
import Wide.All
import OpenK.AllK
import Wide.FinOn
import HandS.Base
import HandS.Call
import HandS.List
import HandS.Comp
import HandS.Ends
import HandS.Dict
import HandS.Iter
import HandS.Text
import HandS.Words
import HandS.WordsList
import HandS.WordsDict
import HandS.IsInst
import HandS.TupAny
import HandS.Conv
import HandS.RevRange
import HandS.TryOnly
import HandS.Exc
import HandS.ExcOwn
import HandS.WordsExc
import HandS.ExcInit
import HandS.ExcField
import HandS.ExcIs
import KE.KExcSuper
import HandS.ExcCtx
import HandS.HotCalls
import HandS.ExcInitHot
import KE.KExcIs
import HandS.More
import HandS.FStr
import HandS.CallSlots
import HandS.Defaults
import KE.SortData
import HandS.SortInts
import HandS.GenList
import HandS.GenYield
import KE.RegKSuper
import KE.RegKIsAll
import PySem.Challenge.RW_quickways_k26_free_events_exchange
set_option Elab.async false
set_option linter.all false
set_option maxRecDepth 100000
set_option maxHeartbeats 4000000
namespace PySem
open Sem (wp)
open PySem.AutoSeq1 in
theorem q_extend_tuple (l : Addr) (items : Array Value) (n : Nat) (b : Addr) (items2 : Array Value) (n2 : Nat) (dd : Option Addr) (sl : Array (Option Value)) (hs0 : ¬(!items.isEmpty && Builtin.List.listTooLong (items.size + items2.size)) = true) (hs1 : items.size ≤ sizeLine) (hs2 : items.size + items2.size ≤ sizeLine + 1) :
    Meets (Builtin.«list.extend» ⟨[.ref l, .ref b], []⟩) (fun _ R s => s.heap.get? l = some { cls := .type "list", dict := none, data := .seq items n, slots := #[] } ∧ s.heap.get? b = some { cls := .type "tuple", dict := dd, data := .seq items2 n2, slots := sl } ∧ R (.ok (.ret Value.none)) { s with heap := s.heap.update l (Obj.mapSeq fun x => x ++ items2), toks := s.toks }) :=
  .of_wp fun prog w A R s h => by
    obtain ⟨hp, g, d, tk, os⟩ := s; obtain ⟨hl, hb, h⟩ := h; have f1 := idx_int; have f2 := sub_tuple_tuple; have f3 := sub_list_list; have f4 := sub_tuple_list; have f5 := sub_list_tuple;
    have hz' : (items ++ items2).size ≤ sizeLine + 1 := by rw [Array.size_append]; exact hs2
    wp_walk using (wpAny_updateSeq hl rfl (hz := hs1) (_hz' := hz')), wpAny_loadPart' hl, wpAny_loadPart' hb; exact ⟨_, rfl, h⟩
end PySem
namespace Q
open PySem L2

/-! ### operators by what stands there -/
section
variable {X : Cx}
def rAddD (K : PySem.W.Frag) : R2 := fun x y H Q => match x, y with
  | .int i, .int j => Q (.int (i + j)) H
  | .str a, .str b => a.length + b.length ≤ sizeLine ∧ Q (.str (a ++ b)) H
  | .ref a, .ref b => rCat (.ref a) (.ref b) H Q ∨ rCatA K (.ref a) (.ref b) H Q
  | _, _ => False
theorem op_addD : OpR X (binaryOp .Add) (rAddD X.K) := by
  intro pins s σ H x y v u Q I rx ry h
  match x, y, h with
  | .int i, .int j, h => exact op_add pins s σ H _ _ v u Q I rx ry ⟨i, j, rfl, rfl, h⟩
  | .str a, .str b, h => exact op_add_str pins s σ H _ _ v u Q I rx ry ⟨a, b, rfl, rfl, h.1, h.2⟩
  | .ref a, .ref b, h =>
    rcases h with h | h
    · exact op_cat pins s σ H _ _ v u Q I rx ry h
    · exact op_catA pins s σ H _ _ v u Q I rx ry h
def rMulD : R2 := fun x y H Q => match x, y with
  | .int i, .int j => CMul i j ∧ Q (.int (i * j)) H
  | .ref a, .int j => rRep (.ref a) (.int j) H Q
  | _, _ => False
theorem op_mulD : OpR X (binaryOp .Mult) rMulD := by
  intro pins s σ H x y v u Q I rx ry h
  match x, y, h with
  | .int i, .int j, h => exact op_mul pins s σ H _ _ v u Q I rx ry ⟨i, j, rfl, rfl, h.1, h.2⟩
  | .ref a, .int j, h => exact op_rep pins s σ H _ _ v u Q I rx ry h
def rEqX (K : PySem.W.Frag) : R2 := fun x y H Q => rEq x y H Q ∨ rEqD K x y H Q
theorem op_eqX (hu : X.A.units + 64 < cLine) : OpR X (compareOp .Eq) (rEqX X.K) := by
  intro pins s σ H x y v u Q I rx ry h
  rcases h with h | h
  · exact op_eq pins s σ H _ _ v u Q I rx ry h
  · exact op_eqD hu pins s σ H _ _ v u Q I rx ry h
def rNeX (K : PySem.W.Frag) : R2 := fun x y H Q => rNe x y H Q ∨ rNeD K x y H Q
theorem op_neX (hu : X.A.units + 64 < cLine) : OpR X (compareOp .NotEq) (rNeX X.K) := by
  intro pins s σ H x y v u Q I rx ry h
  rcases h with h | h
  · exact op_ne pins s σ H _ _ v u Q I rx ry h
  · exact op_neD hu pins s σ H _ _ v u Q I rx ry h
def rSlX (K : PySem.W.Frag) : V → Option Int → Option Int → Hp → VK → Prop := fun x lo hi H Q => rSlL K x lo hi H Q ∨ rSlA K x lo hi H Q ∨ rSlS x lo hi H Q
theorem sl_X : SlR X (rSlX X.K) := by
  intro pins s σ H x v vl vu lo hi sl Q I rx hs pl pu h
  rcases h with h | h | h
  · exact sl_list pins s σ H x v vl vu lo hi sl Q I rx hs pl pu h
  · exact sl_tupA pins s σ H x v vl vu lo hi sl Q I rx hs pl pu h
  · exact sl_str pins s σ H x v vl vu lo hi sl Q I rx hs pl pu h

def rSubD : R2 := fun x y H Q => match x, y with
  | .int i, .int j => Q (.int (i - j)) H
  | _, _ => False
theorem op_subD : OpR X (binaryOp .Sub) rSubD := by
  intro pins s σ H x y v u Q I rx ry h
  match x, y, h with
  | .int i, .int j, h => exact op_sub pins s σ H _ _ v u Q I rx ry ⟨i, j, rfl, rfl, h⟩
def rFdivD : R2 := fun x y H Q => match x, y with
  | .int i, .int j => CDiv i j ∧ Q (.int (i / j)) H
  | _, _ => False
theorem op_fdivD : OpR X (binaryOp .FloorDiv) rFdivD := by
  intro pins s σ H x y v u Q I rx ry h
  match x, y, h with
  | .int i, .int j, h => exact op_fdiv pins s σ H _ _ v u Q I rx ry ⟨i, j, rfl, rfl, h.1, h.2⟩
def rModD : R2 := fun x y H Q => match x, y with
  | .int i, .int j => 0 < j ∧ Q (.int (i % j)) H
  | _, _ => False
theorem op_modD : OpR X (binaryOp .Mod) rModD := by
  intro pins s σ H x y v u Q I rx ry h
  match x, y, h with
  | .int i, .int j, h => exact op_mod pins s σ H _ _ v u Q I rx ry ⟨i, j, rfl, rfl, h.1, h.2⟩
def rPowD : R2 := fun x y H Q => match x, y with
  | .int i, .int j => CPow i j ∧ Q (.int (i ^ j.toNat)) H
  | _, _ => False
theorem op_powD : OpR X (binaryOp .Pow) rPowD := by
  intro pins s σ H x y v u Q I rx ry h
  match x, y, h with
  | .int i, .int j, h => exact op_pow pins s σ H _ _ v u Q I rx ry ⟨i, j, rfl, rfl, h.1, h.2⟩
def rLtD : R2 := fun x y H Q => match x, y with
  | .int i, .int j => Q (.bl (decide (i < j))) H
  | .str i, .str j => Q (.bl (decide (i.cps.toList < j.cps.toList))) H
  | _, _ => False
theorem op_ltD : OpR X (compareOp .Lt) rLtD := by
  intro pins s σ H x y v u Q I rx ry h
  match x, y, h with
  | .int i, .int j, h => exact op_lt pins s σ H _ _ v u Q I rx ry ⟨i, j, rfl, rfl, h⟩
  | .str i, .str j, h => exact op_lt_str pins s σ H _ _ v u Q I rx ry ⟨i, j, rfl, rfl, h⟩
def rLeD : R2 := fun x y H Q => match x, y with
  | .int i, .int j => Q (.bl (decide (i ≤ j))) H
  | .str i, .str j => Q (.bl (!decide (j.cps.toList < i.cps.toList))) H
  | _, _ => False
theorem op_leD : OpR X (compareOp .LtE) rLeD := by
  intro pins s σ H x y v u Q I rx ry h
  match x, y, h with
  | .int i, .int j, h => exact op_le pins s σ H _ _ v u Q I rx ry ⟨i, j, rfl, rfl, h⟩
  | .str i, .str j, h => exact op_le_str pins s σ H _ _ v u Q I rx ry ⟨i, j, rfl, rfl, h⟩
def rGtD : R2 := fun x y H Q => match x, y with
  | .int i, .int j => Q (.bl (decide (j < i))) H
  | .str i, .str j => Q (.bl (decide (j.cps.toList < i.cps.toList))) H
  | _, _ => False
theorem op_gtD : OpR X (compareOp .Gt) rGtD := by
  intro pins s σ H x y v u Q I rx ry h
  match x, y, h with
  | .int i, .int j, h => exact op_gt pins s σ H _ _ v u Q I rx ry ⟨i, j, rfl, rfl, h⟩
  | .str i, .str j, h => exact op_gt_str pins s σ H _ _ v u Q I rx ry ⟨i, j, rfl, rfl, h⟩
def rGeD : R2 := fun x y H Q => match x, y with
  | .int i, .int j => Q (.bl (decide (j ≤ i))) H
  | .str i, .str j => Q (.bl (!decide (i.cps.toList < j.cps.toList))) H
  | _, _ => False
theorem op_geD : OpR X (compareOp .GtE) rGeD := by
  intro pins s σ H x y v u Q I rx ry h
  match x, y, h with
  | .int i, .int j, h => exact op_ge pins s σ H _ _ v u Q I rx ry ⟨i, j, rfl, rfl, h⟩
  | .str i, .str j, h => exact op_ge_str pins s σ H _ _ v u Q I rx ry ⟨i, j, rfl, rfl, h⟩
def rNeg : V → Hp → VK → Prop := rU fun i => .int (-i)
/-- is None, is not None -/
def rIsD : R2 := fun x y H Q => y = .non ∧ Q (.bl (decide (x = .non))) H
theorem op_isD : OpR X (compareOp .Is) rIsD := op_isN
def rIsnotD : R2 := fun x y H Q => y = .non ∧ Q (.bl (!decide (x = .non))) H
theorem op_isnotD : OpR X (compareOp .IsNot) rIsnotD := op_notN
/-- in: a flat sequence, a dict, a text -/
def rInD (K : PySem.W.Frag) : R2 := fun x y H Q => rIn K false x y H Q ∨ (∃ a o, y = .ref a ∧ DGet H a x o ∧ Q (.bl o.isSome) H) ∨
  ∃ (c : Nat) (z : Str), x = .str ⟨#[c]⟩ ∧ y = .str z ∧ Q (.bl (decide (c ∈ z.cps.toList))) H
theorem op_inD (hu : X.A.units + 64 < cLine) : OpR X (compareOp .In) (rInD X.K) := by
  intro pins s σ H x y v u Q I rx ry h
  rcases h with h | h | h
  · exact op_in_seq pins s σ H _ _ v u Q I rx ry h
  · obtain ⟨a, o, rfl, g, q⟩ := h
    obtain rfl : u = Value.ref a := ry
    exact d_in (Nat.lt_of_le_of_lt (by omega) hu) I g rx fun s3 I3 => ⟨.bl o.isSome, H, I3, rfl, q⟩
  · exact op_in_sign pins s σ H _ _ v u Q I rx ry h
def rNotInD (K : PySem.W.Frag) : R2 := fun x y H Q => rIn K true x y H Q ∨ (∃ a o, y = .ref a ∧ DGet H a x o ∧ Q (.bl (!o.isSome)) H) ∨
  ∃ (c : Nat) (z : Str), x = .str ⟨#[c]⟩ ∧ y = .str z ∧ Q (.bl (!decide (c ∈ z.cps.toList))) H
theorem op_notInD (hu : X.A.units + 64 < cLine) : OpR X (compareOp .NotIn) (rNotInD X.K) := by
  intro pins s σ H x y v u Q I rx ry h
  rcases h with h | h | h
  · exact op_notIn_seq pins s σ H _ _ v u Q I rx ry h
  · obtain ⟨a, o, rfl, g, q⟩ := h
    obtain rfl : u = Value.ref a := ry
    exact d_notIn (Nat.lt_of_le_of_lt (by omega) hu) I g rx fun s3 I3 => ⟨.bl (!o.isSome), H, I3, rfl, q⟩
  · exact op_notIn_sign pins s σ H _ _ v u Q I rx ry h
/-- o[i] -/
def rIxD (K : PySem.W.Frag) : R2 := fun x y H Q => rIx K x y H Q ∨ ∃ a v, x = .ref a ∧ DGet H a y (some v) ∧ Q v H
theorem ix_D (hu : X.A.units + 64 < cLine) : IxR X (rIxD X.K) := by
  intro value slice pins s σ H x y v u Q I rx ry h hs
  rcases h with h | ⟨a, z, rfl, g, q⟩
  · exact ix_seq value slice pins s σ H x y v u Q I rx ry h hs
  · obtain rfl : v = Value.ref a := rx
    exact PyProof.Rows.tail_any (dict_typeIs I g) PySem.F.slot_dict_getitem.lookup (d_getItem (Nat.lt_of_le_of_lt (by omega) hu) I g ry fun w' s3 I3 rw' => ⟨z, H, I3, rw', q⟩) hs
/-- o[i] = v -/
def rSetD : V → V → V → Hp → (Hp → Prop) → Prop := fun o i v H Q => rSetL o i v H Q ∨ ∃ a H', o = .ref a ∧ DPut H a i v H' ∧ Q H'
theorem set_D (hu : X.A.units + 64 < cLine) : PSet X rSetD := by
  intro pins s σ H o i v ov iv u Q I ro ri rv h
  rcases h with h | ⟨a, H', rfl, g, q⟩
  · exact set_list pins s σ H o i v ov iv u Q I ro ri rv h
  · obtain rfl : ov = Value.ref a := ro
    exact d_setItem (Nat.lt_of_le_of_lt (by omega) hu) I g ri rv fun s4 I4 => ⟨H', I4, q⟩
/-! ### built-ins -/
def rLenD (K : PySem.W.Frag) : List V → Hp → VK → Prop := fun xs H Q => (∃ x n, xs = [x] ∧ LenV K x H n ∧ (n ≤ 16777216 → Q (.int n) H)) ∨ ∃ a kvs, xs = [.ref a] ∧ H a = some (.dK kvs) ∧ Q (.int kvs.length) H
theorem call_lenX : CallR X (.builtin "len") (rLenD X.K) := by
  intro pins s σ H xs us Q I r h
  rcases h with ⟨x, n, rfl, e, q⟩ | h
  · refine call_len pins s σ H _ us Q I r ⟨x, n, rfl, e, q ?_⟩
    have hs : sizeLine = 16777216 := sizeLine_eq
    cases x with
    | str y => obtain ⟨h1, h2⟩ : y.length ≤ sizeLine ∧ n = y.length := e; omega
    | byt y => obtain ⟨h1, h2⟩ : y.size ≤ sizeLine ∧ n = y.size := e; omega
    | ref p =>
      rcases e with ⟨xs, hS, rfl⟩ | ⟨xs, hS, rfl⟩
      · obtain ⟨_, _, _, hz⟩ := I.list hS; omega
      · obtain ⟨_, _, _, hz⟩ := I.tuple hS; omega
    | _ => exact e.elim
  · exact call_lenD pins s σ H _ us Q I r h
def rIntD : List V → Hp → VK → Prop := fun xs H Q => match xs with
  | [.int i] => Q (.int i) H
  | [.bl b] => Q (.int (if b then 1 else 0)) H
  | [.str a] => ∃ n, PySem.intText? a = some n ∧ a.length ≤ 640 ∧ Q (.int n) H
  | _ => False
theorem call_intD : CallR X (.type "int") rIntD := by
  intro pins s σ H xs us Q I r h
  match xs, h with
  | [.int i], h => exact call_int1 pins s σ H _ us Q I r (.inl ⟨i, rfl, h⟩)
  | [.bl b], h => exact call_int1 pins s σ H _ us Q I r (.inr ⟨b, rfl, h⟩)
  | [.str a], h =>
    obtain ⟨n, h1, h2, h3⟩ := h
    exact call_int_str pins s σ H _ us Q I r ⟨a, n, rfl, h1, h2, h3⟩
def rListD (K : PySem.W.Frag) : List V → Hp → VK → Prop := fun xs H Q => ∃ p ys, xs = [.ref p] ∧ (SqL K H p ys ∨ SqT K H p ys) ∧ ∀ l, H l = none → Q (.ref l) (upd H l (.lst ys))
theorem call_listD : CallR X (.type "list") (rListD X.K) := call_list_of
def rTupleD (K : PySem.W.Frag) : List V → Hp → VK → Prop := fun xs H Q => ∃ p ys, xs = [.ref p] ∧ ((SqL K H p ys ∧ ∀ l, H l = none → Q (.ref l) (upd H l (.tup ys))) ∨ (SqT K H p ys ∧ Q (.ref p) H))
theorem call_tupleD : CallR X (.type "tuple") (rTupleD X.K) := call_tuple_of
def rStrD : List V → Hp → VK → Prop := fun xs H Q => match xs with
  | [.int i] => i.natAbs.log2 < 1920 ∧ Q (.str (toString i)) H
  | _ => False
theorem call_strD : CallR X (.type "str") rStrD := by
  intro pins s σ H xs us Q I r h
  match xs, h with
  | [.int i], h => exact call_str_int pins s σ H _ us Q I r ⟨i, rfl, h.1, h.2⟩
def rMinD (K : PySem.W.Frag) : List V → Hp → VK → Prop := fun xs H Q => match xs with
  | [.int i, .int j] => Q (.int (if j < i then j else i)) H
  | xs => rMin K xs H Q
theorem call_minD (hc : X.calm = true) : CallR X (.builtin "min") (rMinD X.K) := by
  intro pins s σ H xs us Q I r h
  unfold rMinD at h
  split at h
  · exact call_min2 hc pins s σ H _ us Q I r ⟨_, _, rfl, h⟩
  · exact cr_min hc pins s σ H _ us Q I r h
def rMaxD (K : PySem.W.Frag) : List V → Hp → VK → Prop := fun xs H Q => match xs with
  | [.int i, .int j] => Q (.int (if j > i then j else i)) H
  | xs => rMax K xs H Q
theorem call_maxD (hc : X.calm = true) : CallR X (.builtin "max") (rMaxD X.K) := by
  intro pins s σ H xs us Q I r h
  unfold rMaxD at h
  split at h
  · exact call_max2 hc pins s σ H _ us Q I r ⟨_, _, rfl, h⟩
  · exact cr_max hc pins s σ H _ us Q I r h
theorem call_isiD : CallR X (.builtin "isinstance") (rIsi X.K) := call_isi
def rExtendD (K : PySem.W.Frag) : V → List V → Hp → VK → Prop := fun x vs H Q => rExtend x vs H Q ∨
  ∃ l b xs zs, x = .ref l ∧ vs = [.ref b] ∧ H l = some (.lst xs) ∧ SqT K H b zs ∧ xs.length + zs.length ≤ sizeLine ∧ Q .non (upd H l (.lst (xs ++ zs)))
theorem mt_extendM : MtM X "list.extend" (rExtendD X.K) := by
  intro pins s σ H x vs v us Q I rx rv h
  rcases h with h | h
  · exact mt_extend pins s σ H x vs v us Q I rx rv h
  obtain ⟨l, b, xs, zs, rfl, rfl, hH, hB, hz, q⟩ := h
  cases rx
  obtain ⟨u, rfl, ru⟩ := rv.one
  cases ru
  obtain ⟨z, its, n, r, hl, e⟩ := I.lstM hH
  obtain ⟨its2, r2, ⟨⟨cls, dd, data, sl⟩, e2, hc, n2, hd⟩, hz2⟩ := I.tuple hB
  simp only at hc hd
  subst hc hd
  have hl2 := r2.length
  have hsz : its.toArray.size + its2.toArray.size ≤ sizeLine := by rw [List.size_toArray, List.size_toArray]; omega
  have hlong : ¬ (!its.toArray.isEmpty && Builtin.List.listTooLong (its.toArray.size + its2.toArray.size)) = true := by
    rw [notLongL hsz, Bool.and_false]
    exact Bool.false_ne_true
  refine call_meets F.slot_list_extend ⟨_, e, rfl⟩ F.entry_list_extend (F.args_list_extend_2 _ _)
    (q_extend_tuple l its.toArray n b its2.toArray n2 dd sl hlong (by rw [List.size_toArray]; omega) (by omega)) ⟨e, e2, ?_⟩
  refine ⟨.non, _, I.lset (its' := its ++ its2) hH e (by simp) (r.append r2) ?_, rfl, q⟩
  rw [List.length_append]
  omega
/-! ### tests, loops, targets -/
def tTru (K : PySem.W.Frag) (ta : TE) : TT := fun σ H Q => ta σ H fun x H' => ∃ k, TruV K x H' k ∧ Q k H'
theorem pt_truthD {a : Expr} {ta : TE} (ha : PE X a ta) (he : ∀ whole, isTrue a X.env whole = (do let v ← whole; standAt a.pos; holding [v] (truthy v))) : PT X a (tTru X.K ta) := pt_truth ha he
def iSeq (K : PySem.W.Frag) (tl : TE) : TI := fun σ H R => tl σ H fun x H1 => ∃ a, x = .ref a ∧ (((∃ xs, SqL K H1 a xs) ∧ R (Itl K a) H1) ∨ ((∃ xs, SqT K H1 a xs) ∧ R (Itt K a) H1))
theorem pe_only {e : Expr} {te : TE} (h : PE X e te) (k : V → Hp → VK → Prop) : True := trivial
theorem pi_seq {tg l : Expr} {tl : TE} (hl : PE X l tl) : PI X tg l (iSeq X.K tl) := by
  refine ⟨fun pins s σ H R I h => ?_⟩
  refine thn (hl.run pins s σ H _ I h) fun v s1 ⟨x, H1, I1, r1, q1⟩ => ?_
  obtain ⟨a, e, q⟩ := q1
  subst e
  rcases q with ⟨hq, q⟩ | ⟨hq, q⟩
  · cases r1
    obtain ⟨xs, hq⟩ := hq
    obtain ⟨its, rv, p, hz⟩ := I1.list hq
    refine wpAny_pyIter_list p.isList ?_
    refine ⟨s1.heap.objs.size, [s1.heap.objs.size], _, _, H1, rfl, I1.kept (t' := s1.toks) fun b o e => Heap.get?_push_of_some _ e, turn_list a _, ⟨_, Heap.get?_push_size _ rfl, rfl, rfl⟩, fun b hb => ?_, q⟩
    have e : b = s1.heap.objs.size := by simpa using hb
    subst e
    exact I1.fpOk (Nat.le_refl _) (I1.hok.fresh (Nat.le_refl _))
  · cases r1
    obtain ⟨xs, hq⟩ := hq
    obtain ⟨its, rv, p, hz⟩ := I1.tuple hq
    refine wpAny_pyIter_tuple (show s1.heap.IsTuple a its.toArray from p) ?_
    refine ⟨s1.heap.objs.size, [s1.heap.objs.size], _, _, H1, rfl, I1.kept (t' := s1.toks) fun b o e => Heap.get?_push_of_some _ e, turn_tuple a _, ⟨_, Heap.get?_push_size _ rfl, rfl, rfl⟩, fun b hb => ?_, q⟩
    have e : b = s1.heap.objs.size := by simpa using hb
    subst e
    exact I1.fpOk (Nat.le_refl _) (I1.hok.fresh (Nat.le_refl _))
theorem gn (i : Nat) {x : Str} {pos : Pos} (nd : X.N.Nodup) (hN : X.N[i]? = some x := by rfl) (hx : Loc X.env.scope x := by first | exact Or.inl rfl | exact Or.inr rfl)
    (hf : X.fn x = true ∨ X.env.scope.names.lookup x = some .local := by first | exact .inl rfl | exact .inr rfl | assumption) : PG X (.Name x pos) (gName i) := pg_name nd hN hx hf
theorem sset (i : Nat) {x : Str} {e : Expr} {te : TE} {pos pos' : Pos} (nd : X.N.Nodup) (he : PE X e te) (hN : X.N[i]? = some x := by rfl) (hx : Loc X.env.scope x := by first | exact Or.inl rfl | exact Or.inr rfl)
    (hs : swapsWith e (some (.Name x pos')) pos.line X.env = pure false := by rfl) (hf : X.fn x = true ∨ X.env.scope.names.lookup x = some .local := by first | exact .inl rfl | exact .inr rfl | assumption) :
    PS X (.Assign [.Name x pos'] e pos) (tAsg te (gName i)) := ps_set nd hN hx he hs hf
theorem bt_len : bootBuiltins "len" = some (.builtin "len") := by decide +kernel
theorem bt_isinstance : bootBuiltins "isinstance" = some (.builtin "isinstance") := by decide +kernel
theorem bt_min : bootBuiltins "min" = some (.builtin "min") := by decide +kernel
theorem bt_max : bootBuiltins "max" = some (.builtin "max") := by decide +kernel
theorem bt_sum : bootBuiltins "sum" = some (.builtin "sum") := by decide +kernel
theorem bt_any : bootBuiltins "any" = some (.builtin "any") := by decide +kernel
theorem bt_all : bootBuiltins "all" = some (.builtin "all") := by decide +kernel
theorem bt_sorted : bootBuiltins "sorted" = some (.builtin "sorted") := by decide +kernel
theorem bt_int : bootBuiltins "int" = some (.type "int") := by decide +kernel
theorem bt_str : bootBuiltins "str" = some (.type "str") := by decide +kernel
theorem bt_bool : bootBuiltins "bool" = some (.type "bool") := by decide +kernel
theorem bt_list : bootBuiltins "list" = some (.type "list") := by decide +kernel
theorem bt_tuple : bootBuiltins "tuple" = some (.type "tuple") := by decide +kernel
theorem bt_dict : bootBuiltins "dict" = some (.type "dict") := by decide +kernel
theorem bt_set : bootBuiltins "set" = some (.type "set") := by decide +kernel
theorem bt_ValueError : bootBuiltins "ValueError" = some (.type "ValueError") := by decide +kernel

def gUnp (K : PySem.W.Frag) (n : Nat) (t : TGs) : TG := fun v σ H Q => gTup K n t v σ H Q ∨ gLst K n t v σ H Q
theorem pg_unp {pos : Pos} {es : List Expr} {k : Nat} {t : TGs} {n : Nat} (hc : X.calm = true) (h : PGs X es t)
    (hn : (assignEach es X.env).length = n := by rfl) (hst : (assignEach es X.env).findIdx? (·.1) = none := by rfl) : PG X (.Tuple es k pos) (gUnp X.K n t) := by
  refine ⟨fun pins s σ H v u Q I r hw => ?_⟩
  rcases hw with hw | hw
  · exact (pg_tup hc h hn hst).run pins s σ H v u Q I r hw
  · exact (pg_lst hc h hn hst).run pins s σ H v u Q I r hw
end
/-! ### step by step -/
section
variable {K : PySem.W.Frag} {D : Ends} {σ : St} {H : Hp} {Q : VK} {R : Bool → Hp → Prop} {S : List V → Hp → Prop} {te ta tb : TE} {tt tu : TT} {t u : TS} {i j : Int} {v x y : V} {n : Nat}
theorem w_seq (h : t { D with nx := u D } σ H) : tSeq t u D σ H := h
theorem w_next (h : D.nx σ H) : tNext D σ H := h
theorem w_asg {g : TG} (h : te σ H fun x H1 => g x σ H1 D.nx) : tAsg te g D σ H := h
theorem w_gname {N : St → Hp → Prop} (h : N (σ.set n (some v)) H) : gName n v σ H N := h
theorem w_gsub {to ti : TE} {ts : TSet} {N : St → Hp → Prop} (h : to σ H fun o H1 => ti σ H1 fun i H2 => ts o i v H2 fun H3 => N σ H3) : gSub to ti ts v σ H N := h
theorem w_drop (h : te σ H fun _ H1 => D.nx σ H1) : tDrop te D σ H := h
theorem w_ret (h : te σ H D.rt) : tRet te D σ H := h
theorem w_retN (h : D.rt .non H) : tRetN D σ H := h
theorem w_ifs (h : tt σ H fun b H1 => if b = true then t D σ H1 else u D σ H1) : tIfS tt t u D σ H := h
theorem w_var (e : σ[n]? = some (some v)) (h : Q v H) : tVar n σ H Q := ⟨v, e, h⟩
theorem w_c (h : Q v H) : tC v σ H Q := h
theorem w_op {r : R2} (h : ta σ H fun x H1 => tb σ H1 fun y H2 => r x y H2 Q) : tOp r ta tb σ H Q := h
theorem w_un {r : V → Hp → VK → Prop} (h : ta σ H fun x H1 => r x H1 Q) : tUn r ta σ H Q := h
theorem w_neg (h : Q (.int (-i)) H) : rNeg (.int i) H Q := ⟨i, rfl, h⟩
theorem w_test (h : te σ H fun x H' => ∃ k, x = .bl k ∧ R k H') : tTest te σ H R := h
theorem w_tB (h : te σ H fun x H' => ∃ k, x = .bl k ∧ R k H') : tB te σ H R := h
theorem w_tru (h : te σ H fun x H' => ∃ k, TruV K x H' k ∧ R k H') : tTru K te σ H R := h
theorem w_trub {b : Bool} {F : Bool → Prop} (h : F b) : ∃ k, TruV K (.bl b) H k ∧ F k := ⟨b, rfl, h⟩
theorem w_bl {b : Bool} {F : Bool → Prop} (h : F b) : ∃ k, V.bl b = .bl k ∧ F k := ⟨b, rfl, h⟩
theorem w_and (h : tt σ H fun c H1 => if c = true then tu σ H1 R else R false H1) : tAnd tt tu σ H R := h
theorem w_or (h : tt σ H fun c H1 => if c = true then R true H1 else tu σ H1 R) : tOr tt tu σ H R := h
theorem w_not (h : tt σ H fun c H1 => R (!c) H1) : tNot tt σ H R := h
theorem w_andV (h : ta σ H fun x H1 => ∃ c, x = .bl c ∧ if c = true then tb σ H1 Q else Q (.bl false) H1) : tAndV ta tb σ H Q := h
theorem w_orV (h : ta σ H fun x H1 => ∃ c, x = .bl c ∧ if c = true then Q (.bl true) H1 else tb σ H1 Q) : tOrV ta tb σ H Q := h
theorem w_notV (h : ta σ H fun x H1 => ∃ c, x = .bl c ∧ Q (.bl (!c)) H1) : tNotV ta σ H Q := h
theorem w_ifE (h : tt σ H fun c H1 => if c = true then ta σ H1 Q else tb σ H1 Q) : tIf tt ta tb σ H Q := h
theorem w_nil (h : S [] H) : tNil σ H S := h
theorem w_cons {tr : TA} (h : ta σ H fun x H1 => tr σ H1 fun xs H2 => S (x :: xs) H2) : tCons ta tr σ H S := h
theorem w_tup {ts : TA} (h : ts σ H fun xs H1 => xs.length ≤ sizeLine ∧ ∀ p, H1 p = none → Q (.ref p) (upd H1 p (.tup xs))) : tTup ts σ H Q := h
theorem w_lst {ts : TA} (h : ts σ H fun xs H1 => xs.length ≤ sizeLine ∧ ∀ p, H1 p = none → Q (.ref p) (upd H1 p (.lst xs))) : tLst ts σ H Q := h
theorem w_cb {r : List V → Hp → VK → Prop} {ts : TA} (h : ts σ H fun vs H1 => r vs H1 Q) : tCB r ts σ H Q := h
theorem w_call {sp : Sp} {E : XK} {ts : TA} (h : ts σ H fun vs H1 => sp vs H1 Q E) : tCall sp [] E ts σ H Q := by
  have e : (fun (vs : List V) (H1 : Hp) => sp (vs ++ []) H1 Q E) = fun vs H1 => sp vs H1 Q E := by funext vs H1; rw [List.append_nil]
  show ts σ H fun vs H1 => sp (vs ++ []) H1 Q E
  rw [e]; exact h
theorem w_sl {r : V → Option Int → Option Int → Hp → VK → Prop} {tl th : TO} (h : te σ H fun x H1 => tl σ H1 fun l H2 => th σ H2 fun u H3 => r x l u H3 Q) : tSl r te tl th σ H Q := h
theorem w_nopart {N : Option Int → Hp → Prop} (h : N none H) : tNoPart σ H N := h
theorem w_part {N : Option Int → Hp → Prop} (h : te σ H fun x H1 => ∃ i, x = .int i ∧ N (some i) H1) : tPart te σ H N := h
theorem w_pint {F : Int → Prop} (h : F i) : ∃ k, V.int i = .int k ∧ F k := ⟨i, rfl, h⟩
theorem w_bm {T : String} {r : V → List V → Hp → VK → Prop} {ts : TA} (h : te σ H fun x H1 => tyV K T x H1 ∧ ts σ H1 fun xs H2 => r x xs H2 Q) : tBM K T r te ts σ H Q := h
theorem w_bm0 {T : String} {r : V → List V → Hp → VK → Prop} (h : te σ H fun x H1 => tyV K T x H1 ∧ r x [] H1 Q) : tBM0 K T r te σ H Q := h
theorem w_addI (h : Q (.int (i + j)) H) : rAddD K (.int i) (.int j) H Q := h
theorem w_subI (h : Q (.int (i - j)) H) : rSubD (.int i) (.int j) H Q := h
theorem w_mulI (c : CMul i j) (h : Q (.int (i * j)) H) : rMulD (.int i) (.int j) H Q := ⟨c, h⟩
theorem w_mulR (c : -(2 ^ 64) < j ∧ j < 2 ^ 64) (h : Q (.int (i * j)) H) : rMulD (.int i) (.int j) H Q := ⟨.inr c, h⟩
theorem w_modI (c : 0 < j) (h : Q (.int (i % j)) H) : rModD (.int i) (.int j) H Q := ⟨c, h⟩
theorem w_fdivI (c : 0 < j ∧ j < 1073741824) (h : Q (.int (i / j)) H) : rFdivD (.int i) (.int j) H Q := ⟨c, h⟩
theorem w_powI (c : CPow i j) (h : Q (.int (i ^ j.toNat)) H) : rPowD (.int i) (.int j) H Q := ⟨c, h⟩
theorem w_ltI (h : Q (.bl (decide (i < j))) H) : rLtD (.int i) (.int j) H Q := h
theorem w_leI (h : Q (.bl (decide (i ≤ j))) H) : rLeD (.int i) (.int j) H Q := h
theorem w_gtI (h : Q (.bl (decide (j < i))) H) : rGtD (.int i) (.int j) H Q := h
theorem w_geI (h : Q (.bl (decide (j ≤ i))) H) : rGeD (.int i) (.int j) H Q := h
theorem w_eqI (h : Q (.bl (decide (i = j))) H) : rEqX K (.int i) (.int j) H Q := .inl ⟨rfl, by
  have e : decide (V.int i = V.int j) = decide (i = j) := by simp
  rw [e]; exact h⟩
theorem w_neI (h : Q (.bl (!decide (i = j))) H) : rNeX K (.int i) (.int j) H Q := .inl ⟨rfl, by
  have e : decide (V.int i = V.int j) = decide (i = j) := by simp
  rw [e]; exact h⟩
theorem w_eqS {i j : Str} (h : Q (.bl (decide (i = j))) H) : rEqX K (.str i) (.str j) H Q := .inl ⟨rfl, by
  have e : decide (V.str i = V.str j) = decide (i = j) := by simp
  rw [e]; exact h⟩
theorem w_eqB {i j : Bool} (h : Q (.bl (decide (i = j))) H) : rEqX K (.bl i) (.bl j) H Q := .inl ⟨rfl, by
  have e : decide (V.bl i = V.bl j) = decide (i = j) := by simp
  rw [e]; exact h⟩
theorem w_neS {i j : Str} (h : Q (.bl (!decide (i = j))) H) : rNeX K (.str i) (.str j) H Q := .inl ⟨rfl, by
  have e : decide (V.str i = V.str j) = decide (i = j) := by simp
  rw [e]; exact h⟩
theorem w_intI (h : Q (.int i) H) : rIntD [.int i] H Q := h
theorem w_isN (h : Q (.bl (decide (x = .non))) H) : rIsD x .non H Q := ⟨rfl, h⟩
theorem w_isnotN (h : Q (.bl (!decide (x = .non))) H) : rIsnotD x .non H Q := ⟨rfl, h⟩
theorem w_ite {c : Prop} {_ : Decidable c} {A B : Prop} (h1 : c → A) (h2 : ¬ c → B) : if decide c = true then A else B := by
  by_cases h : c
  · rw [if_pos (decide_eq_true h)]; exact h1 h
  · rw [if_neg (by simpa using h)]; exact h2 h
theorem w_iteN {c : Prop} {_ : Decidable c} {A B : Prop} (h1 : ¬ c → A) (h2 : c → B) : if (!decide c) = true then A else B := by
  by_cases h : c
  · rw [if_neg (by simpa using h)]; exact h2 h
  · rw [if_pos (by simpa using h)]; exact h1 h
theorem w_T {c : Prop} {_ : Decidable c} {A B : Prop} (hc : c) (h : A) : if decide c = true then A else B := by
  rw [if_pos (decide_eq_true hc)]; exact h
theorem w_F {c : Prop} {_ : Decidable c} {A B : Prop} (hc : ¬ c) (h : B) : if decide c = true then A else B := by
  rw [if_neg (by simpa using hc)]; exact h
theorem w_NT {c : Prop} {_ : Decidable c} {A B : Prop} (hc : ¬ c) (h : A) : if (!decide c) = true then A else B := by
  rw [if_pos (by simpa using hc)]; exact h
theorem w_NF {c : Prop} {_ : Decidable c} {A B : Prop} (hc : c) (h : B) : if (!decide c) = true then A else B := by
  rw [if_neg (by simpa using hc)]; exact h
theorem w_tt {A B : Prop} (h : A) : if true = true then A else B := by rw [if_pos rfl]; exact h
theorem w_ff {A B : Prop} (h : B) : if false = true then A else B := by rw [if_neg Bool.false_ne_true]; exact h
theorem w_ntt {A B : Prop} (h : A) : if (!false) = true then A else B := by rw [if_pos (by decide)]; exact h
theorem w_nff {A B : Prop} (h : B) : if (!true) = true then A else B := by rw [if_neg (by decide)]; exact h
/-! places -/
variable {p : Addr} {xs ys : List V}
theorem w_ixL (hp : H p = some (.lst xs)) (e : atI xs i = some v) (h : Q v H) : rIxD K (.ref p) (.int i) H Q := .inl (.inl ⟨p, xs, i, v, rfl, rfl, SqL.of hp, e, h⟩)
theorem w_ixT (hp : SqT K H p xs) (e : atI xs i = some v) (h : Q v H) : rIxD K (.ref p) (.int i) H Q := .inl (.inr (.inl ⟨p, xs, i, v, rfl, rfl, hp, e, h⟩))
theorem w_setL {N : Hp → Prop} {k : Nat} (hp : H p = some (.lst xs)) (e : ixN xs.length i = some k) (h : N (upd H p (.lst (xs.set k v)))) : rSetD (.ref p) (.int i) v H N := .inl ⟨p, xs, i, k, rfl, rfl, hp, e, h⟩
theorem w_lenL (hp : H p = some (.lst xs)) (h : xs.length ≤ 16777216 → Q (.int (xs.length : Int)) H) : rLenD K [.ref p] H Q := .inl ⟨_, xs.length, rfl, .inl ⟨xs, SqL.of hp, rfl⟩, h⟩
theorem w_lenT (hp : SqT K H p xs) (h : xs.length ≤ 16777216 → Q (.int (xs.length : Int)) H) : rLenD K [.ref p] H Q := .inl ⟨_, xs.length, rfl, .inr ⟨xs, hp, rfl⟩, h⟩
theorem w_ixS {z : Str} {c : Nat} (hz : z.length ≤ sizeLine) (e : atI z.cps.toList i = some c) (h : Q (.str ⟨#[c]⟩) H) : rIxD K (.str z) (.int i) H Q := .inl (.inr (.inr ⟨z, i, c, rfl, rfl, hz, e, h⟩))
theorem w_addS {a b : Str} (hz : a.length + b.length ≤ sizeLine) (h : Q (.str (a ++ b)) H) : rAddD K (.str a) (.str b) H Q := ⟨hz, h⟩
theorem w_slS {z : Str} {lo hi : Option Int} (hz : z.length ≤ sizeLine) (h : Q (.str (cutS z lo hi)) H) : rSlX K (.str z) lo hi H Q := .inr (.inr ⟨z, rfl, hz, h⟩)
theorem w_strI (c : i.natAbs.log2 < 1920) (h : Q (.str (toString i)) H) : rStrD [.int i] H Q := ⟨c, h⟩
theorem w_lenS {z : Str} (hz : z.length ≤ sizeLine) (h : z.length ≤ 16777216 → Q (.int (z.length : Int)) H) : rLenD K [.str z] H Q := .inl ⟨_, z.length, rfl, ⟨hz, rfl⟩, h⟩
theorem w_cat {q : Addr} (hp : H p = some (.lst xs)) (hq : H q = some (.lst ys)) (hl : xs.length + ys.length ≤ sizeLine) (h : ∀ r, H r = none → Q (.ref r) (upd H r (.lst (xs ++ ys)))) : rAddD K (.ref p) (.ref q) H Q :=
  .inl ⟨p, q, xs, ys, rfl, rfl, hp, hq, hl, h⟩
theorem w_append (hp : H p = some (.lst xs)) (hl : xs.length < sizeLine) (h : Q .non (upd H p (.lst (xs ++ [v])))) : tyV K "list" (.ref p) H ∧ rAppend (.ref p) [v] H Q :=
  ⟨Or.inl ⟨rfl, _, SqL.of hp⟩, p, xs, v, rfl, rfl, hp, hl, h⟩
theorem w_app (hp : H p = some (.lst xs)) (hl : xs.length < sizeLine) (h : Q .non (upd H p (.lst (xs ++ [v])))) : rAppend (.ref p) [v] H Q := ⟨p, xs, v, rfl, rfl, hp, hl, h⟩
theorem tyL (hp : H p = some (.lst xs)) : tyV K "list" (.ref p) H := Or.inl ⟨rfl, _, SqL.of hp⟩
theorem w_unpL {n : Nat} {ts : TGs} {N : St → Hp → Prop} (hp : H p = some (.lst xs)) (e : xs.length = n) (h : ts xs σ H N) : gUnp K n ts (.ref p) σ H N := .inr ⟨p, xs, rfl, SqL.of hp, e, h⟩
theorem w_unpT {n : Nat} {ts : TGs} {N : St → Hp → Prop} (hp : SqT K H p xs) (e : xs.length = n) (h : ts xs σ H N) : gUnp K n ts (.ref p) σ H N := .inl ⟨p, xs, rfl, hp, e, h⟩
theorem w_gcons {g : TG} {ts : TGs} {N : St → Hp → Prop} (h : g x σ H fun σ' H' => ts xs σ' H' N) : gCons g ts (x :: xs) σ H N := ⟨x, xs, rfl, h⟩
theorem w_gnil {N : St → Hp → Prop} (h : N σ H) : gNil [] σ H N := ⟨rfl, h⟩
theorem w_min2 (h : Q (.int (if j < i then j else i)) H) : rMinD K [.int i, .int j] H Q := h
theorem w_max2 (h : Q (.int (if j > i then j else i)) H) : rMaxD K [.int i, .int j] H Q := h
theorem w_listL (hp : H p = some (.lst xs)) (h : ∀ l, H l = none → Q (.ref l) (upd H l (.lst xs))) : rListD K [.ref p] H Q := ⟨p, xs, rfl, .inl (SqL.of hp), h⟩
theorem w_slL {lo hi : Option Int} (hp : H p = some (.lst xs)) (h : ∀ l, H l = none → Q (.ref l) (upd H l (.lst (cutV xs lo hi)))) : rSlX K (.ref p) lo hi H Q := .inl ⟨p, xs, rfl, SqL.of hp, h⟩
end

/-! ### loops -/
def LoopR (J : It) (g : TG) (tb : TS) (D : Ends) (σ : St) (H : Hp) : Prop := ∃ W : Nat → Nat → St → Hp → Prop, (∃ m, W 0 m σ H) ∧ ∀ i m σ H, W i m σ H →
  (J.stop i H ∧ D.nx σ H) ∨ (J.go i H ∧ ∃ N : St → Hp → Prop, (∀ σ' H', N σ' H' → ∃ m', m' < m ∧ W (i + 1) m' σ' H') ∧ ∀ x H', J.yld i H x H' → g x σ H' fun σ2 H2 => tb { D with nx := N, ct := N, bk := D.nx } σ2 H2)
section
variable {K : PySem.W.Frag} {D : Ends} {σ : St} {H : Hp} {Q : VK} {wi : TI} {g : TG} {tb : TS} {te : TE} {R : It → Hp → Prop}
theorem w_for (h : wi σ H fun J H1 => LoopR J g tb D σ H1) : tFor wi g tb D σ H := h
theorem w_rng1 {ta : TA} (h : ta σ H fun vs H1 => ∃ j : Int, vs = [.int j] ∧ -(2 ^ 62) ≤ j ∧ j < 2 ^ 62 ∧ R (Itr 0 j.toNat) H1) : iRng1 ta σ H R := h
theorem w_rng2 {ta : TA} (h : ta σ H fun vs H1 => ∃ i j : Int, vs = [.int i, .int j] ∧ (-(2 ^ 62) ≤ i ∧ i < 2 ^ 62 ∧ -(2 ^ 62) ≤ j ∧ j < 2 ^ 62) ∧ R (Itr i (j - i).toNat) H1) : iRng2 ta σ H R := h
theorem w_rI {n : Int} {F : Int → Prop} (c : -(2 ^ 62) ≤ n ∧ n < 2 ^ 62) (h : F n) : ∃ j : Int, [V.int n] = [.int j] ∧ -(2 ^ 62) ≤ j ∧ j < 2 ^ 62 ∧ F j := ⟨n, rfl, c.1, c.2, h⟩
theorem w_rI2 {n m : Int} {F : Int → Int → Prop} (c : -(2 ^ 62) ≤ n ∧ n < 2 ^ 62 ∧ -(2 ^ 62) ≤ m ∧ m < 2 ^ 62) (h : F n m) : ∃ i j : Int, [V.int n, V.int m] = [.int i, .int j] ∧ (-(2 ^ 62) ≤ i ∧ i < 2 ^ 62 ∧ -(2 ^ 62) ≤ j ∧ j < 2 ^ 62) ∧ F i j := ⟨n, m, rfl, c, h⟩
theorem w_iseq (h : te σ H fun x H1 => ∃ a, x = .ref a ∧ (((∃ xs, SqL K H1 a xs) ∧ R (Itl K a) H1) ∨ ((∃ xs, SqT K H1 a xs) ∧ R (Itt K a) H1))) : iSeq K te σ H R := h
theorem w_seqL {a : Addr} {xs : List V} {F G : Addr → Prop} (hp : H a = some (.lst xs)) (h : F a) : ∃ b, V.ref a = .ref b ∧ (((∃ xs, SqL K H b xs) ∧ F b) ∨ ((∃ xs, SqT K H b xs) ∧ G b)) := ⟨a, rfl, .inl ⟨⟨xs, SqL.of hp⟩, h⟩⟩
theorem w_seqT {a : Addr} {xs : List V} {F G : Addr → Prop} (hp : SqT K H a xs) (h : G a) : ∃ b, V.ref a = .ref b ∧ (((∃ xs, SqL K H b xs) ∧ F b) ∨ ((∃ xs, SqT K H b xs) ∧ G b)) := ⟨a, rfl, .inr ⟨⟨xs, hp⟩, h⟩⟩
theorem w_revR {tr : St → Hp → (Int → Int → Hp → Prop) → Prop} (h : tr σ H fun a b H1 => -(2 ^ 62) ≤ a ∧ a < 2 ^ 62 ∧ -(2 ^ 62) ≤ b ∧ b < 2 ^ 62 ∧ R (Itc (a + (((b - a).toNat : Nat) : Int) - 1) (-1) (b - a).toNat) H1) : iRevR tr σ H R := h
theorem w_rg1 {N : Int → Int → Hp → Prop} (h : te σ H fun x H1 => ∃ n, x = .int n ∧ N 0 n H1) : tRg1 te σ H N := h
theorem loop_range {lo : Int} {n : Nat} (Pv : Nat → St → Hp → Prop) (h0 : Pv 0 σ H)
    (hs : ∀ i σ H, i < n → Pv i σ H → g (.int (lo + i)) σ H fun σ2 H2 => tb { D with nx := Pv (i + 1), ct := Pv (i + 1), bk := D.nx } σ2 H2) (hd : ∀ σ H, Pv n σ H → D.nx σ H) : LoopR (Itr lo n) g tb D σ H := for_range Pv h0 hs hd
theorem loop_rangeC {lo c : Int} {n : Nat} (Pv : Nat → St → Hp → Prop) (h0 : Pv 0 σ H)
    (hs : ∀ i σ H, i < n → Pv i σ H → g (.int (lo + (i : Nat) * c)) σ H fun σ2 H2 => tb { D with nx := Pv (i + 1), ct := Pv (i + 1), bk := D.nx } σ2 H2) (hd : ∀ σ H, Pv n σ H → D.nx σ H) : LoopR (Itc lo c n) g tb D σ H := for_rangeC Pv h0 hs hd
theorem loop_list {a : Addr} {xs : List V} (Pv : Nat → St → Hp → Prop) (h0 : Pv 0 σ H) (hl : ∀ i σ H, i ≤ xs.length → Pv i σ H → H a = some (.lst xs))
    (hs : ∀ i x σ H, xs[i]? = some x → Pv i σ H → g x σ H fun σ2 H2 => tb { D with nx := Pv (i + 1), ct := Pv (i + 1), bk := D.nx } σ2 H2) (hd : ∀ σ H, Pv xs.length σ H → D.nx σ H) : LoopR (Itl K a) g tb D σ H :=
  for_list Pv h0 (fun i σ H c p => SqL.of (hl i σ H c p)) hs hd
theorem loop_tup {a : Addr} {xs : List V} (Pv : Nat → St → Hp → Prop) (h0 : Pv 0 σ H) (hl : ∀ i σ H, i ≤ xs.length → Pv i σ H → SqT K H a xs)
    (hs : ∀ i x σ H, xs[i]? = some x → Pv i σ H → g x σ H fun σ2 H2 => tb { D with nx := Pv (i + 1), ct := Pv (i + 1), bk := D.nx } σ2 H2) (hd : ∀ σ H, Pv xs.length σ H → D.nx σ H) : LoopR (Itt K a) g tb D σ H :=
  for_tup Pv h0 hl hs hd
/-! comprehensions -/
def CompR (J : It) (g : TG) (tt : TT) (te : TE) (vs : List Nat) (Q : VK) (σ : St) (H1 : Hp) : Prop := ∀ E, H1 E = none → ∃ W : Nat → Nat → Hp → Prop, (∃ m, W 0 m (upd H1 E (.lst []))) ∧ ∀ i m H, W i m H →
  (J.stop i H ∧ Q (.ref E) H) ∨ (J.go i H ∧ ∃ Nx : Hp → Prop, (∀ H', Nx H' → ∃ m', m' < m ∧ W (i + 1) m' H') ∧ ∀ x H', J.yld i H x H' → g x (wipe σ vs) H' fun σ2 H2 => wipe σ2 vs = wipe σ vs ∧ tt σ2 H2 fun b H3 =>
    if b = true then te σ2 H3 fun y H4 => ∃ acc, H4 E = some (.lst acc) ∧ acc.length < sizeLine ∧ Nx (upd H4 E (.lst (acc ++ [y]))) else Nx H3)
theorem w_lc {tt : TT} {vs : List Nat} (h : wi σ H fun J H1 => CompR J g tt te vs Q σ H1) : tLc wi g tt te vs σ H Q := h
theorem comp_range {lo : Int} {n : Nat} {tt : TT} {vs : List Nat} (Pv : Addr → Nat → Hp → Prop) (h0 : ∀ E, H E = none → Pv E 0 (upd H E (.lst [])))
    (hs : ∀ E, H E = none → ∀ i H', i < n → Pv E i H' → g (.int (lo + i)) (wipe σ vs) H' fun σ2 H2 => wipe σ2 vs = wipe σ vs ∧ tt σ2 H2 fun b H3 =>
      if b = true then te σ2 H3 fun y H4 => ∃ acc, H4 E = some (.lst acc) ∧ acc.length < sizeLine ∧ Pv E (i + 1) (upd H4 E (.lst (acc ++ [y]))) else Pv E (i + 1) H3)
    (hd : ∀ E, H E = none → ∀ H', Pv E n H' → Q (.ref E) H') : CompR (Itr lo n) g tt te vs Q σ H := fun E hE => lc_range (Pv E) (h0 E hE) (hs E hE) (hd E hE)
theorem comp_list {a : Addr} {xs : List V} {tt : TT} {vs : List Nat} (Pv : Addr → Nat → Hp → Prop) (h0 : ∀ E, H E = none → Pv E 0 (upd H E (.lst []))) (hl : ∀ E, H E = none → ∀ i H', i ≤ xs.length → Pv E i H' → H' a = some (.lst xs))
    (hs : ∀ E, H E = none → ∀ i x H', xs[i]? = some x → Pv E i H' → g x (wipe σ vs) H' fun σ2 H2 => wipe σ2 vs = wipe σ vs ∧ tt σ2 H2 fun b H3 =>
      if b = true then te σ2 H3 fun y H4 => ∃ acc, H4 E = some (.lst acc) ∧ acc.length < sizeLine ∧ Pv E (i + 1) (upd H4 E (.lst (acc ++ [y]))) else Pv E (i + 1) H3)
    (hd : ∀ E, H E = none → ∀ H', Pv E xs.length H' → Q (.ref E) H') : CompR (Itl K a) g tt te vs Q σ H := fun E hE => lc_list (Pv E) (h0 E hE) (fun i H' c p => SqL.of (hl E hE i H' c p)) (hs E hE) (hd E hE)
theorem comp_tup {a : Addr} {xs : List V} {tt : TT} {vs : List Nat} (Pv : Addr → Nat → Hp → Prop) (h0 : ∀ E, H E = none → Pv E 0 (upd H E (.lst []))) (hl : ∀ E, H E = none → ∀ i H', i ≤ xs.length → Pv E i H' → SqT K H' a xs)
    (hs : ∀ E, H E = none → ∀ i x H', xs[i]? = some x → Pv E i H' → g x (wipe σ vs) H' fun σ2 H2 => wipe σ2 vs = wipe σ vs ∧ tt σ2 H2 fun b H3 =>
      if b = true then te σ2 H3 fun y H4 => ∃ acc, H4 E = some (.lst acc) ∧ acc.length < sizeLine ∧ Pv E (i + 1) (upd H4 E (.lst (acc ++ [y]))) else Pv E (i + 1) H3)
    (hd : ∀ E, H E = none → ∀ H', Pv E xs.length H' → Q (.ref E) H') : CompR (Itt K a) g tt te vs Q σ H := fun E hE => lc_tup (Pv E) (h0 E hE) (hl E hE) (hs E hE) (hd E hE)
theorem w_yes {R : Bool → Hp → Prop} (h : R true H) : tYes σ H R := h
end
end Q


namespace Q
open PySem L2
/-- the wrapper of ValueError.__init__ is called -/
theorem call_mw {prog : Program} {w : World} {A : Around} {E : Value → Shared → Prop} {Q : Value → Shared → Prop} {K : PySem.W.Frag} {C u a t1 : Addr} {d : Option Addr} {rest : List Value} {hh : Heap} {g : Array GenState} {dr : Drawn} {tk : Nat} {os : OsState}
    (T : OexC K C) (X : K.In hh) (hu : hh.get? u = some (PySem.W.kxs_mw "ValueError.__init__" a)) (he : hh.get? a = some ({ cls := .ref C, dict := d, data := .fields #[.ref t1, .none, .none, .none, .bool false, .none] } : Obj)) (hz : rest.length ≤ sizeLine)
    (hq : ∀ h' t2, (∀ b o, b ≠ a → hh.get? b = some o → h'.get? b = some o) → h'.get? a = some ({ cls := .ref C, dict := d, data := .fields #[.ref t2, .none, .none, .none, .bool false, .none] } : Obj) → Q .none ⟨h', g, dr, tk, os⟩) :
    wpAny (model prog w) A (call (.ref u) rest) Q E ⟨hh, g, dr, tk, os⟩ := by
  obtain ⟨nm, q, N, bs, bm, sn, sub, ab, col, dd, k0, k1, k2, k3, k5, hC, hbm⟩ := T.cls
  have hC' := X _ _ hC
  refine wpAny_call (codeAny_of_tree ?_)
  show wpAny _ A.in1 (callAny (.ref u) ⟨rest, []⟩) _ _ _
  unfold callAny
  refine wpAny_bind (wpAny_load hu ?_)
  simp only [PySem.W.kxs_mw, show (Value.type "method-wrapper" == Value.type "method" || Value.type "method-wrapper" == Value.type "builtin_function_or_method" || Value.type "method-wrapper" == Value.type "method-wrapper") = true by decide, if_true]
  refine PySem.W.KFB.if_so (by decide) ?_
  refine wpAny_bind (PySem.W.check_bound_init F.excBase_ValueError.toExcCallFacts hC' he rfl ?_)
  refine wpAny_bind (wpAny_pure (wpAny_pure ?_))
  refine ⟨plainId_quiet F.excBase_ValueError.init.plain _, codeAny_builtin F.excBase_ValueError.initEntry ?_⟩
  exact PySem.W.exc_init_tree (cls := .ref C) (t0 := t1) (dv := d) (c2 := .none) (c3 := .none) (b4 := .bool false) he hz fun h' k e1 _ => hq h' _ k e1

/-- what the top has written of an own error: class C, its __init__ at fI, of the parameters self and ps; st: the text of __init__ -/
structure ErrC (P : Program) (K : PySem.W.Frag) (C fI : Addr) (qual : Str) (params : Arguments) (body : List Stmt) (scope : Scope) (N : List Str) (fd : FuncData) : Prop where
  T : OexC K C
  ex : ∃ (oc : Value) (od : Option Addr) (osl : Array (Option Value)) (kV doc pm ct : Value) (an : Option Addr) (cda cc : Addr) (ccl : Value) (cdd : Option Addr) (vs : Array Value) (ccs : Array (Option Value)) (file : Str) (tf : Tok) (cl : Value) (cld : Option Addr) (csl : Array (Option Value)) (cd : ClassData),
    fd = PySem.W.ksFn "__init__" qual params body scope .none kV doc pm an (.ref cda) ct cc ∧
    K.lookup fI = some ⟨oc, od, .func (PySem.W.ksFn "__init__" qual params body scope .none kV doc pm an (.ref cda) ct cc), osl⟩ ∧ PySem.W.codeIn K (.ref cda) qual = true ∧
    K.lookup cda = some ⟨ccl, cdd, .fields vs, ccs⟩ ∧ vs[2]? = some (.str file tf) ∧ ((P.main.file : Str) == file) = true ∧
    K.lookup cc = some ⟨cl, cld, .cell (some (.ref C)), csl⟩ ∧ PySem.W.clsIn K C = some cd
  sub : PySem.W.mroIn K C (.ref C) = some true
  sup : PySem.W.nsIn K mainGlobals "super" = some none
  opq : PySem.W.nsIn K cStatics "thirdparty.any" = some none
  sin : PySem.W.ks_superIn K C C "__init__" = some (some (.builtin "ValueError.__init__"))
  ve : PySem.W.subIn K (.ref C) (.type "ValueError") = some true
  top : (P.main.scope.names.lookup ("super" : Str)).isSome = false
  hp : ∃ ar : Arg, (params.posonlyargs ++ params.args).head? = some ar ∧ ar.arg = "self"
  ks : scope.names.lookup ("super" : Str) = some .globalImplicit
  kc : scope.names.lookup ("__class__" : Str) = some .free
  kf : ∀ x, (scope.names.lookup x = some .cell ∨ scope.names.lookup x = some .free) → x = "__class__"
  nc : ∀ x ∈ scope.names, x.2 ≠ .cell
  loc : ∀ x ∈ N, scope.names.lookup x = some .local
  self : N[0]? = some ("self" : Str)
  nd : N.Nodup
  co : scope.isCoroutine = false
  gen : scope.isGenerator = false
  kind : scope.kind = .function
/-- the context of such an __init__ -/
def cxI (CX : CXT) (P : Program) (w : World) (K : PySem.W.Frag) (mg : Str → Option Value) (base : Heap) (N : List Str) (env : Env) (A : Around) (outer : List Env) (s : Shared) (H : Hp) (E : XK) : Cx where
  prog := P
  w := w
  K := K
  mg := mg
  base := base
  A := A.deeper env
  N := N
  s_0 := s
  H_0 := H
  env := env
  outer := outer
  stack := env :: outer
  ex := []
  calm := true
  fn := fun _ => false
  pn := []
  xe := fun e s' => wpAny (model P w) (A.deeper env) (leaving env e) (fun _ s'' => CX outer H s E e s'') (fun e' s'' => CX outer H s E e' s'') s'
theorem zip_sub : ∀ (ps : List Str) (us : List Value), ((ps.zip us).map (·.1)).Sublist ps
  | [], _ => by simp
  | _ :: _, [] => by simp
  | p :: ps, u :: us => by
    rw [List.zip_cons_cons, List.map_cons]
    exact (zip_sub ps us).cons_cons p
theorem zip_rev {ps : List Str} {us : List Value} {i : Nat} {x : Str} {u : Value} (nd : ps.Nodup) (h1 : ps[i]? = some x) (h2 : us[i]? = some u) : (ps.zip us).reverse.lookup x = some u := by
  have key : ∀ (l : List (Str × Value)), (l.map (·.1)).Nodup → (x, u) ∈ l → l.lookup x = some u := by
    intro l
    induction l with
    | nil => intro _ h; simp at h
    | cons p l ih =>
      intro hn hm
      obtain ⟨y, v⟩ := p
      rw [List.map_cons, List.nodup_cons] at hn
      rw [List.lookup_cons]
      rcases List.mem_cons.mp hm with e | hm
      · cases e; simp
      · have hxy : x ≠ y := fun z => hn.1 (z ▸ List.mem_map.mpr ⟨(x, u), hm, rfl⟩)
        have : (x == y) = false := by simpa using hxy
        rw [this]
        exact ih hn.2 hm
  apply key
  · rw [List.map_reverse]
    refine (List.reverse_perm _).nodup_iff.mpr ?_
    exact nd.sublist (zip_sub ps us)
  · rw [List.mem_reverse]
    exact List.mem_of_getElem? (i := i) (List.getElem?_zip_eq_some.mpr ⟨h1, h2⟩)
theorem inv_init {CX : CXT} {P : Program} {w : World} {K : PySem.W.Frag} {mg : Str → Option Value} {base : Heap} {N : List Str} {qual : Str} {scope : Scope} {f : Addr} {cd : Value} {cc : Addr} {A : Around} {outer : List Env} {s : Shared} {H : Hp} {E : XK} {us : List Value} {vs : List V} {h0 : Heap} {t : Nat} {oc : Obj} {cv : Option Value}
    (kf : ∀ x, (scope.names.lookup x = some .cell ∨ scope.names.lookup x = some .free) → x = "__class__") (loc : ∀ x ∈ N, scope.names.lookup x = some .local) (nd : N.Nodup) (kind : scope.kind = .function) (hcc : K.lookup cc = some oc) (hoc : oc.data = .cell cv)
    (hd : A.handled = none) (e0 : Env0 P w K mg base A outer s H) (hl : vs.length = N.length) (r : Vals vs us) (hns : h0.Ns s.heap.objs.size (fun x => (N.zip us).reverse.lookup x)) (hk : ∀ b o, s.heap.get? b = some o → h0.get? b = some o) :
    Inv (cxI CX P w K mg base N (PySem.W.ksEnv qual scope s.heap.objs.size f cd cc) A outer s H E) [] (vs.map some) H { s with heap := h0, toks := t } := by
  have noA : ∀ b : Addr, b ∉ (cxI CX P w K mg base N (PySem.W.ksEnv qual scope s.heap.objs.size f cd cc) A outer s H E).ex := fun b z => absurd (show b ∈ ([] : List Addr) from z) (by simp)
  have hlk : ∀ y c, ([(("__class__" : Str), cc)] : List (Str × Addr)).lookup y = some c → y = "__class__" ∧ c = cc := by
    intro y c h
    rw [List.lookup_cons] at h
    cases hy : (y == ("__class__" : Str)) with
    | true => rw [hy] at h; cases h; exact ⟨by simpa using hy, rfl⟩
    | false => rw [hy] at h; cases h
  have hb : base.get? cc = some oc := e0.mod.kin _ _ hcc
  refine ⟨⟨e0.mod, kind, rfl, rfl, Nat.le_refl _, fun y z c h1 h2 => ?_, fun y hy => ?_, fun y c h _ => (by cases h), fun _ => hd, Around.frames_deeper e0.frames, .inr ⟨rfl, rfl⟩, fun b z => absurd z (noA b), e0.bs, e0.bsz, fun b _ _ => noA b, fun b z => absurd z (noA b), e0.funs, e0.frf⟩,
    rfl, e0.bare, Un.kept hk, ⟨_, hns, fun i y v h1 h2 h3 => ?_⟩, fun y c h => ?_, e0.hok.fresh (Nat.le_refl _), fun y c h => ?_, fun p hp => absurd (show p ∈ ([] : List (Addr × Obj)) from hp) (by simp), e0.hok.kept hk, by simp [hl]; rfl⟩
  · rw [(hlk y c h1).1, (hlk z c h2).1]
  · exact ⟨cc, by rw [kf y hy]; rfl⟩
  · have h1' : N[i]? = some y := h1
    have h2' : vs[i]? = some v := by
      rw [List.getElem?_map] at h2
      cases e : vs[i]? with
      | none => rw [e] at h2; cases h2
      | some a => rw [e] at h2; cases h2; rfl
    obtain ⟨u, hu, rv⟩ := r.get h2'
    exact ⟨u, rv, .inl ⟨loc y (List.mem_of_getElem? h1'), zip_rev nd h1' hu⟩⟩
  · rw [(hlk y c h).2]
    exact ⟨cv, oc, hk _ _ (e0.bs _ _ hb).1, hoc⟩
  · rw [(hlk y c h).2]
    exact (e0.bs _ _ hb).2
theorem fn_init {CX : CXT} {P : Program} {w : World} {K : PySem.W.Frag} {mg : Str → Option Value} {base : Heap} {C fI : Addr} {qual : Str} {params : Arguments} {rest : List Stmt} {scope : Scope} {N : List Str} {fd : FuncData} {p0 p1 p2 p3 p4 p5 : Pos} {msg : Str} {j : Nat} {k : Nat} {sp : Sp}
    (EC : ErrC P K C fI qual params (.Expr (.Call (.Attribute (.Call (.Name "super" p0) [] [] p1) "__init__" p2) [.Constant (.str msg) j p3] [] p4) p5 :: rest) scope N fd) (len : ∀ vs H Q E, sp vs H Q E → vs.length = N.length)
    {pl : Addr → Addr → Addr → Sem Bool} (hi : ∀ L cda cc : Addr, interactive (PySem.W.ksEnv qual scope L fI (.ref cda) cc) = false)
    (he : ∀ L cda cc : Addr, eval (.Call (.Attribute (.Call (.Name "super" p0) [] [] p1) "__init__" p2) [.Constant (.str msg) j p3] [] p4) (PySem.W.ksEnv qual scope L fI (.ref cda) cc) = (do
      let ov ← attributeBase (.Call (.Name "super" p0) [] [] p1) "__init__" (PySem.W.ksEnv qual scope L fI (.ref cda) cc) (eval (.Call (.Name "super" p0) [] [] p1) (PySem.W.ksEnv qual scope L fI (.ref cda) cc))
      standAt p2.atName
      let (f, first) ← holding [ov] (getMethod ov "__init__" (pl L cda cc))
      callWith p4 f first (backTo p4 (starEach [.Constant (.str msg) j p3] (PySem.W.ksEnv qual scope L fI (.ref cda) cc))) []))
    (hb : ∀ (L cda cc : Addr) (A : Around) (outer : List Env) (s : Shared) (H : Hp) (vs : List V) (Q : VK) (E : XK), Room k (A.deeper (PySem.W.ksEnv qual scope L fI (.ref cda) cc)) → sp vs H Q E → ∃ (t : TS) (a : Addr) (ws : List V), PSs (cxI CX P w K mg base N (PySem.W.ksEnv qual scope L fI (.ref cda) cc) A outer s H E) rest t ∧ vs = .ref a :: ws ∧ H a = some (exo a C none) ∧ t { nx := fun _ H' => Q .non H', rt := Q } (vs.map some) H) :
    FnOk P w K mg base CX (k + 1) fI fd N sp := by
  obtain ⟨oc, od, osl, kV, doc, pm, ct, an, cda, cc, ccl, cdd, vs0, ccs, file, tf, cl, cld, csl, cd, rfl, hf, hcd, hcode, hvs, hfile, hcell, hcd2⟩ := EC.ex
  obtain ⟨ar, har, hself⟩ := EC.hp
  refine ⟨len, fun A outer s H args us vs Q E hr e0 hbd r hsp => ?_⟩
  have KX : K.In s.heap := e0.mod.kin.keeps fun b o e => (e0.bs b o e).1
  have lim : s.heap.NoLimit := e0.mod.nolimit.keeps fun b o e => (e0.bs b o e).1
  have hl := len _ _ _ _ hsp
  refine PySem.ks_codeAny_call_defAt (fd := PySem.W.ksFn "__init__" qual params _ scope .none kV doc pm an (.ref cda) ct cc) (binds := N.zip us) (by have := hr.dp; omega) (KX _ _ hf) rfl lim (PySem.W.codeRec_of KX hcd) rfl hbd EC.nc (fun x hx => EC.loc x.1 (List.of_mem_zip hx).1) (fun h0 hns hk => ?_) EC.co EC.gen EC.kind
  obtain ⟨t, a, ws, hps, rfl, ha, ht⟩ := hb s.heap.objs.size cda cc A outer s H vs Q E (hr.deeper _) hsp
  have I := inv_init (CX := CX) (E := E) (qual := qual) (f := fI) (cd := .ref cda) (t := s.toks + (N.zip us).length) EC.kf EC.loc EC.nd EC.kind hcell rfl hr.hd e0 hl r hns hk
  obtain ⟨hh, gg, dd, tt, oo⟩ := s
  have KX0 : K.In h0 := KX.keeps hk
  obtain ⟨t1, hobj⟩ := exo_at I.hok ha
  have hobj : h0.get? a = some ({ cls := .ref C, dict := none, data := .fields #[.ref t1, .none, .none, .none, .bool false, .none] } : Obj) := hobj
  obtain ⟨oD, hD1, hD2⟩ : ∃ oD, h0.get? C = some oD ∧ oD.data = .cls cd := by
    have hcd3 := hcd2
    unfold PySem.W.clsIn at hcd3
    split at hcd3
    · rename_i ho
      cases hcd3
      exact ⟨_, KX0 _ _ ho, rfl⟩
    · cases hcd3
  have hu0 : us[0]? = some (Value.ref a) := by
    cases r with
    | cons r1 _ => cases r1; rfl
  have hm0 : (N.zip us).reverse.lookup ("self" : Str) = some (Value.ref a) := zip_rev EC.nd EC.self hu0
  have hmg : mg "super" = none := PySem.W.mg_none_of e0.mod.kin e0.mod.glob EC.sup
  obtain ⟨mb, hb1, hb2⟩ := I.mod.blt
  refine PySem.ks_wpAt_execs_cons (PySem.ks_wpAt_Expr_any (PySem.ks_wpAt_MethodCall (pl := pl hh.objs.size cda cc) ?_ (he hh.objs.size cda cc)) (hi hh.objs.size cda cc))
  refine PySem.ks_wpAt_super_base (env := PySem.W.ksEnv qual scope hh.objs.size fI (.ref cda) cc) EC.ks EC.kc (by decide) rfl (KX0 _ _ hf) rfl har rfl (KX0 _ _ hcode) rfl hvs hfile EC.top ?_
  refine PySem.W.ks_loadName_global EC.kind EC.ks (Calls.loadGlobal_builtin (env := PySem.W.ksEnv qual scope hh.objs.size fI (.ref cda) cc) (I.mod.glob.keeps I.bk) hmg (hb1.keeps I.bk) ((hb2 "super" (by decide)).trans (by decide +kernel)) ⟨rfl, ?_⟩)
  refine wpAny_loadName_free EC.kind EC.kc rfl ⟨_, KX0 _ _ hcell, rfl⟩ ?_
  rw [hself]
  refine wpAny_loadName_local EC.kind (EC.loc "self" (List.mem_of_getElem? EC.self)) hns hm0 ?_
  refine ks_wpAny_isType_cls hD1 hD2 ⟨rfl, ?_⟩
  refine ks_wpAny_call_super hD1 hD2 hobj rfl (fun c e => by cases e) (PySem.W.looks_mroIn KX0 EC.sub) (fun h1 e1 k1 => ?_)
  have KX1 : K.In h1 := KX0.keeps k1
  have I1 := I.kept (h' := h1) (t' := tt + (N.zip us).length) k1
  have hin : PySem.W.InstAt h1 a ({ cls := .ref C, dict := none, data := .fields #[.ref t1, .none, .none, .none, .bool false, .none] } : Obj) C none := ⟨k1 _ _ hobj, rfl, rfl, trivial⟩
  have hal : PySem.W.alongIn K "__init__" ((cd.mro.dropWhile (· != .ref C)).drop 1) = some (some (.builtin "ValueError.__init__")) := by
    have := EC.sin
    unfold PySem.W.ks_superIn at this
    rw [hcd2] at this
    exact this
  refine PySem.W.kxs_getMethod PySem.W.kxs_ValueError e1 (PySem.W.looks_opaque KX1 EC.opq) (l₀ := cd.mro) ?_ rfl KX1 hal (hin.type.andThen (PySem.W.looks_subIn KX1 EC.ve)) (PySem.W.ks_ne KX1 hin hcd2) (by decide) ?_
  · exact fun A Q E s k q => wpAny_bind ((PySem.W.looks_clsIn KX1 hcd2) A _ E s k (wpAny_pure q))
  have k2 : ∀ b o, h1.get? b = some o → (h1.push (PySem.W.kxs_mw "ValueError.__init__" a)).get? b = some o := fun b o e => Heap.get?_push_of_some _ e
  have hu2 : (h1.push (PySem.W.kxs_mw "ValueError.__init__" a)).get? h1.objs.size = some (PySem.W.kxs_mw "ValueError.__init__" a) := Heap.get?_push_size _ rfl
  have I2 := I1.kept (h' := h1.push (PySem.W.kxs_mw "ValueError.__init__" a)) (t' := tt + (N.zip us).length + 1) k2
  have hpa : PA (cxI CX P w K mg base N (PySem.W.ksEnv qual scope hh.objs.size fI (.ref cda) cc) A outer ⟨hh, gg, dd, tt, oo⟩ H E) [.Constant (.str msg) j p3] (tCons (tC (.str msg)) tNil) := pa_cons pe_str pa_nil
  show wpAny _ _ (callWith p4 (.ref h1.objs.size) [] (backTo p4 (starEach [.Constant (.str msg) j p3] (PySem.W.ksEnv qual scope hh.objs.size fI (.ref cda) cc))) []) _ _ _
  have I3 := I2.pins_of (pins' := [(h1.objs.size, PySem.W.kxs_mw "ValueError.__init__" a)]) fun p hp => by
    rw [List.mem_singleton] at hp
    subst hp
    exact ⟨hu2, I1.hok.fresh (Nat.le_refl _), Nat.ne_of_gt I1.lt, I1.nofs (Nat.le_refl _), fun v e => by cases e⟩
  refine PySem.W.kxs_callWith (i := "ValueError.__init__") (x := a) rfl (PySem.Calls.evalArgs_plain (thn (hpa.run p4 _ _ ((V.ref a :: ws).map some) H (fun vs H1 => vs = [V.str msg] ∧ H1 = H) I3 ⟨rfl, rfl⟩) fun us1 s3 h3 => ?_))
  obtain ⟨vs1, H1, J, r1, rfl, rfl⟩ := h3
  have hu3 := (J.pin (h1.objs.size, PySem.W.kxs_mw "ValueError.__init__" a) (by simp)).1
  have J0 := J.pins_of (pins' := []) (fun p hp => by simp at hp)
  obtain ⟨t3, hobj3⟩ := exo_at J0.hok ha
  obtain ⟨hh3, gg3, dd3, tt3, oo3⟩ := s3
  refine ⟨hu3, ?_⟩
  refine call_mw EC.T J0.kIn hu3 hobj3 (by have := Paired.length r1; rw [sizeLine_eq]; simp at this ⊢; omega) fun h4 t4 k4 e4 => ?_
  have J4 := J0.write (t' := tt3) (x := a) (e := a) (o := exo a C none) (by rw [ha]; exact True.intro) (.inl rfl) k4 ⟨_, e4⟩ (exo_ok e4)
  have eu : upd H1 a (exo a C none) = H1 := by
    funext b
    by_cases hb : b = a
    · rw [hb, upd_same, ha]
    · rw [upd_ne hb]
  rw [eu] at J4
  refine wpAt_of_wpAny ?_
  refine wpAny_mono (hps.run [] _ _ H1 _ J4 ht) (fun fl s' hs => ?_) fun e s' hs => hs
  have fin : ∀ {σ' : St} {H' : Hp} {v : V} {u : Value}, Inv (cxI CX P w K mg base N (PySem.W.ksEnv qual scope hh.objs.size fI (.ref cda) cc) A outer ⟨hh, gg, dd, tt, oo⟩ H1 E) [] σ' H' s' → RelV v u → Q v H' → CE outer P w H1 ⟨hh, gg, dd, tt, oo⟩ Q u s' :=
    fun {σ' H' v u} J rv q => ⟨v, H', J.os, J.bare, J.base, J.hok, rv, q⟩
  cases fl with
  | ret u =>
    obtain ⟨v, σ', H', J, rv, q⟩ := hs
    exact fin J rv q
  | next =>
    obtain ⟨σ', H', J, q⟩ := hs
    exact fin (v := V.non) (u := Value.none) J rfl q
  | brk =>
    obtain ⟨σ', H', J, q⟩ := hs
    exact q.elim
  | cont =>
    obtain ⟨σ', H', J, q⟩ := hs
    exact q.elim
end Q


namespace Q
open PySem PySem.Spec PyProof.Rows L2
/-! ### an own error's __init__ and its making -/
/-- what __init__ promises: the fields fs are set, in this order -/
def spI (C : Addr) (fs : List Str) : Sp := fun vs H Q _ => ∃ (a : Addr) (ws : List V), vs = .ref a :: ws ∧ ws.length = fs.length ∧ H a = some (exo a C none) ∧
  ∀ (dx : Addr) (H' : Hp), H dx = none → dx ≠ a → H' a = some (exo a C (some dx)) → H' dx = some (exd dx (fs.zip ws).reverse) → (∀ b, b ≠ a → b ≠ dx → H' b = H b) → Q .non H'
theorem spI_len {C : Addr} {fs N : List Str} (hN : N.length = fs.length + 1) : ∀ vs H Q E, spI C fs vs H Q E → vs.length = N.length := by
  rintro vs H Q E ⟨a, ws, rfl, hl, _⟩
  simp [hl, hN]
theorem init1 {K : PySem.W.Frag} {C : Addr} {f : Str} {vs : List V} {H : Hp} {Q : VK} {E : XK} (T : OexC K C) (h1 : PySem.W.findIn K (.ref C) f = some none) (h : spI C [f] vs H Q E) :
    ∃ (a : Addr) (ws : List V), vs = .ref a :: ws ∧ H a = some (exo a C none) ∧ tOst K f (tVar 0) (tVar 1) { nx := fun _ H' => Q .non H', rt := Q } (vs.map some) H := by
  obtain ⟨a, ws, rfl, hl, ha, hq⟩ := h
  match ws, hl with
  | [y], _ =>
    refine ⟨a, [y], rfl, ha, y, rfl, .ref a, rfl, a, C, rfl, T, h1, .inl ⟨ha, fun dx hd hne => hq dx _ hd hne upd_same ?_ fun b hb hb2 => ?_⟩⟩
    · rw [upd_ne hne, upd_same]; rfl
    · rw [upd_ne hb, upd_ne hb2]
theorem init2 {K : PySem.W.Frag} {C : Addr} {f g : Str} {vs : List V} {H : Hp} {Q : VK} {E : XK} (T : OexC K C) (h1 : PySem.W.findIn K (.ref C) f = some none) (h2 : PySem.W.findIn K (.ref C) g = some none) (h : spI C [f, g] vs H Q E) :
    ∃ (a : Addr) (ws : List V), vs = .ref a :: ws ∧ H a = some (exo a C none) ∧ tSeq (tOst K f (tVar 0) (tVar 1)) (tOst K g (tVar 0) (tVar 2)) { nx := fun _ H' => Q .non H', rt := Q } (vs.map some) H := by
  obtain ⟨a, ws, rfl, hl, ha, hq⟩ := h
  match ws, hl with
  | [y, z], _ =>
    refine ⟨a, [y, z], rfl, ha, y, rfl, .ref a, rfl, a, C, rfl, T, h1, .inl ⟨ha, fun dx hd hne => ⟨z, rfl, .ref a, rfl, a, C, rfl, T, h2, .inr ⟨dx, [(f, y)], upd_same, ?_, by simp, hq dx _ hd hne ?_ upd_same fun b hb hb2 => ?_⟩⟩⟩⟩
    · rw [upd_ne hne, upd_same]
    · rw [upd_ne (Ne.symm hne), upd_same]
    · rw [upd_ne hb2, upd_ne hb, upd_ne hb2]
/-- C(e, ..): an error with the fields fs -/
def tErr (C : Addr) (fs : List Str) (ta : TA) : L2.St → Hp → XK → Prop := fun σ H Q => ta σ H fun vs H1 => vs.length = fs.length ∧ ∀ d, H1 d = none → Q (.ref C) (some d) (upd H1 d (.xd (fs.zip vs).reverse))
section
variable {X : Cx} {e : Expr} {es : List Expr} {ta : TA} {p pos : Pos}
theorem pmk_err {CX : CXT} {x : Str} {C fI : Addr} {k : Nat} {fd : FuncData} {ps fs : List Str} (T : OexC X.K C) (iC : PySem.W.findIn X.K (.ref C) "__init__" = some (some (.ref fI))) (tI : PySem.W.typeIn X.K (.ref fI) = some (.type "function"))
    (F1 : FnOk X.prog X.w X.K X.mg X.base CX k fI fd ps (spI C fs)) (hr : Room (k + 1) X.A) (hb : Binds X.K fd ps []) (hx : Passes CX X (fun _ _ _ => False)) (hfs : fs.length ≤ 1000) (hg : Gl X x) (hm : X.mg x = some (.ref C)) (ha : PA X (e :: es) ta)
    (hdb : (x == ("__debug__" : Str)) = false := by decide) (he : starEach (e :: es) X.env = (false, eval e X.env) :: starEach es X.env := by rfl) (hpl : (backTo pos (starEach es X.env)).any (·.1) = false := by rfl) :
    L2N.PMk X (.Call (.Name x p) (e :: es) [] pos) (tErr C fs ta) := by
  intro pins s σ H Q I h
  obtain ⟨nm, q, N, bs, bm, sn, sub, ab, col, dd, k0, k1, k2, k3, k5, hC, hbm⟩ := T.cls
  refine wpAny_Call_Name_kw (ld_glob I hg hm ?_ hdb)
  refine PySem.W.callWith_K (h₀ := X.base) I.ok.mod.kin T.kC (thn (ha.run pos pins s σ H _ I h) fun us s1 ⟨vs, H1, I1, r1, hz, q1⟩ => ⟨I1.kIn, ?_⟩) he hpl
  show wpAny _ _ (call (.ref C) us) _ _ _
  obtain ⟨hp, g, dr, tk, os⟩ := s1
  have hsz : hp.objs.size ≤ hp.objs.size + 1 := Nat.le_succ _
  have hn : H1 (hp.objs.size + 1) = none := I1.hok.fresh hsz
  have kk : ∀ b o, hp.get? b = some o → ((hp.push (PySem.W.kdv_tup us)).push (PySem.HandSPX.excO C hp.objs.size)).get? b = some o := fun b o e => Heap.get?_push_of_some _ (Heap.get?_push_of_some _ e)
  have hget : ((hp.push (PySem.W.kdv_tup us)).push (PySem.HandSPX.excO C hp.objs.size)).get? (hp.objs.size + 1) = some (PySem.HandSPX.excO C hp.objs.size) := by heap_get
  have I2 : Inv X pins σ (upd H1 (hp.objs.size + 1) (exo (hp.objs.size + 1) C none)) ⟨(hp.push (PySem.W.kdv_tup us)).push (PySem.HandSPX.excO C hp.objs.size), g, dr, tk, os⟩ :=
    I1.laid (t' := tk) (a := hp.objs.size + 1) (o := exo (hp.objs.size + 1) C none) (h' := (hp.push (PySem.W.kdv_tup us)).push (PySem.HandSPX.excO C hp.objs.size)) kk hsz (exo_ok hget)
  have r2 : Vals (V.ref (hp.objs.size + 1) :: vs) (Value.ref (hp.objs.size + 1) :: us) := .cons rfl r1
  -- what __init__ promises, and what is left
  have hq : spI C fs (V.ref (hp.objs.size + 1) :: vs) (upd H1 (hp.objs.size + 1) (exo (hp.objs.size + 1) C none)) (fun v H2 => v = .non ∧ ∃ d, H2 (hp.objs.size + 1) = some (exo (hp.objs.size + 1) C (some d)) ∧ H2 d = some (exd d (fs.zip vs).reverse) ∧ H1 d = none ∧ Q (.ref C) (some d) (upd (del H2 (hp.objs.size + 1)) d (.xd (fs.zip vs).reverse))) (fun _ _ _ => False) := by
    refine ⟨_, vs, rfl, hz, upd_same, fun dx H' hd hne e1 e2 e3 => ⟨rfl, dx, e1, e2, ?_, ?_⟩⟩
    · rw [upd_ne hne] at hd; exact hd
    · have hd1 : H1 dx = none := by rw [upd_ne hne] at hd; exact hd
      have : upd (del H' (hp.objs.size + 1)) dx (.xd (fs.zip vs).reverse) = upd H1 dx (.xd (fs.zip vs).reverse) := by
        funext b
        by_cases hb : b = dx
        · rw [hb, upd_same, upd_same]
        · rw [upd_ne hb, upd_ne hb]
          by_cases hba : b = hp.objs.size + 1
          · rw [hba, del_same, hn]
          · rw [del_ne hba, e3 b hba hb, upd_ne hba]
      rw [this]
      exact q1 dx hd1
  have hl : (Value.ref (hp.objs.size + 1) :: us ++ []).length = ps.length := by
    have e := r2.length
    rw [F1.len _ _ _ _ hq] at e
    rw [List.append_nil]
    exact e.symm
  have hus : us.length ≤ sizeLine := by
    rw [← Paired.length r1, sizeLine_eq]
    omega
  have bd := hb ⟨(hp.push (PySem.W.kdv_tup us)).push (PySem.HandSPX.excO C hp.objs.size), g, dr, tk, os⟩ (Value.ref (hp.objs.size + 1) :: us) I2.kIn hl
  rw [List.append_nil] at bd
  refine wpAny_call (PySem.HandSPX.call_own F.excBase_ValueError (fun Y => PySem.HandSPX.refsVE_contains Y bm hbm) (I1.kIn _ _ hC) (PySem.W.looks_findIn I1.kIn iC) (fun self => PySem.W.bind_fn I1.kIn self tI) hus
    (codeAny_mono (F1.run _ X.stack _ _ ⟨Value.ref (hp.objs.size + 1) :: us, []⟩ (Value.ref (hp.objs.size + 1) :: us) _ _ (fun _ _ _ => False) (hr.make C us []) (I2.env0.make C us []) bd r2 hq) fun r s' hq' => ?_))
  cases r with
  | error er => exact hx pins σ _ _ er s' I2 hq'
  | ok fl =>
    cases fl with
    | ret u =>
      obtain ⟨v, H2, os2, bare2, un2, hok2, rv, ev, d, ea, ed, hd1, q2⟩ := hq'
      subst ev
      obtain ⟨h2, g2, d2, t2, os'⟩ := s'
      obtain ⟨t0, G, J, kG, ge, hoe, na⟩ := mk_end0 (d2 := d2) (t2 := t2) I1 hsz kk un2 hok2 os2 bare2 ea ed hd1
      exact ⟨rv, _, _, _, ⟨G, g2, d2, t2, os'⟩, _, .ref C, some d, rfl, J, kG, ge, hoe, ⟨rfl, rfl, fun vs e => by cases e; rfl⟩, rfl, rfl, na, rfl, bare2, raises_own T.exC T.tyC, q2⟩
    | next => exact False.elim hq'
    | brk => exact False.elim hq'
    | cont => exact False.elim hq'
end
theorem takes0N {X : Cx} : L2N.Takes X (fun _ _ _ _ => False) := fun _ _ x => by
  obtain ⟨_, _, _, _, _, _, _, _, _, _, _, _, _, _, _, _, z⟩ := x
  exact z.elim
theorem passesN {X : Cx} : Passes (L2N.CX X.prog X.w) X (fun _ _ _ => False) := fun _ _ _ _ _ _ _ h => by
  obtain ⟨_, _, _, _, _, _, _, _, _, _, _, _, z⟩ := h
  exact z.elim
/-! ### defs -/
section
variable {P : Program} {w : World} {K : PySem.W.Frag} {mg : Str → Option Value} {base : Heap}
theorem Fun.okN {CX : CXT} {x qual : Str} {st : Stmt} {f : Addr} {fd : FuncData} {N ps : List Str} {k : Nat} {sp : Sp} (F : Fun K x qual st f fd) (S : FnScope N ps (defScope st)) (len : ∀ vs H Q E, sp vs H Q E → vs.length = ps.length)
    (hbody : ∀ (cdv : Value) (A : Around) (outer : List PySem.Env) (s : Shared) (H : Hp) (vs : List V) (Q : VK) (E : XK), Room k (A.deeper (envOfC qual (defScope st) s.heap.objs.size f cdv)) → sp vs H Q E →
      ∃ t, PSs (cxOf CX P w K mg base N qual (defScope st) f cdv A outer s H E) (defBody st) t ∧ t { nx := fun _ H' => Q .non H', rt := Q } (start N vs) H) : FnOk P w K mg base CX (k + 1) f fd ps sp := by
  obtain ⟨oc, od, kV, doc, pm, an, cdv, ct, osl, rfl, lk, hcd⟩ := F.ex
  exact fn_of lk hcd S len fun A outer s H vs Q E hr hsp => hbody cdv A outer s H vs Q E hr hsp
theorem Fun.okH {CX : CXT} {x qual : Str} {st : Stmt} {f : Addr} {fd : FuncData} {N ps : List Str} {k : Nat} {sp : Sp} (F : Fun K x qual st f fd) (S : FnScope N ps (defScope st)) (len : ∀ vs H Q E, sp vs H Q E → vs.length = ps.length)
    (hbody : ∀ (cdv : Value) (A : Around) (outer : List PySem.Env) (s : Shared) (H : Hp) (vs : List V) (Q : VK) (E : XK) (p : Addr × Obj), L2H.Hot1 A p → L2H.RoomH k (A.deeper (envOfC qual (defScope st) s.heap.objs.size f cdv)) → sp vs H Q E →
      ∃ t, PSs (L2H.cxH CX P w K mg base N qual (defScope st) f cdv A outer s H E p) (defBody st) t ∧ t { nx := fun _ H' => Q .non H', rt := Q } (start N vs) H) : L2H.FnH P w K mg base CX (k + 1) f fd ps sp := by
  obtain ⟨oc, od, kV, doc, pm, an, cdv, ct, osl, rfl, lk, hcd⟩ := F.ex
  exact L2H.fn_ofH lk hcd S len fun A outer s H vs Q E p hot hr hsp => hbody cdv A outer s H vs Q E p hot hr hsp
end
end Q


namespace Q
open PySem L2
/-- the written part, and the classes by name -/
structure KC where
  F : PySem.W.Frag
  cv : Nat → Value
instance : Coe KC PySem.W.Frag := ⟨KC.F⟩
/-! ### what is kept -/
structure Kp (ps : Addr → Prop) (H H' : Hp) : Prop where
  get : ∀ b o, ¬ ps b → H b = some o → H' b = some o
  dom : ∀ b, H' b = none → H b = none
section
variable {ps qs : Addr → Prop} {H H1 H2 : Hp} {p : Addr} {o : HO}
theorem upd_none {b : Addr} (h : upd H p o b = none) : H b = none ∧ b ≠ p := by
  by_cases e : b = p
  · subst e; rw [upd_same] at h; cases h
  · rw [upd_ne e] at h; exact ⟨h, e⟩
theorem Kp.refl : Kp ps H H := ⟨fun _ _ _ h => h, fun _ h => h⟩
theorem Kp.trans (a : Kp ps H H1) (b : Kp ps H1 H2) : Kp ps H H2 := ⟨fun c o n h => b.get c o n (a.get c o n h), fun c h => a.dom c (b.dom c h)⟩
theorem Kp.new (h : H p = none) : Kp ps H (upd H p o) := ⟨fun b u _ e => by rw [upd_ne (ne_of_none e h)]; exact e, fun b e => (upd_none e).1⟩
theorem Kp.mut (h : ps p) : Kp ps H (upd H p o) := ⟨fun b u n e => by
  have hb : b ≠ p := fun z => by subst z; exact n h
  rw [upd_ne hb]; exact e, fun b e => (upd_none e).1⟩
theorem Kp.more (a : Kp ps H H1) (h : ∀ x, ps x → qs x) : Kp qs H H1 := ⟨fun b u n e => a.get b u (fun z => n (h b z)) e, a.dom⟩
/-- an object that was made since may change -/
theorem Kp.loc (a : Kp ps H H1) (h : ps p ∨ H p = none) : Kp ps H (upd H1 p o) := ⟨fun b u n e => by
  have hb : b ≠ p := fun z => by
    subst z
    rcases h with h | h
    · exact n h
    · rw [h] at e; cases e
  rw [upd_ne hb]; exact a.get b u n e, fun b e => a.dom b (upd_none e).1⟩
end
/-! ### data -/
/-- plain data; lst: a list that stays; mls: a list that one slot alone has; rol: a list that is read only; al: what slot i has -/
inductive D where
  | non | bl (b : Bool) | int (i : Int) | str (s : Str) | cst (v : V)
  | tup (ds : List D) | lst (ds : List D) | rol (ds : List D) | mls (ds : List D) | al (i : Nat)
  | dct (ks : List Key) (ds : List D) | mdc (ks : List Key) (ds : List D) | dtt (ks : List (List Key)) (ds : List D) | mdt (ks : List (List Key)) (ds : List D)
  | xdt (fs : List Str) (ds : List D) | obj (c : Nat) (fs : List Str) (ds : List D)
structure Xc where
  cls : Nat
  fs : List Str
  ds : List D
def TupAt (K : KC) (ps : Addr → Prop) (H : Hp) (a : Addr) (xs : List V) : Prop :=
  (H a = some (.tup xs) ∧ ¬ ps a) ∨ ∃ (o : Obj) (its : Array Value) (n : Nat), K.F.lookup a = some o ∧ o.cls = .type "tuple" ∧ o.data = .seq its n ∧ its.size ≤ sizeLine ∧ Vals xs its.toList
theorem TupAt.sq {K : KC} {ps : Addr → Prop} {H : Hp} {a : Addr} {xs : List V} (h : TupAt K ps H a xs) : SqT K H a xs := by
  rcases h with ⟨h, _⟩ | h
  · exact .inl (.inl h)
  · exact .inr h
/-- a list that is read only: locked or written -/
def RolAt (K : KC) (ps : Addr → Prop) (H : Hp) (a : Addr) (xs : List V) : Prop :=
  (Rd H a (.lst xs) ∧ ¬ ps a) ∨ ∃ (o : Obj) (its : Array Value) (n : Nat), K.F.lookup a = some o ∧ o.cls = .type "list" ∧ o.dict = none ∧ o.data = .seq its n ∧ its.size ≤ sizeLine ∧ Vals xs its.toList
theorem RolAt.sq {K : KC} {ps : Addr → Prop} {H : Hp} {a : Addr} {xs : List V} (h : RolAt K ps H a xs) : SqL K H a xs := by
  rcases h with ⟨h, _⟩ | h
  · exact .inl h
  · exact .inr h
inductive Dt (K : KC) (ps : Addr → Prop) (H : Hp) : V → D → Prop
  | non : Dt K ps H .non .non
  | bl (b : Bool) : Dt K ps H (.bl b) (.bl b)
  | int (i : Int) : Dt K ps H (.int i) (.int i)
  | str (x : Str) : Dt K ps H (.str x) (.str x)
  | cst (v : V) : Dt K ps H v (.cst v)
  | lst {a : Addr} {xs : List V} {ds : List D} : H a = some (.lst xs) → ¬ ps a → xs.length = ds.length → (∀ (i : Nat) x d, xs[i]? = some x → ds[i]? = some d → Dt K ps H x d) → Dt K ps H (.ref a) (.lst ds)
  | rol {a : Addr} {xs : List V} {ds : List D} : RolAt K ps H a xs → xs.length = ds.length → (∀ (i : Nat) x d, xs[i]? = some x → ds[i]? = some d → Dt K ps H x d) → Dt K ps H (.ref a) (.rol ds)
  | tup {a : Addr} {xs : List V} {ds : List D} : TupAt K ps H a xs → xs.length = ds.length → (∀ (i : Nat) x d, xs[i]? = some x → ds[i]? = some d → Dt K ps H x d) → Dt K ps H (.ref a) (.tup ds)
  | dct {a : Addr} {ks : List Key} {xs : List V} {ds : List D} : Rd H a (.dK (ks.zip xs)) → ¬ ps a → ks.length = ds.length → xs.length = ds.length → (∀ (i : Nat) x d, xs[i]? = some x → ds[i]? = some d → Dt K ps H x d) → Dt K ps H (.ref a) (.dct ks ds)
  | dtt {a : Addr} {ks : List (List Key)} {xs : List V} {ds : List D} : Rd H a (.dT (ks.zip xs)) → ¬ ps a → ks.length = ds.length → xs.length = ds.length → (∀ (i : Nat) x d, xs[i]? = some x → ds[i]? = some d → Dt K ps H x d) → Dt K ps H (.ref a) (.dtt ks ds)
  | xdt {a : Addr} {fs : List Str} {xs : List V} {ds : List D} : H a = some (.xd (fs.zip xs)) → ¬ ps a → fs.length = ds.length → xs.length = ds.length → (∀ (i : Nat) x d, xs[i]? = some x → ds[i]? = some d → Dt K ps H x d) → Dt K ps H (.ref a) (.xdt fs ds)
  | obj {a C dx : Addr} {c : Nat} {fs : List Str} {xs : List V} {ds : List D} : H a = some (.ins C dx (fs.zip xs)) → ¬ ps a → K.cv c = .ref C → fs.length = ds.length → xs.length = ds.length → (∀ (i : Nat) x d, xs[i]? = some x → ds[i]? = some d → Dt K ps H x d) → Dt K ps H (.ref a) (.obj c fs ds)
def DtA (K : KC) (ps : Addr → Prop) (H : Hp) (xs : List V) (ds : List D) : Prop := xs.length = ds.length ∧ ∀ (i : Nat) x d, xs[i]? = some x → ds[i]? = some d → Dt K ps H x d
section
variable {K : KC} {ps qs : Addr → Prop} {H H1 H2 : Hp} {p q a : Addr} {o : HO} {v x : V} {d e : D} {xs ys : List V} {ds es : List D}
theorem Dt.move (h : Dt K ps H v d) (k : Kp ps H H1) (hq : ∀ a, qs a → ps a ∨ H a = none) : Dt K qs H1 v d := by
  induction h with
  | non => exact .non
  | bl b => exact .bl b
  | int i => exact .int i
  | str x => exact .str x
  | cst v => exact .cst v
  | lst h1 h2 h3 h4 ih =>
    refine .lst (k.get _ _ h2 h1) (fun z => ?_) h3 ih
    rcases hq _ z with z | z
    · exact h2 z
    · rw [h1] at z; cases z
  | rol h1 h3 h4 ih =>
    refine .rol ?_ h3 ih
    rcases h1 with ⟨h1, h2⟩ | h1
    · refine .inl ⟨?_, fun z => ?_⟩
      · rcases h1 with h1 | ⟨ob, h1⟩
        · exact .inl (k.get _ _ h2 h1)
        · exact .inr ⟨ob, k.get _ _ h2 h1⟩
      · rcases hq _ z with z | z
        · exact h2 z
        · rcases h1 with h1 | ⟨ob, h1⟩ <;> (rw [h1] at z; cases z)
    · exact .inr h1
  | tup h1 h3 h4 ih =>
    refine .tup ?_ h3 ih
    rcases h1 with ⟨h1, h2⟩ | h1
    · refine .inl ⟨k.get _ _ h2 h1, fun z => ?_⟩
      rcases hq _ z with z | z
      · exact h2 z
      · rw [h1] at z; cases z
    · exact .inr h1
  | dct h1 h2 h3 h5 h4 ih =>
    refine .dct ?_ (fun z => ?_) h3 h5 ih
    · rcases h1 with h1 | ⟨ob, h1⟩
      · exact .inl (k.get _ _ h2 h1)
      · exact .inr ⟨ob, k.get _ _ h2 h1⟩
    · rcases hq _ z with z | z
      · exact h2 z
      · rcases h1 with h1 | ⟨ob, h1⟩ <;> (rw [h1] at z; cases z)
  | dtt h1 h2 h3 h5 h4 ih =>
    refine .dtt ?_ (fun z => ?_) h3 h5 ih
    · rcases h1 with h1 | ⟨ob, h1⟩
      · exact .inl (k.get _ _ h2 h1)
      · exact .inr ⟨ob, k.get _ _ h2 h1⟩
    · rcases hq _ z with z | z
      · exact h2 z
      · rcases h1 with h1 | ⟨ob, h1⟩ <;> (rw [h1] at z; cases z)
  | xdt h1 h2 h3 h5 h4 ih =>
    refine .xdt (k.get _ _ h2 h1) (fun z => ?_) h3 h5 ih
    rcases hq _ z with z | z
    · exact h2 z
    · rw [h1] at z; cases z
  | obj h1 h2 h6 h3 h5 h4 ih =>
    refine .obj (k.get _ _ h2 h1) (fun z => ?_) h6 h3 h5 ih
    rcases hq _ z with z | z
    · exact h2 z
    · rw [h1] at z; cases z
theorem DtA.move (h : DtA K ps H xs ds) (k : Kp ps H H1) (hq : ∀ a, qs a → ps a ∨ H a = none) : DtA K qs H1 xs ds := ⟨h.1, fun i x d e1 e2 => (h.2 i x d e1 e2).move k hq⟩
theorem DtA.nil : DtA K ps H [] [] := ⟨rfl, fun i x d e => by simp at e⟩
theorem DtA.cons (h : Dt K ps H x d) (t : DtA K ps H xs ds) : DtA K ps H (x :: xs) (d :: ds) := ⟨by simp [t.1], fun i y f e1 e2 => by
  cases i with
  | zero => simp at e1 e2; subst e1 e2; exact h
  | succ i => simp at e1 e2; exact t.2 i y f e1 e2⟩
theorem DtA.append (h : DtA K ps H xs ds) (t : DtA K ps H ys es) : DtA K ps H (xs ++ ys) (ds ++ es) := ⟨by simp [h.1, t.1], fun i y f e1 e2 => by
  have hl := h.1
  by_cases hi : i < xs.length
  · rw [List.getElem?_append_left hi] at e1
    rw [List.getElem?_append_left (by omega)] at e2
    exact h.2 i y f e1 e2
  · rw [List.getElem?_append_right (by omega)] at e1
    rw [List.getElem?_append_right (by omega), ← hl] at e2
    exact t.2 _ y f e1 e2⟩
theorem DtA.snoc (h : DtA K ps H xs ds) (t : Dt K ps H x d) : DtA K ps H (xs ++ [x]) (ds ++ [d]) := h.append (.cons t .nil)
theorem DtA.take (h : DtA K ps H xs ds) (n : Nat) : DtA K ps H (xs.take n) (ds.take n) := ⟨by simp [h.1], fun i y f e1 e2 => by
  rw [List.getElem?_take] at e1 e2
  split at e1
  · rename_i c; rw [if_pos c] at e2; exact h.2 i y f e1 e2
  · cases e1⟩
theorem DtA.drop (h : DtA K ps H xs ds) (n : Nat) : DtA K ps H (xs.drop n) (ds.drop n) := ⟨by simp [h.1], fun i y f e1 e2 => by
  rw [List.getElem?_drop] at e1 e2; exact h.2 _ y f e1 e2⟩
theorem DtA.set (h : DtA K ps H xs ds) (t : Dt K ps H x d) (n : Nat) : DtA K ps H (xs.set n x) (ds.set n d) := ⟨by simp [h.1], fun i y f e1 e2 => by
  rw [List.getElem?_set] at e1 e2
  have hl := h.1
  split at e1
  · rename_i c
    rw [if_pos c] at e2
    split at e1
    · split at e2
      · cases e1; cases e2; exact t
      · cases e2
    · cases e1
  · rename_i c
    rw [if_neg c] at e2
    exact h.2 i y f e1 e2⟩
theorem DtA.get (h : DtA K ps H xs ds) {i : Nat} (e : ds[i]? = some d) : ∃ x, xs[i]? = some x ∧ Dt K ps H x d := by
  have hi : i < xs.length := by rw [h.1]; exact (List.getElem?_eq_some_iff.mp e).1
  exact ⟨xs[i], by simp [hi], h.2 i _ _ (by simp [hi]) e⟩
theorem DtA.get' (h : DtA K ps H xs ds) {i : Nat} (e : xs[i]? = some x) : ∃ d, ds[i]? = some d ∧ Dt K ps H x d := by
  have hi : i < ds.length := by rw [← h.1]; exact (List.getElem?_eq_some_iff.mp e).1
  exact ⟨ds[i], by simp [hi], h.2 i _ _ e (by simp [hi])⟩
theorem DtA.flat (m : Nat) (h : DtA K ps H xs ds) : DtA K ps H (List.replicate m xs).flatten (List.replicate m ds).flatten := by
  induction m with
  | zero => exact .nil
  | succ m ih => simp only [List.replicate_succ, List.flatten_cons]; exact h.append ih
theorem Dt.inv_lst (h : Dt K ps H v (.lst ds)) : (∃ a xs, v = .ref a ∧ H a = some (.lst xs) ∧ ¬ ps a ∧ DtA K ps H xs ds) := by
  cases h with
  | lst h1 h2 h3 h4 => exact ⟨_, _, rfl, h1, h2, h3, h4⟩
theorem Dt.inv_rol (h : Dt K ps H v (.rol ds)) : (∃ a xs, v = .ref a ∧ RolAt K ps H a xs ∧ DtA K ps H xs ds) := by
  cases h with
  | rol h1 h3 h4 => exact ⟨_, _, rfl, h1, h3, h4⟩
theorem Dt.inv_tup (h : Dt K ps H v (.tup ds)) : ∃ a xs, v = .ref a ∧ TupAt K ps H a xs ∧ DtA K ps H xs ds := by
  cases h with
  | tup h1 h3 h4 => exact ⟨_, _, rfl, h1, h3, h4⟩
theorem Dt.inv_dct {ks : List Key} (h : Dt K ps H v (.dct ks ds)) : ∃ a xs, v = .ref a ∧ Rd H a (.dK (ks.zip xs)) ∧ ks.length = ds.length ∧ DtA K ps H xs ds := by
  cases h with
  | dct h1 h2 h3 h5 h4 => exact ⟨_, _, rfl, h1, h3, h5, h4⟩
theorem Dt.inv_dtt {ks : List (List Key)} (h : Dt K ps H v (.dtt ks ds)) : ∃ a xs, v = .ref a ∧ Rd H a (.dT (ks.zip xs)) ∧ ks.length = ds.length ∧ DtA K ps H xs ds := by
  cases h with
  | dtt h1 h2 h3 h5 h4 => exact ⟨_, _, rfl, h1, h3, h5, h4⟩
theorem Dt.inv_xdt {fs : List Str} (h : Dt K ps H v (.xdt fs ds)) : ∃ a xs, v = .ref a ∧ H a = some (.xd (fs.zip xs)) ∧ fs.length = ds.length ∧ DtA K ps H xs ds := by
  cases h with
  | xdt h1 h2 h3 h5 h4 => exact ⟨_, _, rfl, h1, h3, h5, h4⟩
theorem Dt.inv_obj {c : Nat} {fs : List Str} (h : Dt K ps H v (.obj c fs ds)) : ∃ a C dx xs, v = .ref a ∧ H a = some (.ins C dx (fs.zip xs)) ∧ K.cv c = .ref C ∧ fs.length = ds.length ∧ DtA K ps H xs ds := by
  cases h with
  | obj h1 h2 h6 h3 h5 h4 => exact ⟨_, _, _, _, rfl, h1, h6, h3, h5, h4⟩
theorem Dt.no_mdc {ks : List Key} (h : Dt K ps H v (.mdc ks ds)) : False := by cases h
theorem Dt.no_mdt {ks : List (List Key)} (h : Dt K ps H v (.mdt ks ds)) : False := by cases h
theorem Dt.inv_int {i : Int} (h : Dt K ps H v (.int i)) : v = .int i := by cases h; rfl
theorem Dt.inv_str {z : Str} (h : Dt K ps H v (.str z)) : v = .str z := by cases h; rfl
theorem Dt.inv_bl {b : Bool} (h : Dt K ps H v (.bl b)) : v = .bl b := by cases h; rfl
theorem Dt.inv_non (h : Dt K ps H v .non) : v = .non := by cases h; rfl
theorem Dt.inv_cst {c : V} (h : Dt K ps H v (.cst c)) : v = c := by cases h; rfl
theorem Dt.no_mls (h : Dt K ps H v (.mls ds)) : False := by cases h
theorem Dt.no_al {k : Nat} (h : Dt K ps H v (.al k)) : False := by cases h
theorem Dt.lstA (h : H a = some (.lst xs)) (n : ¬ ps a) (k : DtA K ps H xs ds) : Dt K ps H (.ref a) (.lst ds) := .lst h n k.1 k.2
theorem Dt.tupA (h : H a = some (.tup xs)) (n : ¬ ps a) (k : DtA K ps H xs ds) : Dt K ps H (.ref a) (.tup ds) := .tup (.inl ⟨h, n⟩) k.1 k.2
theorem DtA.ints_eq : ∀ {xs : List V} {ns : List Int}, DtA K ps H xs (ns.map D.int) → xs = ns.map V.int
  | [], [], _ => rfl
  | [], n :: ns, h => by have := h.1; simp at this
  | x :: xs, [], h => by have := h.1; simp at this
  | x :: xs, n :: ns, h => by
    have h1 := h.2 0 x (.int n) rfl rfl
    have h2 : DtA K ps H xs (ns.map D.int) := ⟨by have := h.1; simpa using this, fun i y f e1 e2 => h.2 (i + 1) y f (by simpa using e1) (by simpa using e2)⟩
    cases h1
    rw [DtA.ints_eq h2]; rfl
theorem DtA.ints (ns : List Int) : DtA K ps H (ns.map V.int) (ns.map D.int) := ⟨by simp, fun i x d e1 e2 => by
  rw [List.getElem?_map] at e1 e2
  cases e : ns[i]? with
  | none => rw [e] at e1; cases e1
  | some z => rw [e] at e1 e2; cases e1; cases e2; exact .int z⟩
/-! ### what is owned -/
inductive Ow (K : KC) (ps : Addr → Prop) (H : Hp) : V → D → (Addr → Prop) → Prop
  | fz {v : V} {d : D} {S : Addr → Prop} : Dt K ps H v d → (∀ b, ¬ S b) → Ow K ps H v d S
  | mls {a : Addr} {xs : List V} {ds : List D} {S : Addr → Prop} : H a = some (.lst xs) → DtA K ps H xs ds → (∀ b, S b ↔ b = a) → Ow K ps H (.ref a) (.mls ds) S
  | mdc {a : Addr} {ks : List Key} {xs : List V} {ds : List D} {S : Addr → Prop} : H a = some (.dK (ks.zip xs)) → ks.length = ds.length → DtA K ps H xs ds → (∀ b, S b ↔ b = a) → Ow K ps H (.ref a) (.mdc ks ds) S
  | mdt {a : Addr} {ks : List (List Key)} {xs : List V} {ds : List D} {S : Addr → Prop} : H a = some (.dT (ks.zip xs)) → ks.length = ds.length → DtA K ps H xs ds → (∀ b, S b ↔ b = a) → Ow K ps H (.ref a) (.mdt ks ds) S
theorem Ow.move {S : Addr → Prop} (h : Ow K ps H v d S) (k : Kp ps H H1) (hq : ∀ a, qs a → ps a ∨ H a = none) (hs : ∀ a, S a → H1 a = H a) : Ow K qs H1 v d S := by
  cases h with
  | fz h n => exact .fz (h.move k hq) n
  | mls h1 h2 h3 => exact .mls (by rw [hs _ ((h3 _).mpr rfl)]; exact h1) (h2.move k hq) h3
  | mdc h1 h4 h2 h3 => exact .mdc (by rw [hs _ ((h3 _).mpr rfl)]; exact h1) h4 (h2.move k hq) h3
  | mdt h1 h4 h2 h3 => exact .mdt (by rw [hs _ ((h3 _).mpr rfl)]; exact h1) h4 (h2.move k hq) h3
theorem Ow.trk {S : Addr → Prop} (h : Ow K ps H v d S) (hb : S a) : H a ≠ none := by
  cases h with
  | fz h n => exact absurd hb (n _)
  | mls h1 h2 h3 => rw [(h3 _).mp hb, h1]; simp
  | mdc h1 h4 h2 h3 => rw [(h3 _).mp hb, h1]; simp
  | mdt h1 h4 h2 h3 => rw [(h3 _).mp hb, h1]; simp
def isFz : D → Bool | .mls _ => false | .mdc _ _ => false | .mdt _ _ => false | .al _ => false | _ => true
def isAl : D → Bool | .al _ => true | _ => false
def frz : D → D | .mls ds => .lst ds | .mdc ks ds => .dct ks ds | .mdt ks ds => .dtt ks ds | d => d
theorem Ow.noAl {S : Addr → Prop} (h : Ow K ps H v d S) : isAl d = false := by
  cases h with
  | fz h n => cases h <;> rfl
  | mls _ _ _ => rfl
  | mdc _ _ _ _ => rfl
  | mdt _ _ _ _ => rfl
theorem Ow.dt {S : Addr → Prop} (h : Ow K ps H v d S) (f : isFz d = true) : Dt K ps H v d := by
  cases h with
  | fz h n => exact h
  | mls _ _ _ => cases f
  | mdc _ _ _ _ => cases f
  | mdt _ _ _ _ => cases f
theorem Ow.emp {S : Addr → Prop} (h : Ow K ps H v d S) (f : isFz d = true) : ∀ b, ¬ S b := by
  cases h with
  | fz h n => exact n
  | mls _ _ _ => cases f
  | mdc _ _ _ _ => cases f
  | mdt _ _ _ _ => cases f
/-- given up, it is data for all that keep off -/
theorem Ow.frz {S : Addr → Prop} (h : Ow K ps H v d S) (hq : ∀ a, qs a → ps a ∧ ¬ S a) : Dt K qs H v (frz d) := by
  cases h with
  | fz h n =>
    have : Q.frz d = d := by cases h <;> rfl
    rw [this]
    exact h.move .refl fun a z => .inl (hq a z).1
  | mls h1 h2 h3 => exact .lstA h1 (fun z => (hq _ z).2 ((h3 _).mpr rfl)) (h2.move .refl fun a z => .inl (hq a z).1)
  | mdc h1 h4 h2 h3 => exact .dct (.inl h1) (fun z => (hq _ z).2 ((h3 _).mpr rfl)) h4 h2.1 (h2.move .refl fun a z => .inl (hq a z).1).2
  | mdt h1 h4 h2 h3 => exact .dtt (.inl h1) (fun z => (hq _ z).2 ((h3 _).mpr rfl)) h4 h2.1 (h2.move .refl fun a z => .inl (hq a z).1).2
theorem Ow.iff {S T : Addr → Prop} (h : Ow K ps H v d S) (e : ∀ b, T b ↔ S b) : Ow K ps H v d T := by
  cases h with
  | fz h n => exact .fz h fun b z => n b ((e b).mp z)
  | mls h1 h2 h3 => exact .mls h1 h2 fun b => (e b).trans (h3 b)
  | mdc h1 h4 h2 h3 => exact .mdc h1 h4 h2 fun b => (e b).trans (h3 b)
  | mdt h1 h4 h2 h3 => exact .mdt h1 h4 h2 fun b => (e b).trans (h3 b)
end
/-! ### the state -/
abbrev Env := List (Option D)
/-- where a def stands: what is owned elsewhere (ps0), the heap at the entry, what it was lent -/
structure Bs where
  ps0 : Addr → Prop
  H0 : Hp
  S0 : Addr → Prop
structure Cn where
  K : KC
  W : WX
  A : Nat → Bool
  held : List (V × D)
  fx : St → Prop
abbrev Ix := Sum Nat Nat
def pset (B : Bs) (S : Ix → Addr → Prop) : Addr → Prop := fun a => B.ps0 a ∨ ∃ i, S i a
structure Good (C : Cn) (B : Bs) (σ0 : St) (H : Hp) (σ : St) (env : Env) (ts : List (V × D)) (S : Ix → Addr → Prop) : Prop where
  kp : Kp B.S0 B.H0 H
  fr : ∀ a, B.ps0 a → B.H0 a ≠ none ∧ ¬ B.S0 a
  sub : ∀ i a, S i a → (B.S0 a ∨ B.H0 a = none) ∧ ¬ B.ps0 a
  trk : ∀ i a, S i a → H a ≠ none
  dis : ∀ i j a, S i a → S j a → i = j
  len : σ.length = env.length
  keep : (∀ j, C.A j = false → σ[j]? = σ0[j]?) ∧ σ.length = σ0.length
  slot : ∀ (i : Nat) d, env[i]? = some (some d) → ∃ v, σ[i]? = some (some v) ∧ Ow C.K (pset B S) H v d (S (.inl i))
  tmp : ∀ (j : Nat) v d, ts[j]? = some (v, d) → (∃ k, d = .al k ∧ σ[k]? = some (some v)) ∨ Ow C.K (pset B S) H v d (S (.inr j))
  hld : ∀ p ∈ C.held, Dt C.K (pset B S) H p.1 p.2
  fx : C.fx σ0
def Rep (C : Cn) (B : Bs) (σ0 : St) (H : Hp) (σ : St) (env : Env) (ts : List (V × D)) : Prop := ∃ S, Good C B σ0 H σ env ts S
def su (S : Ix → Addr → Prop) (k : Ix) (s : Addr → Prop) : Ix → Addr → Prop := fun i a => (i = k ∧ s a) ∨ (i ≠ k ∧ S i a)
theorem su_same {S : Ix → Addr → Prop} {k : Ix} {s : Addr → Prop} {a : Addr} : su S k s k a ↔ s a := by simp [su]
theorem su_ne {S : Ix → Addr → Prop} {k i : Ix} {s : Addr → Prop} {a : Addr} (h : i ≠ k) : su S k s i a ↔ S i a := by simp [su, h]
section
variable {C : Cn} {B : Bs} {σ0 σ : St} {H H1 : Hp} {env env1 : Env} {ts ts1 : List (V × D)} {S : Ix → Addr → Prop} {v : V} {d : D}
theorem Good.ptrk (g : Good C B σ0 H σ env ts S) {a : Addr} (h : pset B S a) : H a ≠ none := by
  rcases h with h | ⟨i, h⟩
  · exact fun z => (g.fr a h).1 (g.kp.dom a z)
  · exact g.trk i a h
/-- cells at k are taken by s' : s' among those at k or new; all others stay -/
theorem Good.upd (g : Good C B σ0 H σ env ts S) (k : Ix) (s' : Addr → Prop) (hk : Kp (S k) H H1) (hs : ∀ a, s' a → (S k a ∨ H a = none) ∧ H1 a ≠ none) :
    Kp B.S0 B.H0 H1 ∧ (∀ i a, su S k s' i a → (B.S0 a ∨ B.H0 a = none) ∧ ¬ B.ps0 a) ∧ (∀ i a, su S k s' i a → H1 a ≠ none) ∧ (∀ i j a, su S k s' i a → su S k s' j a → i = j) ∧
    (∀ a, pset B (su S k s') a → pset B S a ∨ H a = none) ∧ Kp (pset B S) H H1 ∧ ∀ i v d, i ≠ k → Ow C.K (pset B S) H v d (S i) → Ow C.K (pset B (su S k s')) H1 v d (su S k s' i) := by
  have hp : ∀ a, pset B (su S k s') a → pset B S a ∨ H a = none := by
    rintro a (h | ⟨i, ⟨rfl, h⟩ | ⟨_, h⟩⟩)
    · exact .inl (.inl h)
    · rcases (hs a h).1 with h | h
      · exact .inl (.inr ⟨_, h⟩)
      · exact .inr h
    · exact .inl (.inr ⟨_, h⟩)
  have hkp : Kp (pset B S) H H1 := hk.more fun x z => .inr ⟨_, z⟩
  refine ⟨?_, ?_, ?_, ?_, hp, hkp, ?_⟩
  · refine ⟨fun b o n e => ?_, fun b e => g.kp.dom b (hk.dom b e)⟩
    have e1 := g.kp.get b o n e
    refine hk.get b o (fun z => ?_) e1
    rcases (g.sub k b z).1 with z | z
    · exact n z
    · rw [z] at e; cases e
  · rintro i a (⟨rfl, h⟩ | ⟨_, h⟩)
    · rcases (hs a h).1 with z | z
      · exact g.sub _ a z
      · exact ⟨.inr (g.kp.dom a z), fun w => (g.fr a w).1 (g.kp.dom a z)⟩
    · exact g.sub i a h
  · rintro i a (⟨rfl, h⟩ | ⟨hi, h⟩)
    · exact (hs a h).2
    · intro z
      exact g.trk i a h (hk.dom a z)
  · rintro i j a (⟨rfl, h⟩ | ⟨hi, h⟩) (⟨rfl, h'⟩ | ⟨hj, h'⟩)
    · rfl
    · rcases (hs a h).1 with z | z
      · exact g.dis _ _ a z h'
      · exact absurd z (g.trk j a h')
    · rcases (hs a h').1 with z | z
      · exact g.dis _ _ a h z
      · exact absurd z (g.trk i a h)
    · exact g.dis i j a h h'
  · intro i v d hi h
    refine (h.move hkp hp fun a z => ?_).iff fun b => su_ne hi
    have hn : ¬ S k a := fun w => hi (g.dis _ _ a z w)
    cases e : H a with
    | none => exact absurd e (g.trk i a z)
    | some o => exact hk.get a o hn e
/-- a temporary is set down at place n (all above it go) -/
theorem Good.push (g : Good C B σ0 H σ env ts S) (n : Nat) (hn : n ≤ ts.length) (s' : Addr → Prop) (hk : Kp (S (.inr n)) H H1) (hs : ∀ a, s' a → (S (.inr n) a ∨ H a = none) ∧ H1 a ≠ none)
    (ho : Ow C.K (pset B (su S (.inr n) s')) H1 v d s') : Good C B σ0 H1 σ env (ts.take n ++ [(v, d)]) (su S (.inr n) s') := by
  obtain ⟨a1, a2, a3, a4, a5, a6, a7⟩ := g.upd (.inr n) s' hk hs
  refine ⟨a1, g.fr, a2, a3, a4, g.len, g.keep, fun i d' e => ?_, fun j v' d' e => ?_, fun p hp => (g.hld p hp).move a6 a5, g.fx⟩
  · obtain ⟨v', h1, h2⟩ := g.slot i d' e
    exact ⟨v', h1, a7 (.inl i) v' d' (by simp) h2⟩
  · by_cases hj : j < n
    · rw [List.getElem?_append_left (by rw [List.length_take]; omega), List.getElem?_take, if_pos hj] at e
      rcases g.tmp j v' d' e with h | h
      · exact .inl h
      · exact .inr (a7 (.inr j) v' d' (by simp; omega) h)
    · have hl : (ts.take n).length = n := by rw [List.length_take]; omega
      rw [List.getElem?_append_right (by omega), hl] at e
      by_cases hj2 : j = n
      · subst hj2
        simp at e
        obtain ⟨rfl, rfl⟩ := e
        exact .inr (ho.iff fun b => su_same)
      · obtain ⟨m, hm⟩ : ∃ m, j - n = m + 1 := ⟨j - n - 1, by omega⟩
        rw [hm] at e
        simp at e
/-- slot k's own thing changes: s' among its cells or new -/
theorem Good.put (g : Good C B σ0 H σ env ts S) {k : Nat} {d0 : D} (he : env[k]? = some (some d0)) (hv : σ[k]? = some (some v)) (s' : Addr → Prop) (hk : Kp (S (.inl k)) H H1) (hs : ∀ a, s' a → (S (.inl k) a ∨ H a = none) ∧ H1 a ≠ none)
    (ho : Ow C.K (pset B (su S (.inl k) s')) H1 v d s') : Good C B σ0 H1 σ (env.set k (some d)) ts (su S (.inl k) s') := by
  obtain ⟨a1, a2, a3, a4, a5, a6, a7⟩ := g.upd (.inl k) s' hk hs
  have hkl : k < env.length := (List.getElem?_eq_some_iff.mp he).1
  refine ⟨a1, g.fr, a2, a3, a4, by rw [List.length_set]; exact g.len, g.keep, fun i d' e => ?_, fun j v' d' e => ?_, fun p hp => (g.hld p hp).move a6 a5, g.fx⟩
  · by_cases hi : i = k
    · subst hi
      rw [List.getElem?_set_self hkl] at e
      cases e
      exact ⟨v, hv, ho.iff fun b => su_same⟩
    · rw [List.getElem?_set_ne (Ne.symm hi)] at e
      obtain ⟨v', h1, h2⟩ := g.slot i d' e
      exact ⟨v', h1, a7 (.inl i) v' d' (by simp [hi]) h2⟩
  · rcases g.tmp j v' d' e with h | h
    · exact .inl h
    · exact .inr (a7 (.inr j) v' d' (by simp) h)
/-- temporaries above n go -/
theorem Rep.pop (r : Rep C B σ0 H σ env (ts ++ ts1)) : Rep C B σ0 H σ env ts := by
  obtain ⟨S, g⟩ := r
  refine ⟨S, g.kp, g.fr, g.sub, g.trk, g.dis, g.len, g.keep, g.slot, fun j v d e => g.tmp j v d ?_, g.hld, g.fx⟩
  have hj : j < ts.length := (List.getElem?_eq_some_iff.mp e).1
  rw [List.getElem?_append_left hj]; exact e
/-- what may be looked at -/
def Peek (K : KC) (ps : Addr → Prop) (H : Hp) (v : V) (d : D) : Prop := ∃ S, Ow K ps H v d S ∧ ∀ a, S a → ps a
def res (e : Env) : D → Option D
  | .al k => match e[k]? with
    | some (some d) => some d
    | _ => none
  | d => some d
theorem Good.look (g : Good C B σ0 H σ env ts S) {j : Nat} {v : V} {d d' : D} (e : ts[j]? = some (v, d)) (hr : res env d = some d') : Peek C.K (pset B S) H v d' := by
  rcases g.tmp j v d e with ⟨k, rfl, h2⟩ | h
  · simp only [res] at hr
    split at hr
    · rename_i d'' h3
      cases hr
      obtain ⟨v', e1, e2⟩ := g.slot k _ h3
      rw [h2] at e1; cases e1
      exact ⟨_, e2, fun a z => .inr ⟨_, z⟩⟩
    · cases hr
  · have hn := h.noAl
    have : res env d = some d := by cases d <;> first | rfl | cases hn
    rw [this] at hr; cases hr
    exact ⟨_, h, fun a z => .inr ⟨_, z⟩⟩
end
end Q


namespace Q
open PySem L2
/-! ### results -/
inductive Rs (α : Type) where
  | ok (a : α) (e : Env)
  | ex (x : Xc) (e : Env)
abbrev M (α : Type) := Env → Option (Rs α)
abbrev ME := M D
abbrev MA := M (List D)
abbrev MT := M Bool
def bnd {α β : Type} (r : Option (Rs α)) (f : α → Env → Option (Rs β)) : Option (Rs β) :=
  match r with
  | none => none
  | some (.ex x e) => some (.ex x e)
  | some (.ok a e) => f a e
theorem bnd_ok {α β : Type} {a : α} {e : Env} {f : α → Env → Option (Rs β)} : bnd (some (.ok a e)) f = f a e := rfl
theorem bnd_ex {α β : Type} {x : Xc} {e : Env} {f : α → Env → Option (Rs β)} : bnd (some (.ex x e)) f = some (.ex x e) := rfl
theorem bnd_none {α β : Type} {f : α → Env → Option (Rs β)} : bnd none f = none := rfl
theorem bnd_inv {α β : Type} {r : Option (Rs α)} {f : α → Env → Option (Rs β)} {z : Rs β} (h : bnd r f = some z) : (∃ x e, r = some (.ex x e) ∧ z = .ex x e) ∨ ∃ a e, r = some (.ok a e) ∧ f a e = some z := by
  unfold bnd at h
  split at h
  · cases h
  · cases h; exact .inl ⟨_, _, rfl, rfl⟩
  · exact .inr ⟨_, _, rfl, h⟩
/-- an exception's class and fields -/
def XOk (C : Cn) (ps : Addr → Prop) (H : Hp) (x : Xc) (c : Value) (o : Option Addr) : Prop :=
  c = C.K.cv x.cls ∧ ((o = none ∧ x.fs = []) ∨ ∃ d, o = some d ∧ Dt C.K ps H (.ref d) (.xdt x.fs x.ds))
def RepX (C : Cn) (B : Bs) (σ0 : St) (H : Hp) (σ : St) (env : Env) (ts : List (V × D)) (x : Xc) (c : Value) (o : Option Addr) : Prop := ∃ S, Good C B σ0 H σ env ts S ∧ XOk C (pset B S) H x c o
def XW (C : Cn) (B : Bs) (σ0 σ : St) (ts : List (V × D)) (x : Xc) (e : Env) : Prop := ∀ c o H', RepX C B σ0 H' σ e ts x c o → C.W c o σ H'
section
variable {C : Cn} {B : Bs} {σ0 σ : St} {H H1 : Hp} {env env1 : Env} {ts ts1 : List (V × D)} {S : Ix → Addr → Prop} {v : V} {d : D} {x : Xc} {c : Value} {o : Option Addr}
theorem Good.pop (g : Good C B σ0 H σ env (ts ++ ts1) S) : Good C B σ0 H σ env ts S :=
  ⟨g.kp, g.fr, g.sub, g.trk, g.dis, g.len, g.keep, g.slot, fun j v d e => g.tmp j v d (by
    have hj : j < ts.length := (List.getElem?_eq_some_iff.mp e).1
    rw [List.getElem?_append_left hj]; exact e), g.hld, g.fx⟩
theorem RepX.pop (r : RepX C B σ0 H σ env (ts ++ ts1) x c o) : RepX C B σ0 H σ env ts x c o := by
  obtain ⟨S, g, h⟩ := r
  exact ⟨S, g.pop, h⟩
theorem XW.push {e : Env} (h : XW C B σ0 σ ts x e) : XW C B σ0 σ (ts ++ ts1) x e := fun c o H' r => h c o H' r.pop
end
def EOk (C : Cn) (B : Bs) (σ0 σ : St) (ts : List (V × D)) (Q : VK) : Rs D → Prop
  | .ok d e => ∀ v H', Rep C B σ0 H' σ e (ts ++ [(v, d)]) → Q v H'
  | .ex x e => XW C B σ0 σ ts x e
def AOk (C : Cn) (B : Bs) (σ0 σ : St) (ts : List (V × D)) (R : List V → Hp → Prop) : Rs (List D) → Prop
  | .ok ds e => ∀ vs H', vs.length = ds.length → Rep C B σ0 H' σ e (ts ++ vs.zip ds) → R vs H'
  | .ex x e => XW C B σ0 σ ts x e
def TOk (C : Cn) (B : Bs) (σ0 σ : St) (ts : List (V × D)) (R : Bool → Hp → Prop) : Rs Bool → Prop
  | .ok b e => ∀ H', Rep C B σ0 H' σ e ts → R b H'
  | .ex x e => XW C B σ0 σ ts x e
def SE (C : Cn) (te : TE) (m : ME) : Prop := ∀ B σ0 σ H env ts, Rep C B σ0 H σ env ts → ∀ r, m env = some r → ∀ Q, EOk C B σ0 σ ts Q r → te σ H Q
def SA (C : Cn) (ta : TA) (m : MA) : Prop := ∀ B σ0 σ H env ts, Rep C B σ0 H σ env ts → ∀ r, m env = some r → ∀ R, AOk C B σ0 σ ts R r → ta σ H R
def ST (C : Cn) (tt : TT) (m : MT) : Prop := ∀ B σ0 σ H env ts, Rep C B σ0 H σ env ts → ∀ r, m env = some r → ∀ R, TOk C B σ0 σ ts R r → tt σ H R
/-! ### what an operation makes -/
def Post (K : KC) (ps : Addr → Prop) (H H' : Hp) (v : V) (d : D) : Prop :=
  Kp (fun _ => False) H H' ∧ ∃ s', (∀ a, s' a → H a = none ∧ H' a ≠ none) ∧ Ow K (fun a => ps a ∨ s' a) H' v d s'
section
variable {K : KC} {ps : Addr → Prop} {H H1 : Hp} {v : V} {d : D} {p : Addr} {xs : List V} {ds : List D}
theorem Post.dt (h : Dt K ps H v d) : Post K ps H H v d := ⟨.refl, fun _ => False, fun _ h => h.elim, .fz (h.move .refl fun a z => .inl (z.resolve_right id)) fun _ h => h⟩
theorem Post.lst (hp : H p = none) (h : DtA K ps H xs ds) : Post K ps H (upd H p (.lst xs)) (.ref p) (.mls ds) :=
  ⟨.new hp, fun a => a = p, fun a e => by subst e; exact ⟨hp, by rw [upd_same]; simp⟩, .mls upd_same (h.move (.new hp) fun a z => z.elim .inl fun e => .inr (by rw [e]; exact hp)) fun _ => Iff.rfl⟩
theorem Post.tup (ht : ∀ a, ps a → H a ≠ none) (hp : H p = none) (h : DtA K ps H xs ds) : Post K ps H (upd H p (.tup xs)) (.ref p) (.tup ds) :=
  ⟨.new hp, fun _ => False, fun _ h => h.elim, .fz (.tupA upd_same (fun z => ht p (z.resolve_right id) hp) (h.move (.new hp) fun a z => .inl (z.resolve_right id))) fun _ h => h⟩
end
section
variable {C : Cn} {B : Bs} {σ0 σ : St} {H H1 : Hp} {env env1 : Env} {ts ts1 : List (V × D)} {S : Ix → Addr → Prop} {v : V} {d : D}
theorem Good.prim (g : Good C B σ0 H σ env (ts ++ ts1) S) (p : Post C.K (pset B S) H H1 v d) : Rep C B σ0 H1 σ env (ts ++ [(v, d)]) := by
  obtain ⟨k, s', hs, ho⟩ := p
  have h := g.push (H1 := H1) (v := v) (d := d) ts.length (by simp) s' (k.more fun _ z => z.elim) (fun a z => ⟨.inr (hs a z).1, (hs a z).2⟩) (ho.move .refl (fun a z => ?_) fun _ _ => rfl)
  · rw [List.take_left] at h
    exact ⟨_, h⟩
  · rcases z with z | ⟨i, ⟨_, z⟩ | ⟨_, z⟩⟩
    · exact .inl (.inl (.inl z))
    · exact .inl (.inr z)
    · exact .inl (.inl (.inr ⟨i, z⟩))
theorem Good.pushAl (g : Good C B σ0 H σ env ts S) {k : Nat} (h1 : σ[k]? = some (some v)) : Rep C B σ0 H σ env (ts ++ [(v, .al k)]) := by
  refine ⟨S, g.kp, g.fr, g.sub, g.trk, g.dis, g.len, g.keep, g.slot, fun j v' d e => ?_, g.hld, g.fx⟩
  by_cases hj : j < ts.length
  · rw [List.getElem?_append_left hj] at e; exact g.tmp j v' d e
  · rw [List.getElem?_append_right (by omega)] at e
    obtain ⟨m, hm⟩ : ∃ m, j - ts.length = m := ⟨_, rfl⟩
    rw [hm] at e
    cases m with
    | zero => simp at e; obtain ⟨rfl, rfl⟩ := e; exact .inl ⟨k, rfl, h1⟩
    | succ m => simp at e
end
/-! ### expressions -/
def mVar (i : Nat) : ME := fun e => match e[i]? with
  | some (some d) => if isFz d = true then some (.ok d e) else some (.ok (.al i) e)
  | _ => none
theorem se_var {C : Cn} (i : Nat) : SE C (tVar i) (mVar i) := by
  rintro B σ0 σ H env ts ⟨S, g⟩ r hm Q hq
  unfold mVar at hm
  split at hm
  · rename_i d hd
    obtain ⟨v, hv, ho⟩ := g.slot i d hd
    split at hm
    · rename_i hf
      cases hm
      exact ⟨v, hv, hq v H (Good.prim (ts1 := []) (by rw [List.append_nil]; exact g) (Post.dt (ho.dt hf)))⟩
    · cases hm
      exact ⟨v, hv, hq v H (g.pushAl hv)⟩
  · cases hm
def mC (d : D) : ME := fun e => some (.ok d e)
/-- a value that is data by itself -/
def litD : V → D
  | .non => .non | .bl b => .bl b | .int i => .int i | .str s => .str s | v => .cst v
theorem litD_dt {K : KC} {ps : Addr → Prop} {H : Hp} (v : V) : Dt K ps H v (litD v) := by
  cases v <;> first | exact .non | exact .bl _ | exact .int _ | exact .str _ | exact .cst _
theorem se_c {C : Cn} (v : V) : SE C (tC v) (mC (litD v)) := by
  rintro B σ0 σ H env ts ⟨S, g⟩ r hm Q hq
  cases hm
  exact hq v H (Good.prim (ts1 := []) (by rw [List.append_nil]; exact g) (Post.dt (litD_dt v)))
/-- a written tuple of the top -/
theorem se_k {C : Cn} {a : Addr} {d : D} (h : ∀ ps H, Dt C.K ps H (.ref a) d) : SE C (tC (.ref a)) (mC d) := by
  rintro B σ0 σ H env ts ⟨S, g⟩ r hm Q hq
  cases hm
  exact hq _ H (Good.prim (ts1 := []) (by rw [List.append_nil]; exact g) (Post.dt (h _ _)))
def ap1 (f : D → Option D) (x : D) (e : Env) : Option (Rs D) := match res e x with
  | some x' => (match f x' with | some d => some (.ok d e) | none => none)
  | none => none
def ap2 (f : D → D → Option D) (x y : D) (e : Env) : Option (Rs D) := match res e x with
  | some x' => (match res e y with
    | some y' => (match f x' y' with | some d => some (.ok d e) | none => none)
    | none => none)
  | none => none
def lend : List D → Env → Option (List D)
  | [], _ => some []
  | x :: xs, e => match res e x with
    | some d => (match lend xs e with | some ds => some (d :: ds) | none => none)
    | none => none
def apN (f : List D → Option D) (xs : List D) (e : Env) : Option (Rs D) := match lend xs e with
  | some ds => (match f ds with | some d => some (.ok d e) | none => none)
  | none => none
def P1 (K : KC) (r : V → Hp → VK → Prop) (f : D → Option D) : Prop := ∀ ps H x d e Q, (∀ a, ps a → H a ≠ none) → Peek K ps H x d → f d = some e → (∀ v H', Post K ps H H' v e → Q v H') → r x H Q
def P2 (K : KC) (r : R2) (f : D → D → Option D) : Prop := ∀ ps H x y d d' e Q, (∀ a, ps a → H a ≠ none) → Peek K ps H x d → Peek K ps H y d' → f d d' = some e → (∀ v H', Post K ps H H' v e → Q v H') → r x y H Q
inductive PeekA (K : KC) (ps : Addr → Prop) (H : Hp) : List V → List D → Prop
  | nil : PeekA K ps H [] []
  | cons {v : V} {d : D} {vs : List V} {ds : List D} : Peek K ps H v d → PeekA K ps H vs ds → PeekA K ps H (v :: vs) (d :: ds)
def PN (K : KC) (r : List V → Hp → VK → Prop) (f : List D → Option D) : Prop := ∀ ps H xs ds e Q, (∀ a, ps a → H a ≠ none) → PeekA K ps H xs ds → f ds = some e → (∀ v H', Post K ps H H' v e → Q v H') → r xs H Q
def mUn (f : D → Option D) (a : ME) : ME := fun e => bnd (a e) fun x e1 => ap1 f x e1
def mOp (f : D → D → Option D) (a b : ME) : ME := fun e => bnd (a e) fun x e1 => bnd (b e1) fun y e2 => ap2 f x y e2
def mCB (f : List D → Option D) (a : MA) : ME := fun e => bnd (a e) fun xs e1 => apN f xs e1
section
variable {C : Cn} {te ta tb tc : TE} {ma mb mc : ME} {tt tu : TT} {mt mu : MT} {tr : TA} {mr : MA}
theorem se_un {r : V → Hp → VK → Prop} {f : D → Option D} (p : P1 C.K r f) (ha : SE C ta ma) : SE C (tUn r ta) (mUn f ma) := by
  intro B σ0 σ H env ts R z hm Q hq
  rcases bnd_inv hm with ⟨x, e, h1, rfl⟩ | ⟨x, e1, h1, h2⟩
  · exact ha B σ0 σ H env ts R _ h1 _ hq
  · refine ha B σ0 σ H env ts R _ h1 _ fun v H1 ⟨S, g⟩ => ?_
    unfold ap1 at h2
    split at h2
    · rename_i x' hx
      split at h2
      · rename_i d hd
        cases h2
        exact p _ _ _ _ _ _ (fun a z => g.ptrk z) (g.look (j := ts.length) (by simp) hx) hd fun w H2 pp => hq w H2 (g.prim pp)
      · cases h2
    · cases h2
theorem se_op {r : R2} {f : D → D → Option D} (p : P2 C.K r f) (ha : SE C ta ma) (hb : SE C tb mb) : SE C (tOp r ta tb) (mOp f ma mb) := by
  intro B σ0 σ H env ts R z hm Q hq
  rcases bnd_inv hm with ⟨x, e, h1, rfl⟩ | ⟨x, e1, h1, h2⟩
  · exact ha B σ0 σ H env ts R _ h1 _ hq
  · refine ha B σ0 σ H env ts R _ h1 _ fun v H1 R1 => ?_
    rcases bnd_inv h2 with ⟨x2, e, h3, rfl⟩ | ⟨y, e2, h3, h4⟩
    · exact hb B σ0 σ H1 e1 _ R1 _ h3 _ (XW.push hq)
    · refine hb B σ0 σ H1 e1 _ R1 _ h3 _ fun w H2 ⟨S, g⟩ => ?_
      rw [List.append_assoc] at g
      unfold ap2 at h4
      split at h4
      · rename_i x' hx
        split at h4
        · rename_i y' hy
          split at h4
          · rename_i d hd
            cases h4
            exact p _ _ _ _ _ _ _ _ (fun a z => g.ptrk z) (g.look (j := ts.length) (by simp) hx) (g.look (j := ts.length + 1) (by simp) hy) hd fun w H2 pp => hq w H2 (g.prim pp)
          · cases h4
        · cases h4
      · cases h4
theorem lend_peek {B : Bs} {σ0 σ : St} {H : Hp} {env : Env} {ts : List (V × D)} {S : Ix → Addr → Prop} : ∀ {vs : List V} {xs ds : List D} {n : Nat}, Good C B σ0 H σ env ts S → (∀ (j : Nat) v d, (vs.zip xs)[j]? = some (v, d) → ts[n + j]? = some (v, d)) → vs.length = xs.length → lend xs env = some ds → PeekA C.K (pset B S) H vs ds
  | [], [], ds, n, g, h, hl, hd => by cases hd; exact .nil
  | [], _ :: _, ds, n, g, h, hl, hd => by simp at hl
  | _ :: _, [], ds, n, g, h, hl, hd => by simp at hl
  | v :: vs, x :: xs, ds, n, g, h, hl, hd => by
    unfold lend at hd
    split at hd
    · rename_i d h1
      split at hd
      · rename_i ds' h2
        cases hd
        refine .cons (g.look (j := n) (h 0 v x rfl) h1) (lend_peek (n := n + 1) g (fun j v' d' e => ?_) (by simpa using hl) h2)
        have := h (j + 1) v' d' (by simpa using e)
        rw [Nat.add_assoc, Nat.add_comm 1 j]; exact this
      · cases hd
    · cases hd
theorem se_cb {r : List V → Hp → VK → Prop} {f : List D → Option D} (p : PN C.K r f) (ha : SA C tr mr) : SE C (tCB r tr) (mCB f mr) := by
  intro B σ0 σ H env ts R z hm Q hq
  rcases bnd_inv hm with ⟨x, e, h1, rfl⟩ | ⟨x, e1, h1, h2⟩
  · exact ha B σ0 σ H env ts R _ h1 _ hq
  · refine ha B σ0 σ H env ts R _ h1 _ fun vs H1 hl ⟨S, g⟩ => ?_
    unfold apN at h2
    split at h2
    · rename_i ds hds
      split at h2
      · rename_i d hd
        cases h2
        exact p _ _ _ _ _ _ (fun a z => g.ptrk z) (lend_peek (n := ts.length) g (fun j v d e => by rw [List.getElem?_append_right (by omega)]; simpa using e) hl hds) hd fun w H2 pp => hq w H2 (g.prim pp)
      · cases h2
    · cases h2
def mNil : MA := fun e => some (.ok [] e)
def mCons (a : ME) (b : MA) : MA := fun e => bnd (a e) fun x e1 => bnd (b e1) fun xs e2 => some (.ok (x :: xs) e2)
theorem sa_nil : SA C tNil mNil := by
  intro B σ0 σ H env ts R z hm Q hq
  cases hm
  exact hq [] H rfl (by simpa using R)
theorem sa_cons (ha : SE C ta ma) (hb : SA C tr mr) : SA C (tCons ta tr) (mCons ma mr) := by
  intro B σ0 σ H env ts R z hm Q hq
  rcases bnd_inv hm with ⟨x, e, h1, rfl⟩ | ⟨x, e1, h1, h2⟩
  · exact ha B σ0 σ H env ts R _ h1 _ hq
  · refine ha B σ0 σ H env ts R _ h1 _ fun v H1 R1 => ?_
    rcases bnd_inv h2 with ⟨x2, e, h3, rfl⟩ | ⟨ys, e2, h3, h4⟩
    · exact hb B σ0 σ H1 e1 _ R1 _ h3 _ (XW.push hq)
    · refine hb B σ0 σ H1 e1 _ R1 _ h3 _ fun vs H2 hl R2 => ?_
      cases h4
      exact hq (v :: vs) H2 (by simp [hl]) (by simpa using R2)
/-! tests, choices -/
def mTest (a : ME) : MT := fun e => bnd (a e) fun x e1 => match x with
  | .bl b => some (.ok b e1)
  | _ => none
theorem tmp_bl {B : Bs} {σ0 σ : St} {H : Hp} {env : Env} {ts : List (V × D)} {v : V} {b : Bool} (R : Rep C B σ0 H σ env (ts ++ [(v, .bl b)])) : v = .bl b ∧ Rep C B σ0 H σ env ts := by
  refine ⟨?_, R.pop⟩
  obtain ⟨S, g⟩ := R
  rcases g.tmp ts.length v (.bl b) (by simp) with ⟨k, e, _⟩ | h
  · cases e
  · exact (h.dt rfl).inv_bl
theorem st_test (ha : SE C ta ma) : ST C (tTest ta) (mTest ma) := by
  intro B σ0 σ H env ts R z hm Q hq
  rcases bnd_inv hm with ⟨x, e, h1, rfl⟩ | ⟨x, e1, h1, h2⟩
  · exact ha B σ0 σ H env ts R _ h1 _ hq
  · refine ha B σ0 σ H env ts R _ h1 _ fun v H1 R1 => ?_
    split at h2
    · cases h2
      obtain ⟨rfl, R2⟩ := tmp_bl R1
      exact ⟨_, rfl, hq _ R2⟩
    · cases h2
theorem st_tB (ha : SE C ta ma) : ST C (tB ta) (mTest ma) := st_test ha
def truD : D → Option Bool
  | .non => some false
  | .bl b => some b
  | .int i => some (i != 0)
  | .str s => if s.length ≤ 16777216 then some ((s.length : Int) != 0) else none
  | .tup ds => some (!ds.isEmpty)
  | .lst ds => some (!ds.isEmpty)
  | .rol ds => some (!ds.isEmpty)
  | .mls ds => some (!ds.isEmpty)
  | _ => none
def mTru (a : ME) : MT := fun e => bnd (a e) fun x e1 => match res e1 x with
  | some d => (match truD d with | some b => some (.ok b e1) | none => none)
  | none => none
/-- as a sequence -/
inductive SqP (K : KC) (ps : Addr → Prop) (H : Hp) (a : Addr) (ds : List D) : Prop
  | lst {xs : List V} : SqL K H a xs → DtA K ps H xs ds → SqP K ps H a ds
  | tup {xs : List V} : SqT K H a xs → DtA K ps H xs ds → SqP K ps H a ds
theorem Peek.lst {K : KC} {ps : Addr → Prop} {H : Hp} {v : V} {ds : List D} (p : Peek K ps H v (.lst ds)) : ∃ a xs, v = .ref a ∧ H a = some (.lst xs) ∧ DtA K ps H xs ds := by
  obtain ⟨S, h, _⟩ := p
  obtain ⟨a, xs, e, h1, _, h2⟩ := (h.dt rfl).inv_lst
  exact ⟨a, xs, e, h1, h2⟩
theorem Peek.mls {K : KC} {ps : Addr → Prop} {H : Hp} {v : V} {ds : List D} (p : Peek K ps H v (.mls ds)) : ∃ a xs, v = .ref a ∧ H a = some (.lst xs) ∧ DtA K ps H xs ds := by
  obtain ⟨S, h, _⟩ := p
  cases h with
  | fz h _ => cases h
  | mls h1 h2 h3 => exact ⟨_, _, rfl, h1, h2⟩
theorem Peek.dct {K : KC} {ps : Addr → Prop} {H : Hp} {v : V} {ks : List Key} {ds : List D} (p : Peek K ps H v (.dct ks ds)) : ∃ a xs, v = .ref a ∧ Rd H a (.dK (ks.zip xs)) ∧ ks.length = ds.length ∧ DtA K ps H xs ds := by
  obtain ⟨S, h, _⟩ := p
  exact (h.dt rfl).inv_dct
theorem Peek.dtt {K : KC} {ps : Addr → Prop} {H : Hp} {v : V} {ks : List (List Key)} {ds : List D} (p : Peek K ps H v (.dtt ks ds)) : ∃ a xs, v = .ref a ∧ Rd H a (.dT (ks.zip xs)) ∧ ks.length = ds.length ∧ DtA K ps H xs ds := by
  obtain ⟨S, h, _⟩ := p
  exact (h.dt rfl).inv_dtt
theorem Peek.mdc {K : KC} {ps : Addr → Prop} {H : Hp} {v : V} {ks : List Key} {ds : List D} (p : Peek K ps H v (.mdc ks ds)) : ∃ a xs, v = .ref a ∧ H a = some (.dK (ks.zip xs)) ∧ ks.length = ds.length ∧ DtA K ps H xs ds := by
  obtain ⟨S, h, _⟩ := p
  cases h with
  | fz h _ => cases h
  | mdc h1 h4 h2 h3 => exact ⟨_, _, rfl, h1, h4, h2⟩
theorem Peek.mdt {K : KC} {ps : Addr → Prop} {H : Hp} {v : V} {ks : List (List Key)} {ds : List D} (p : Peek K ps H v (.mdt ks ds)) : ∃ a xs, v = .ref a ∧ H a = some (.dT (ks.zip xs)) ∧ ks.length = ds.length ∧ DtA K ps H xs ds := by
  obtain ⟨S, h, _⟩ := p
  cases h with
  | fz h _ => cases h
  | mdt h1 h4 h2 h3 => exact ⟨_, _, rfl, h1, h4, h2⟩
theorem Peek.obj {K : KC} {ps : Addr → Prop} {H : Hp} {v : V} {c : Nat} {fs : List Str} {ds : List D} (p : Peek K ps H v (.obj c fs ds)) : ∃ a C dx xs, v = .ref a ∧ H a = some (.ins C dx (fs.zip xs)) ∧ K.cv c = .ref C ∧ fs.length = ds.length ∧ DtA K ps H xs ds := by
  obtain ⟨S, h, _⟩ := p
  exact (h.dt rfl).inv_obj
/-- a dict with int and text keys -/
def dctD : D → Option (List Key × List D)
  | .dct ks ds => some (ks, ds) | .mdc ks ds => some (ks, ds) | _ => none
theorem Peek.dk {K : KC} {ps : Addr → Prop} {H : Hp} {v : V} {d : D} {ks : List Key} {ds : List D} (p : Peek K ps H v d) (e : dctD d = some (ks, ds)) : ∃ a xs, v = .ref a ∧ Rd H a (.dK (ks.zip xs)) ∧ ks.length = ds.length ∧ DtA K ps H xs ds := by
  cases d <;> cases e
  · exact p.dct
  · obtain ⟨a, xs, e, h1, h2⟩ := p.mdc; exact ⟨a, xs, e, .inl h1, h2⟩
/-- a dict with tuples as keys -/
def dttD : D → Option (List (List Key) × List D)
  | .dtt ks ds => some (ks, ds) | .mdt ks ds => some (ks, ds) | _ => none
theorem Peek.tk {K : KC} {ps : Addr → Prop} {H : Hp} {v : V} {d : D} {ks : List (List Key)} {ds : List D} (p : Peek K ps H v d) (e : dttD d = some (ks, ds)) : ∃ a xs, v = .ref a ∧ Rd H a (.dT (ks.zip xs)) ∧ ks.length = ds.length ∧ DtA K ps H xs ds := by
  cases d <;> cases e
  · exact p.dtt
  · obtain ⟨a, xs, e, h1, h2⟩ := p.mdt; exact ⟨a, xs, e, .inl h1, h2⟩
theorem Peek.rol {K : KC} {ps : Addr → Prop} {H : Hp} {v : V} {ds : List D} (p : Peek K ps H v (.rol ds)) : ∃ a xs, v = .ref a ∧ SqL K H a xs ∧ DtA K ps H xs ds := by
  obtain ⟨S, h, _⟩ := p
  obtain ⟨a, xs, e, h1, h2⟩ := (h.dt rfl).inv_rol
  exact ⟨a, xs, e, h1.sq, h2⟩
theorem Peek.tup {K : KC} {ps : Addr → Prop} {H : Hp} {v : V} {ds : List D} (p : Peek K ps H v (.tup ds)) : ∃ a xs, v = .ref a ∧ SqT K H a xs ∧ DtA K ps H xs ds := by
  obtain ⟨S, h, _⟩ := p
  obtain ⟨a, xs, e, h1, h2⟩ := (h.dt rfl).inv_tup
  exact ⟨a, xs, e, h1.sq, h2⟩
theorem Peek.int {K : KC} {ps : Addr → Prop} {H : Hp} {v : V} {i : Int} (p : Peek K ps H v (.int i)) : v = .int i := by obtain ⟨S, h, _⟩ := p; exact (h.dt rfl).inv_int
theorem Peek.str {K : KC} {ps : Addr → Prop} {H : Hp} {v : V} {i : Str} (p : Peek K ps H v (.str i)) : v = .str i := by obtain ⟨S, h, _⟩ := p; exact (h.dt rfl).inv_str
theorem Peek.bl {K : KC} {ps : Addr → Prop} {H : Hp} {v : V} {i : Bool} (p : Peek K ps H v (.bl i)) : v = .bl i := by obtain ⟨S, h, _⟩ := p; exact (h.dt rfl).inv_bl
theorem Peek.non {K : KC} {ps : Addr → Prop} {H : Hp} {v : V} (p : Peek K ps H v .non) : v = .non := by obtain ⟨S, h, _⟩ := p; exact (h.dt rfl).inv_non
theorem Peek.cst {K : KC} {ps : Addr → Prop} {H : Hp} {v c : V} (p : Peek K ps H v (.cst c)) : v = c := by obtain ⟨S, h, _⟩ := p; exact (h.dt rfl).inv_cst
theorem Peek.no_al {K : KC} {ps : Addr → Prop} {H : Hp} {v : V} {k : Nat} (p : Peek K ps H v (.al k)) : False := by
  obtain ⟨S, h, _⟩ := p
  exact Bool.noConfusion h.noAl
/-- the items of a list or tuple -/
def seqD : D → Option (List D)
  | .tup ds => some ds | .lst ds => some ds | .rol ds => some ds | .mls ds => some ds | _ => none
theorem Peek.seq {K : KC} {ps : Addr → Prop} {H : Hp} {v : V} {d : D} {ds : List D} (p : Peek K ps H v d) (e : seqD d = some ds) : ∃ a xs, v = .ref a ∧ (SqL K H a xs ∨ SqT K H a xs) ∧ DtA K ps H xs ds := by
  cases d <;> cases e
  · obtain ⟨a, xs, e, h1, h2⟩ := p.tup; exact ⟨a, xs, e, .inr h1, h2⟩
  · obtain ⟨a, xs, e, h1, h2⟩ := p.lst; exact ⟨a, xs, e, .inl (SqL.of h1), h2⟩
  · obtain ⟨a, xs, e, h1, h2⟩ := p.rol; exact ⟨a, xs, e, .inl h1, h2⟩
  · obtain ⟨a, xs, e, h1, h2⟩ := p.mls; exact ⟨a, xs, e, .inl (SqL.of h1), h2⟩
end
end Q


namespace Q
open PySem L2
section
variable {C : Cn} {te ta tb tc : TE} {ma mb mc : ME} {tt tu : TT} {mt mu : MT} {tr : TA} {mr : MA}
theorem isEmpty_dt {K : KC} {ps : Addr → Prop} {H : Hp} {xs : List V} {ds : List D} (h : DtA K ps H xs ds) : (!xs.isEmpty) = !ds.isEmpty := by
  have := h.1
  cases xs <;> cases ds <;> simp_all
theorem tru_of {K : KC} {ps : Addr → Prop} {H : Hp} {v : V} {d : D} {b : Bool} (p : Peek K ps H v d) (h : truD d = some b) : TruV K v H b := by
  cases d with
  | non => cases h; rw [p.non]; rfl
  | bl b' => cases h; rw [p.bl]; rfl
  | int i => cases h; rw [p.int]; rfl
  | str s =>
    simp only [truD] at h
    split at h
    · rename_i hs
      cases h; rw [p.str]; exact ⟨by rw [sizeLine_eq]; exact hs, rfl⟩
    · cases h
  | tup ds => cases h; obtain ⟨a, xs, rfl, h1, h2⟩ := p.tup; exact .inr (.inl ⟨xs, h1, (isEmpty_dt h2).symm⟩)
  | lst ds => cases h; obtain ⟨a, xs, rfl, h1, h2⟩ := p.lst; exact .inl ⟨xs, SqL.of h1, (isEmpty_dt h2).symm⟩
  | rol ds => cases h; obtain ⟨a, xs, rfl, h1, h2⟩ := p.rol; exact .inl ⟨xs, h1, (isEmpty_dt h2).symm⟩
  | mls ds => cases h; obtain ⟨a, xs, rfl, h1, h2⟩ := p.mls; exact .inl ⟨xs, SqL.of h1, (isEmpty_dt h2).symm⟩
  | _ => cases h
theorem st_tru (ha : SE C ta ma) : ST C (tTru C.K ta) (mTru ma) := by
  intro B σ0 σ H env ts R z hm Q hq
  rcases bnd_inv hm with ⟨x, e, h1, rfl⟩ | ⟨x, e1, h1, h2⟩
  · exact ha B σ0 σ H env ts R _ h1 _ hq
  · refine ha B σ0 σ H env ts R _ h1 _ fun v H1 ⟨S, g⟩ => ?_
    split at h2
    · rename_i d hd
      split at h2
      · rename_i b hb
        cases h2
        exact ⟨b, tru_of (g.look (j := ts.length) (by simp) hd) hb, hq _ ⟨S, g.pop⟩⟩
      · cases h2
    · cases h2
def mAnd (a b : MT) : MT := fun e => bnd (a e) fun c e1 => if c = true then b e1 else some (.ok false e1)
def mOr (a b : MT) : MT := fun e => bnd (a e) fun c e1 => if c = true then some (.ok true e1) else b e1
def mNot (a : MT) : MT := fun e => bnd (a e) fun c e1 => some (.ok (!c) e1)
theorem st_and (ha : ST C tt mt) (hb : ST C tu mu) : ST C (tAnd tt tu) (mAnd mt mu) := by
  intro B σ0 σ H env ts R z hm Q hq
  rcases bnd_inv hm with ⟨x, e, h1, rfl⟩ | ⟨c, e1, h1, h2⟩
  · exact ha B σ0 σ H env ts R _ h1 _ hq
  · refine ha B σ0 σ H env ts R _ h1 _ fun H1 R1 => ?_
    cases c with
    | true => rw [if_pos rfl] at h2 ⊢; exact hb B σ0 σ H1 e1 ts R1 _ h2 _ hq
    | false => rw [if_neg Bool.false_ne_true] at h2 ⊢; cases h2; exact hq _ R1
theorem st_or (ha : ST C tt mt) (hb : ST C tu mu) : ST C (tOr tt tu) (mOr mt mu) := by
  intro B σ0 σ H env ts R z hm Q hq
  rcases bnd_inv hm with ⟨x, e, h1, rfl⟩ | ⟨c, e1, h1, h2⟩
  · exact ha B σ0 σ H env ts R _ h1 _ hq
  · refine ha B σ0 σ H env ts R _ h1 _ fun H1 R1 => ?_
    cases c with
    | true => rw [if_pos rfl] at h2 ⊢; cases h2; exact hq _ R1
    | false => rw [if_neg Bool.false_ne_true] at h2 ⊢; exact hb B σ0 σ H1 e1 ts R1 _ h2 _ hq
theorem st_not (ha : ST C tt mt) : ST C (tNot tt) (mNot mt) := by
  intro B σ0 σ H env ts R z hm Q hq
  rcases bnd_inv hm with ⟨x, e, h1, rfl⟩ | ⟨c, e1, h1, h2⟩
  · exact ha B σ0 σ H env ts R _ h1 _ hq
  · cases h2
    exact ha B σ0 σ H env ts R _ h1 _ fun H1 R1 => hq _ R1
theorem st_yes : ST C tYes (fun e => some (.ok true e)) := by
  intro B σ0 σ H env ts R z hm Q hq
  cases hm
  exact hq _ R
def mIfE (t : MT) (a b : ME) : ME := fun e => bnd (t e) fun c e1 => if c = true then a e1 else b e1
theorem se_if (ht : ST C tt mt) (ha : SE C ta ma) (hb : SE C tb mb) : SE C (tIf tt ta tb) (mIfE mt ma mb) := by
  intro B σ0 σ H env ts R z hm Q hq
  rcases bnd_inv hm with ⟨x, e, h1, rfl⟩ | ⟨c, e1, h1, h2⟩
  · exact ht B σ0 σ H env ts R _ h1 _ hq
  · refine ht B σ0 σ H env ts R _ h1 _ fun H1 R1 => ?_
    cases c with
    | true => rw [if_pos rfl] at h2 ⊢; exact ha B σ0 σ H1 e1 ts R1 _ h2 _ hq
    | false => rw [if_neg Bool.false_ne_true] at h2 ⊢; exact hb B σ0 σ H1 e1 ts R1 _ h2 _ hq
theorem push_bl {B : Bs} {σ0 σ : St} {H : Hp} {env : Env} {ts : List (V × D)} (b : Bool) (R : Rep C B σ0 H σ env ts) : Rep C B σ0 H σ env (ts ++ [(.bl b, .bl b)]) := by
  obtain ⟨S, g⟩ := R
  exact Good.prim (ts1 := []) (by rw [List.append_nil]; exact g) (Post.dt (.bl b))
def mAndV (a b : ME) : ME := fun e => bnd (a e) fun x e1 => match x with
  | .bl true => b e1
  | .bl false => some (.ok (.bl false) e1)
  | _ => none
def mOrV (a b : ME) : ME := fun e => bnd (a e) fun x e1 => match x with
  | .bl true => some (.ok (.bl true) e1)
  | .bl false => b e1
  | _ => none
def mNotV (a : ME) : ME := fun e => bnd (a e) fun x e1 => match x with
  | .bl b => some (.ok (.bl (!b)) e1)
  | _ => none
theorem se_andV (ha : SE C ta ma) (hb : SE C tb mb) : SE C (tAndV ta tb) (mAndV ma mb) := by
  intro B σ0 σ H env ts R z hm Q hq
  rcases bnd_inv hm with ⟨x, e, h1, rfl⟩ | ⟨x, e1, h1, h2⟩
  · exact ha B σ0 σ H env ts R _ h1 _ hq
  · refine ha B σ0 σ H env ts R _ h1 _ fun v H1 R1 => ?_
    split at h2
    · obtain ⟨rfl, R2⟩ := tmp_bl R1
      exact ⟨true, rfl, by rw [if_pos rfl]; exact hb B σ0 σ H1 e1 ts R2 _ h2 _ hq⟩
    · cases h2
      obtain ⟨rfl, R2⟩ := tmp_bl R1
      exact ⟨false, rfl, by rw [if_neg Bool.false_ne_true]; exact hq _ _ R1⟩
    · cases h2
theorem se_orV (ha : SE C ta ma) (hb : SE C tb mb) : SE C (tOrV ta tb) (mOrV ma mb) := by
  intro B σ0 σ H env ts R z hm Q hq
  rcases bnd_inv hm with ⟨x, e, h1, rfl⟩ | ⟨x, e1, h1, h2⟩
  · exact ha B σ0 σ H env ts R _ h1 _ hq
  · refine ha B σ0 σ H env ts R _ h1 _ fun v H1 R1 => ?_
    split at h2
    · cases h2
      obtain ⟨rfl, R2⟩ := tmp_bl R1
      exact ⟨true, rfl, by rw [if_pos rfl]; exact hq _ _ R1⟩
    · obtain ⟨rfl, R2⟩ := tmp_bl R1
      exact ⟨false, rfl, by rw [if_neg Bool.false_ne_true]; exact hb B σ0 σ H1 e1 ts R2 _ h2 _ hq⟩
    · cases h2
theorem se_notV (ha : SE C ta ma) : SE C (tNotV ta) (mNotV ma) := by
  intro B σ0 σ H env ts R z hm Q hq
  rcases bnd_inv hm with ⟨x, e, h1, rfl⟩ | ⟨x, e1, h1, h2⟩
  · exact ha B σ0 σ H env ts R _ h1 _ hq
  · refine ha B σ0 σ H env ts R _ h1 _ fun v H1 R1 => ?_
    split at h2
    · cases h2
      obtain ⟨rfl, R2⟩ := tmp_bl R1
      exact ⟨_, rfl, hq _ _ (push_bl _ R2)⟩
    · cases h2
/-! taking what an alias names -/
def tk (x : D) (e : Env) : Option (D × Env) := match x with
  | .al k => (match e[k]? with
    | some (some d) => some (frz d, e.set k (some (frz d)))
    | _ => none)
  | d => some (d, e)
/-- taken into a container -/
def tkf (x : D) (e : Env) : Option (D × Env) := match tk x e with
  | some (d, e1) => some (frz d, e1)
  | none => none
theorem frz_fz {K : KC} {ps : Addr → Prop} {H : Hp} {v : V} {d : D} (h : Dt K ps H v d) : frz d = d := by cases h <;> rfl
section
variable {B : Bs} {σ0 σ : St} {H H1 : Hp} {env env1 : Env} {ts ts1 : List (V × D)} {S : Ix → Addr → Prop} {v : V} {d : D}
theorem nsub {s : Ix → Addr → Prop} {k : Ix} {a : Addr} (g : Good C B σ0 H σ env ts S) (z : pset B (su S k fun _ => False) a) : pset B S a ∧ ¬ S k a := by
  rcases z with z | ⟨i, ⟨_, z⟩ | ⟨hi, z⟩⟩
  · exact ⟨.inl z, fun w => (g.sub k a w).2 z⟩
  · exact z.elim
  · exact ⟨.inr ⟨i, z⟩, fun w => hi (g.dis _ _ a z w)⟩
/-- slot k is given up for all -/
theorem Good.freeze (g : Good C B σ0 H σ env ts S) {k : Nat} (he : env[k]? = some (some d)) : Good C B σ0 H σ (env.set k (some (frz d))) ts (su S (.inl k) fun _ => False) := by
  obtain ⟨v, hv, ho⟩ := g.slot k d he
  exact g.put he hv _ .refl (fun a z => z.elim) (.fz (ho.frz fun a z => nsub (s := S) g z) fun _ z => z)
/-- the alias on top is taken -/
theorem Good.taken (g : Good C B σ0 H σ env (ts ++ (v, d) :: ts1) S) {d' : D} (h : tk d env = some (d', env1)) : ∃ S1, Good C B σ0 H σ env1 (ts ++ (v, d') :: ts1) S1 ∧ Ow C.K (pset B S1) H v d' (S1 (.inr ts.length)) := by
  have e : (ts ++ (v, d) :: ts1)[ts.length]? = some (v, d) := by simp
  rcases g.tmp _ v d e with ⟨k, rfl, h2⟩ | ho
  · simp only [tk] at h
    split at h
    case h_2 => cases h
    rename_i d0 h3
    cases h
    obtain ⟨v', hv', ho⟩ := g.slot k d0 h3
    rw [h2] at hv'; cases hv'
    have hdt : Dt C.K (pset B (su S (.inl k) fun _ => False)) H v (frz d0) := ho.frz fun a z => nsub (s := S) g z
    have g1 := g.freeze h3
    obtain ⟨a1, a2, a3, a4, a5, a6, a7⟩ := g1.upd (.inr ts.length) (fun _ => False) .refl (fun a z => z.elim)
    have hdt2 : Dt C.K (pset B (su (su S (.inl k) fun _ => False) (.inr ts.length) fun _ => False)) H v (frz d0) := hdt.move .refl fun a z => (a5 a z)
    have how : Ow C.K (pset B (su (su S (.inl k) fun _ => False) (.inr ts.length) fun _ => False)) H v (frz d0) (su (su S (.inl k) fun _ => False) (.inr ts.length) (fun _ => False) (.inr ts.length)) := .fz hdt2 fun b z => su_same.mp z
    refine ⟨_, ⟨a1, g.fr, a2, a3, a4, g1.len, g1.keep, fun i d' e => ?_, fun j v' d' e => ?_, fun p hp => (g1.hld p hp).move a6 a5, g1.fx⟩, how⟩
    · obtain ⟨w, h1, h2⟩ := g1.slot i d' e
      exact ⟨w, h1, a7 (.inl i) w d' (by simp) h2⟩
    · by_cases hj : j = ts.length
      · subst hj
        simp at e
        obtain ⟨rfl, rfl⟩ := e
        exact .inr how
      · have e2 : (ts ++ (v, D.al k) :: ts1)[j]? = some (v', d') := by
          by_cases hj2 : j < ts.length
          · rw [List.getElem?_append_left hj2] at e ⊢; exact e
          · rw [List.getElem?_append_right (by omega)] at e ⊢
            obtain ⟨m, hm⟩ : ∃ m, j - ts.length = m + 1 := ⟨j - ts.length - 1, by omega⟩
            rw [hm] at e ⊢
            simpa using e
        rcases g1.tmp j v' d' e2 with h | h
        · exact .inl h
        · exact .inr (a7 (.inr j) v' d' (by simp [hj]) h)
  · have hn := ho.noAl
    have : tk d env = some (d, env) := by cases d <;> first | rfl | cases hn
    rw [this] at h; cases h
    exact ⟨S, g, ho⟩
/-- and given up -/
theorem Good.takenF (g : Good C B σ0 H σ env (ts ++ (v, d) :: ts1) S) {d' : D} (h : tkf d env = some (d', env1)) : ∃ S1, Good C B σ0 H σ env1 (ts ++ (v, d') :: ts1) S1 ∧ Dt C.K (pset B S1) H v d' := by
  unfold tkf at h
  split at h
  · rename_i d0 e1 h0
    cases h
    obtain ⟨S1, g1, ho⟩ := g.taken h0
    obtain ⟨a1, a2, a3, a4, a5, a6, a7⟩ := g1.upd (.inr ts.length) (fun _ => False) .refl (fun a z => z.elim)
    have hdt : Dt C.K (pset B (su S1 (.inr ts.length) fun _ => False)) H v (frz d0) := ho.frz fun a z => nsub (s := S1) g1 z
    refine ⟨_, ⟨a1, g1.fr, a2, a3, a4, g1.len, g1.keep, fun i d' e => ?_, fun j v' d' e => ?_, fun p hp => (g1.hld p hp).move a6 a5, g1.fx⟩, hdt⟩
    · obtain ⟨w, h1, h2⟩ := g1.slot i d' e
      exact ⟨w, h1, a7 (.inl i) w d' (by simp) h2⟩
    · by_cases hj : j = ts.length
      · subst hj
        simp at e
        obtain ⟨rfl, rfl⟩ := e
        exact .inr (.fz hdt fun b z => su_same.mp z)
      · have e2 : (ts ++ (v, d0) :: ts1)[j]? = some (v', d') := by
          by_cases hj2 : j < ts.length
          · rw [List.getElem?_append_left hj2] at e ⊢; exact e
          · rw [List.getElem?_append_right (by omega)] at e ⊢
            obtain ⟨m, hm⟩ : ∃ m, j - ts.length = m + 1 := ⟨j - ts.length - 1, by omega⟩
            rw [hm] at e ⊢
            simpa using e
        rcases g1.tmp j v' d' e2 with h | h
        · exact .inl h
        · exact .inr (a7 (.inr j) v' d' (by simp [hj]) h)
  · cases h
def tkfA : List D → Env → Option (List D × Env)
  | [], e => some ([], e)
  | x :: xs, e => match tkf x e with
    | some (y, e1) => (match tkfA xs e1 with
      | some (ys, e2) => some (y :: ys, e2)
      | none => none)
    | none => none
theorem Good.takenA : ∀ {vs : List V} {xs ys : List D} {ts : List (V × D)} {env env1 : Env} {S : Ix → Addr → Prop}, Good C B σ0 H σ env (ts ++ vs.zip xs) S → vs.length = xs.length → tkfA xs env = some (ys, env1) → ∃ S1, Good C B σ0 H σ env1 (ts ++ vs.zip ys) S1 ∧ vs.length = ys.length ∧ ∀ (i : Nat) v d, vs[i]? = some v → ys[i]? = some d → isFz d = true
  | [], [], ys, ts, env, env1, S, g, hl, h => by
    cases h
    exact ⟨S, g, rfl, fun i v d e => by simp at e⟩
  | [], _ :: _, ys, ts, env, env1, S, g, hl, h => by simp at hl
  | _ :: _, [], ys, ts, env, env1, S, g, hl, h => by simp at hl
  | v :: vs, x :: xs, ys, ts, env, env1, S, g, hl, h => by
    unfold tkfA at h
    split at h
    · rename_i y e1 h1
      split at h
      · rename_i ys' e2 h2
        cases h
        obtain ⟨S1, g1, hd⟩ := Good.takenF (ts1 := vs.zip xs) (by simpa using g) h1
        obtain ⟨S2, g2, hl2, hf⟩ := Good.takenA (ts := ts ++ [(v, y)]) (vs := vs) (xs := xs) (by simpa using g1) (by simpa using hl) h2
        refine ⟨S2, by simpa using g2, by simp [hl2], fun i v' d' e1 e2 => ?_⟩
        cases i with
        | zero =>
          simp at e1 e2
          subst e1 e2
          cases hd <;> rfl
        | succ i => exact hf i v' d' (by simpa using e1) (by simpa using e2)
      · cases h
    · cases h
theorem Good.dtA {vs : List V} {ys : List D} (g : Good C B σ0 H σ env (ts ++ vs.zip ys) S) (hl : vs.length = ys.length) (hf : ∀ (i : Nat) v d, vs[i]? = some v → ys[i]? = some d → isFz d = true) : DtA C.K (pset B S) H vs ys := by
  refine ⟨hl, fun i v d e1 e2 => ?_⟩
  have e : (ts ++ vs.zip ys)[ts.length + i]? = some (v, d) := by
    rw [List.getElem?_append_right (by omega), Nat.add_sub_cancel_left, List.getElem?_zip_eq_some]
    exact ⟨e1, e2⟩
  rcases g.tmp _ v d e with ⟨k, rfl, _⟩ | ho
  · have := hf i v _ e1 e2
    cases this
  · exact ho.dt (hf i v d e1 e2)
end
def mLst (a : MA) : ME := fun e => bnd (a e) fun xs e1 => match tkfA xs e1 with
  | some (ys, e2) => if ys.length ≤ 16777216 then some (.ok (.mls ys) e2) else none
  | none => none
def mTup (a : MA) : ME := fun e => bnd (a e) fun xs e1 => match tkfA xs e1 with
  | some (ys, e2) => if ys.length ≤ 16777216 then some (.ok (.tup ys) e2) else none
  | none => none
theorem se_lst (ha : SA C tr mr) : SE C (tLst tr) (mLst mr) := by
  intro B σ0 σ H env ts R z hm Q hq
  rcases bnd_inv hm with ⟨x, e, h1, rfl⟩ | ⟨x, e1, h1, h2⟩
  · exact ha B σ0 σ H env ts R _ h1 _ hq
  · refine ha B σ0 σ H env ts R _ h1 _ fun vs H1 hl ⟨S, g⟩ => ?_
    split at h2
    · rename_i ys e2 h3
      split at h2
      · rename_i hsz
        cases h2
        obtain ⟨S1, g1, hl1, hf⟩ := g.takenA hl h3
        refine ⟨by rw [hl1, sizeLine_eq]; exact hsz, fun p hp => hq _ _ (g1.prim (Post.lst hp (g1.dtA hl1 hf)))⟩
      · cases h2
    · cases h2
theorem se_tup (ha : SA C tr mr) : SE C (tTup tr) (mTup mr) := by
  intro B σ0 σ H env ts R z hm Q hq
  rcases bnd_inv hm with ⟨x, e, h1, rfl⟩ | ⟨x, e1, h1, h2⟩
  · exact ha B σ0 σ H env ts R _ h1 _ hq
  · refine ha B σ0 σ H env ts R _ h1 _ fun vs H1 hl ⟨S, g⟩ => ?_
    split at h2
    · rename_i ys e2 h3
      split at h2
      · rename_i hsz
        cases h2
        obtain ⟨S1, g1, hl1, hf⟩ := g.takenA hl h3
        refine ⟨by rw [hl1, sizeLine_eq]; exact hsz, fun p hp => hq _ _ (g1.prim (Post.tup (fun a z => g1.ptrk z) hp (g1.dtA hl1 hf)))⟩
      · cases h2
    · cases h2
end
end Q


namespace Q
open PySem L2
theorem res_self {e : Env} {d : D} (h : isAl d = false) : res e d = some d := by cases d <;> first | rfl | cases h
/-! ### statements -/
inductive Fl where
  | nx | bk | ct
  | rt (d : D)
abbrev MS := M Fl
def NoAl (ts : List (V × D)) : Prop := ∀ p ∈ ts, isAl p.2 = false
def SOk (C : Cn) (B : Bs) (σ0 : St) (ts : List (V × D)) (E : Ends) : Rs Fl → Prop
  | .ok .nx e => ∀ σ' H', Rep C B σ0 H' σ' e ts → E.nx σ' H'
  | .ok .bk e => ∀ σ' H', Rep C B σ0 H' σ' e ts → E.bk σ' H'
  | .ok .ct e => ∀ σ' H', Rep C B σ0 H' σ' e ts → E.ct σ' H'
  | .ok (.rt d) e => ∀ v σ' H', isAl d = false → Rep C B σ0 H' σ' e (ts ++ [(v, d)]) → E.rt v H'
  | .ex x e => ∀ σ', XW C B σ0 σ' ts x e
def SS (C : Cn) (t : TS) (m : MS) : Prop := ∀ B σ0 σ H env ts, Rep C B σ0 H σ env ts → NoAl ts → ∀ r, m env = some r → ∀ E, SOk C B σ0 ts E r → t E σ H
/-- what is done with a value: a target -/
abbrev MG := D → Env → Option Env
def SG (C : Cn) (g : TG) (m : MG) : Prop := ∀ B σ0 σ H env ts v d e', Rep C B σ0 H σ env (ts ++ [(v, d)]) → isAl d = false → NoAl ts → m d env = some e' → ∀ N, (∀ σ' H', Rep C B σ0 H' σ' e' ts → N σ' H') → g v σ H N
abbrev MGs := List D → Env → Option Env
def SGs (C : Cn) (g : TGs) (m : MGs) : Prop := ∀ B σ0 σ H env ts vs ds e', Rep C B σ0 H σ env (ts ++ vs.zip ds) → vs.length = ds.length → (∀ d ∈ ds, isFz d = true) → NoAl ts → m ds env = some e' → ∀ N, (∀ σ' H', Rep C B σ0 H' σ' e' ts → N σ' H') → g vs σ H N
section
variable {C : Cn} {B : Bs} {σ0 σ : St} {H H1 : Hp} {env env1 : Env} {ts ts1 : List (V × D)} {S : Ix → Addr → Prop} {v : V} {d : D}
/-- the temporary on top goes into slot n -/
theorem Good.asg (g : Good C B σ0 H σ env (ts ++ (v, d) :: ts1) S) (hd : isAl d = false) (ht : NoAl ts) (ht1 : NoAl ts1) (n : Nat) (hA : C.A n = true) : Good C B σ0 H (σ.set n (some v)) (env.set n (some d)) (ts ++ (.non, .non) :: ts1) (su (su S (.inr ts.length) fun _ => False) (.inl n) (S (.inr ts.length))) := by
  have ho : Ow C.K (pset B S) H v d (S (.inr ts.length)) := by
    rcases g.tmp ts.length v d (by simp) with ⟨k, rfl, _⟩ | h
    · cases hd
    · exact h
  have hsub : ∀ i a, su (su S (.inr ts.length) fun _ => False) (.inl n) (S (.inr ts.length)) i a → ∃ j, S j a ∧ (i ≠ .inl n → j = i ∧ i ≠ .inr ts.length) ∧ (i = .inl n → j = .inr ts.length) := by
    rintro i a (⟨rfl, h⟩ | ⟨hi, ⟨rfl, h⟩ | ⟨hi2, h⟩⟩)
    · exact ⟨_, h, fun z => absurd rfl z, fun _ => rfl⟩
    · exact h.elim
    · exact ⟨i, h, fun _ => ⟨rfl, hi2⟩, fun z => absurd z hi⟩
  have hp : ∀ a, pset B (su (su S (.inr ts.length) fun _ => False) (.inl n) (S (.inr ts.length))) a → pset B S a := by
    rintro a (h | ⟨i, h⟩)
    · exact .inl h
    · obtain ⟨j, hj, _⟩ := hsub i a h; exact .inr ⟨j, hj⟩
  have mv : ∀ {v d s}, Ow C.K (pset B S) H v d s → Ow C.K (pset B (su (su S (.inr ts.length) fun _ => False) (.inl n) (S (.inr ts.length)))) H v d s := fun h => h.move .refl (fun a z => .inl (hp a z)) fun _ _ => rfl
  refine ⟨g.kp, g.fr, fun i a h => ?_, fun i a h => ?_, fun i j a h1 h2 => ?_, by rw [List.length_set, List.length_set]; exact g.len, ⟨fun j hj => ?_, by rw [List.length_set]; exact g.keep.2⟩, fun i d' e => ?_, fun j v' d' e => ?_, fun p hq => (g.hld p hq).move .refl fun a z => .inl (hp a z), g.fx⟩
  · obtain ⟨j, hj, _⟩ := hsub i a h; exact g.sub j a hj
  · obtain ⟨j, hj, _⟩ := hsub i a h; exact g.trk j a hj
  · obtain ⟨k1, q1, p1, r1⟩ := hsub i a h1
    obtain ⟨k2, q2, p2, r2⟩ := hsub j a h2
    have e := g.dis _ _ a q1 q2
    by_cases e1 : i = .inl n
    · by_cases e2 : j = .inl n
      · rw [e1, e2]
      · have := r1 e1; have := p2 e2; exact absurd (by rw [← this.1, ← e, r1 e1]) (p2 e2).2
    · by_cases e2 : j = .inl n
      · exact absurd (by rw [← (p1 e1).1, e, r2 e2]) (p1 e1).2
      · rw [← (p1 e1).1, ← (p2 e2).1]; exact e
  · rw [List.getElem?_set_ne (fun z => by subst z; rw [hA] at hj; cases hj)]; exact g.keep.1 j hj
  · by_cases hi : i = n
    · subst hi
      have hl : i < env.length := by
        have := (List.getElem?_eq_some_iff.mp e).1
        simpa using this
      rw [List.getElem?_set_self hl] at e
      cases e
      exact ⟨v, by rw [List.getElem?_set_self (by rw [g.len]; exact hl)], (mv ho).iff fun b => su_same⟩
    · rw [List.getElem?_set_ne (Ne.symm hi)] at e
      obtain ⟨w, h1, h2⟩ := g.slot i d' e
      refine ⟨w, by rw [List.getElem?_set_ne (Ne.symm hi)]; exact h1, (mv h2).iff fun b => ?_⟩
      rw [su_ne (by simp [hi]), su_ne (by simp)]
  · by_cases hj : j = ts.length
    · subst hj
      simp at e
      obtain ⟨rfl, rfl⟩ := e
      refine .inr (.fz .non fun b z => ?_)
      rw [su_ne (by simp)] at z
      exact su_same.mp z
    · have e2 : (ts ++ (v, d) :: ts1)[j]? = some (v', d') := by
        by_cases hj2 : j < ts.length
        · rw [List.getElem?_append_left hj2] at e ⊢; exact e
        · rw [List.getElem?_append_right (by omega)] at e ⊢
          obtain ⟨m, hm⟩ : ∃ m, j - ts.length = m + 1 := ⟨j - ts.length - 1, by omega⟩
          rw [hm] at e ⊢
          simpa using e
      have hna : isAl d' = false := by
        by_cases hj2 : j < ts.length
        · rw [List.getElem?_append_left hj2] at e
          exact ht _ (List.mem_of_getElem? e)
        · rw [List.getElem?_append_right (by omega)] at e
          obtain ⟨m, hm⟩ : ∃ m, j - ts.length = m + 1 := ⟨j - ts.length - 1, by omega⟩
          rw [hm] at e
          exact ht1 _ (List.mem_of_getElem? (by simpa using e))
      rcases g.tmp j v' d' e2 with ⟨k, rfl, _⟩ | h
      · cases hna
      · refine .inr ((mv h).iff fun b => ?_)
        rw [su_ne (by simp), su_ne (by simp [hj])]
theorem NoAl.snoc (h : NoAl ts) (hd : isAl d = false) : NoAl (ts ++ [(v, d)]) := fun p hp => by
  rcases List.mem_append.mp hp with hp | hp
  · exact h p hp
  · simp at hp; subst hp; exact hd
end
def gNm (n : Nat) : MG := fun d e => some (e.set n (some d))
theorem sg_name {C : Cn} {n : Nat} (hA : C.A n = true) : SG C (gName n) (gNm n) := by
  rintro B σ0 σ H env ts v d e' ⟨S, g⟩ hd ht hm N hN
  cases hm
  exact hN _ _ ⟨_, (g.asg (ts1 := []) hd ht (fun p hp => by simp at hp) n hA).pop⟩
def gsNil : MGs := fun ds e => match ds with | [] => some e | _ => none
def gsCons (g : MG) (r : MGs) : MGs := fun ds e => match ds with
  | d :: ds => (match g d e with | some e1 => r ds e1 | none => none)
  | [] => none
theorem sgs_nil {C : Cn} : SGs C gNil gsNil := by
  rintro B σ0 σ H env ts vs ds e' R hl hf ht hm N hN
  cases ds with
  | nil =>
    cases hm
    have : vs = [] := List.eq_nil_of_length_eq_zero (by simpa using hl)
    subst this
    exact ⟨rfl, hN _ _ (by simpa using R)⟩
  | cons d ds => cases hm
/-- a name takes the first of several -/
theorem sgs_name {C : Cn} {n : Nat} {t : TGs} {m : MGs} (hA : C.A n = true) (h : SGs C t m) : SGs C (gCons (gName n) t) (gsCons (gNm n) m) := by
  rintro B σ0 σ H env ts vs ds e' R hl hf ht hm N hN
  cases ds with
  | nil => cases hm
  | cons d ds =>
    cases vs with
    | nil => simp at hl
    | cons v vs =>
      refine ⟨v, vs, rfl, ?_⟩
      obtain ⟨S, g⟩ := R
      have hz : NoAl (vs.zip ds) := fun p hp => by
        obtain ⟨x, y⟩ := p
        have := hf y (List.mem_cons_of_mem _ (List.of_mem_zip hp).2)
        cases y <;> first | rfl | cases this
      have hd : isAl d = false := by
        have := hf d (by simp)
        cases d <;> first | rfl | cases this
      have g1 := Good.asg (ts1 := vs.zip ds) (by simpa using g) hd ht hz n hA
      refine h B σ0 _ H _ (ts ++ [(.non, .non)]) vs ds e' ⟨_, by simpa using g1⟩ (by simpa using hl) (fun d' hd' => hf d' (by simp [hd'])) (ht.snoc rfl) hm N fun σ' H' R' => hN σ' H' R'.pop
/-- a, b = .. -/
def gUn (n : Nat) (m : MGs) : MG := fun d e => match seqD d with
  | some ds => if ds.length = n then m ds e else none
  | none => none
section
variable {C : Cn} {te ta tb tc : TE} {ma mb mc : ME} {tt tu : TT} {mt mu : MT} {tr : TA} {mr : MA} {t u : TS} {ms mv : MS}
theorem pushA {B : Bs} {σ0 σ : St} {H : Hp} {env : Env} : ∀ {vs : List V} {ds : List D} {ts : List (V × D)} {S : Ix → Addr → Prop}, Good C B σ0 H σ env ts S → DtA C.K (pset B S) H vs ds → (∀ d ∈ ds, isFz d = true) ∧ Rep C B σ0 H σ env (ts ++ vs.zip ds)
  | [], [], ts, S, g, h => ⟨fun d hd => by simp at hd, by simp only [List.zip_nil_left, List.append_nil]; exact ⟨S, g⟩⟩
  | [], _ :: _, ts, S, g, h => by have := h.1; simp at this
  | _ :: _, [], ts, S, g, h => by have := h.1; simp at this
  | v :: vs, d :: ds, ts, S, g, h => by
    have hd : Dt C.K (pset B S) H v d := h.2 0 v d rfl rfl
    have ht : DtA C.K (pset B S) H vs ds := ⟨by simpa using h.1, fun i x y e1 e2 => h.2 (i + 1) x y (by simpa using e1) (by simpa using e2)⟩
    have g1 := g.push (H1 := H) (v := v) (d := d) ts.length (Nat.le_refl _) (fun _ => False) .refl (fun a z => z.elim) (.fz (hd.move .refl fun a z => .inl (nsub (s := S) g z).1) fun _ z => z)
    rw [List.take_length] at g1
    obtain ⟨h1, h2⟩ := pushA (vs := vs) (ds := ds) g1 (ht.move .refl fun a z => .inl (nsub (s := S) g z).1)
    refine ⟨fun d' hd' => ?_, by simpa using h2⟩
    rcases List.mem_cons.mp hd' with rfl | hd'
    · cases hd <;> rfl
    · exact h1 d' hd'
theorem sg_unp {n : Nat} {g : TGs} {m : MGs} (h : SGs C g m) : SG C (gUnp C.K n g) (gUn n m) := by
  rintro B σ0 σ H env ts v d e' ⟨S, gd⟩ hd ht hm N hN
  unfold gUn at hm
  split at hm
  · rename_i ds hs
    split at hm
    · rename_i hn
      have pk := gd.look (j := ts.length) (v := v) (d := d) (by simp) (res_self hd)
      obtain ⟨a, xs, rfl, hq, hA⟩ := pk.seq hs
      obtain ⟨hf, R⟩ := pushA gd.pop hA
      have go := h B σ0 σ H env ts xs ds e' R hA.1 hf ht hm N hN
      rcases hq with hq | hq
      · exact .inr ⟨a, xs, rfl, hq, by rw [hA.1]; exact hn, go⟩
      · exact .inl ⟨a, xs, rfl, hq, by rw [hA.1]; exact hn, go⟩
    · cases hm
  · cases hm
/-! statements -/
def mAsg (a : ME) (g : MG) : MS := fun e => bnd (a e) fun x e1 => match tk x e1 with
  | some (y, e2) => (match g y e2 with | some e3 => some (.ok .nx e3) | none => none)
  | none => none
theorem ss_asg {g : TG} {mg : MG} (ha : SE C ta ma) (hg : SG C g mg) : SS C (tAsg ta g) (mAsg ma mg) := by
  intro B σ0 σ H env ts R ht z hm E hE
  rcases bnd_inv hm with ⟨x, e, h1, rfl⟩ | ⟨x, e1, h1, h2⟩
  · exact ha B σ0 σ H env ts R _ h1 _ (hE σ)
  · refine ha B σ0 σ H env ts R _ h1 _ fun v H1 ⟨S, g1⟩ => ?_
    split at h2
    · rename_i y e2 h3
      split at h2
      · rename_i e3 h4
        cases h2
        obtain ⟨S1, g2, ho⟩ := g1.taken (ts1 := []) h3
        exact hg B σ0 σ H1 e2 ts v y e3 ⟨_, g2⟩ ho.noAl ht h4 _ hE
      · cases h2
    · cases h2
def mNext : MS := fun e => some (.ok .nx e)
theorem ss_next : SS C tNext mNext := by
  intro B σ0 σ H env ts R ht z hm E hE
  cases hm
  exact hE σ H R
def mBreak : MS := fun e => some (.ok .bk e)
def mCont : MS := fun e => some (.ok .ct e)
theorem ss_break : SS C tBreak mBreak := by
  intro B σ0 σ H env ts R ht z hm E hE
  cases hm
  exact hE σ H R
theorem ss_cont : SS C tCont mCont := by
  intro B σ0 σ H env ts R ht z hm E hE
  cases hm
  exact hE σ H R
def mSeq (a b : MS) : MS := fun e => bnd (a e) fun f e1 => match f with
  | .nx => b e1
  | f => some (.ok f e1)
theorem ss_seq (ha : SS C t ms) (hb : SS C u mv) : SS C (tSeq t u) (mSeq ms mv) := by
  intro B σ0 σ H env ts R ht z hm E hE
  rcases bnd_inv hm with ⟨x, e, h1, rfl⟩ | ⟨f, e1, h1, h2⟩
  · exact ha B σ0 σ H env ts R ht _ h1 _ hE
  · refine ha B σ0 σ H env ts R ht _ h1 _ ?_
    cases f with
    | nx => exact fun σ' H' R' => hb B σ0 σ' H' e1 ts R' ht _ h2 _ hE
    | bk => cases h2; exact hE
    | ct => cases h2; exact hE
    | rt d => cases h2; exact hE
def mDrop (a : ME) : MS := fun e => bnd (a e) fun _ e1 => some (.ok .nx e1)
theorem ss_drop (ha : SE C ta ma) : SS C (tDrop ta) (mDrop ma) := by
  intro B σ0 σ H env ts R ht z hm E hE
  rcases bnd_inv hm with ⟨x, e, h1, rfl⟩ | ⟨x, e1, h1, h2⟩
  · exact ha B σ0 σ H env ts R _ h1 _ (hE σ)
  · cases h2
    exact ha B σ0 σ H env ts R _ h1 _ fun v H1 R1 => hE σ H1 R1.pop
def mIfS (c : MT) (a b : MS) : MS := fun e => bnd (c e) fun x e1 => if x = true then a e1 else b e1
theorem ss_if (hc : ST C tt mt) (ha : SS C t ms) (hb : SS C u mv) : SS C (tIfS tt t u) (mIfS mt ms mv) := by
  intro B σ0 σ H env ts R ht z hm E hE
  rcases bnd_inv hm with ⟨x, e, h1, rfl⟩ | ⟨c, e1, h1, h2⟩
  · exact hc B σ0 σ H env ts R _ h1 _ (hE σ)
  · refine hc B σ0 σ H env ts R _ h1 _ fun H1 R1 => ?_
    cases c with
    | true => rw [if_pos rfl] at h2 ⊢; exact ha B σ0 σ H1 e1 ts R1 ht _ h2 _ hE
    | false => rw [if_neg Bool.false_ne_true] at h2 ⊢; exact hb B σ0 σ H1 e1 ts R1 ht _ h2 _ hE
/-- return e: what slot k (no parameter) has goes out -/
def out (np : Nat) (x : D) (e : Env) : Option (D × Env) := match x with
  | .al k => if k < np then tk x e else (match e[k]? with
    | some (some d) => some (d, e.set k none)
    | _ => none)
  | d => some (d, e)
def mRet (np : Nat) (a : ME) : MS := fun e => bnd (a e) fun x e1 => match out np x e1 with
  | some (y, e2) => some (.ok (.rt y) e2)
  | none => none
theorem Good.outs {B : Bs} {σ0 σ : St} {H : Hp} {env env1 : Env} {ts : List (V × D)} {S : Ix → Addr → Prop} {v : V} {d d' : D} {np : Nat} (g : Good C B σ0 H σ env (ts ++ [(v, d)]) S) (ht : NoAl ts) (h : out np d env = some (d', env1)) : isAl d' = false ∧ Rep C B σ0 H σ env1 (ts ++ [(v, d')]) := by
  by_cases ha : ∃ k, d = .al k ∧ ¬ k < np
  · obtain ⟨k, rfl, hk⟩ := ha
    simp only [out, if_neg hk] at h
    rcases g.tmp ts.length v (.al k) (by simp) with ⟨k', e, h2⟩ | ho
    · cases e
      split at h
      case h_2 => cases h
      rename_i h3
      cases h
      obtain ⟨v', hv', ho⟩ := g.slot k d' h3
      rw [h2] at hv'; cases hv'
      refine ⟨ho.noAl, ?_⟩
      have hsub : ∀ i a, su (su S (.inl k) fun _ => False) (.inr ts.length) (S (.inl k)) i a → ∃ j, S j a ∧ (i ≠ .inr ts.length → j = i ∧ i ≠ .inl k) ∧ (i = .inr ts.length → j = .inl k) := by
        rintro i a (⟨rfl, h⟩ | ⟨hi, ⟨rfl, h⟩ | ⟨hi2, h⟩⟩)
        · exact ⟨_, h, fun z => absurd rfl z, fun _ => rfl⟩
        · exact h.elim
        · exact ⟨i, h, fun _ => ⟨rfl, hi2⟩, fun z => absurd z hi⟩
      have hp : ∀ a, pset B (su (su S (.inl k) fun _ => False) (.inr ts.length) (S (.inl k))) a → pset B S a := by
        rintro a (h | ⟨i, h⟩)
        · exact .inl h
        · obtain ⟨j, hj, _⟩ := hsub i a h; exact .inr ⟨j, hj⟩
      have mv : ∀ {v d s}, Ow C.K (pset B S) H v d s → Ow C.K (pset B (su (su S (.inl k) fun _ => False) (.inr ts.length) (S (.inl k)))) H v d s := fun h => h.move .refl (fun a z => .inl (hp a z)) fun _ _ => rfl
      refine ⟨su (su S (.inl k) fun _ => False) (.inr ts.length) (S (.inl k)), g.kp, g.fr, fun i a h => ?_, fun i a h => ?_, fun i j a h1 h2 => ?_, by rw [List.length_set]; exact g.len, g.keep, fun i d1 e => ?_, fun j v1 d1 e => ?_, fun p hq => (g.hld p hq).move .refl fun a z => .inl (hp a z), g.fx⟩
      · obtain ⟨j, hj, _⟩ := hsub i a h; exact g.sub j a hj
      · obtain ⟨j, hj, _⟩ := hsub i a h; exact g.trk j a hj
      · obtain ⟨k1, q1, p1, r1⟩ := hsub i a h1
        obtain ⟨k2, q2, p2, r2⟩ := hsub j a h2
        have e := g.dis _ _ a q1 q2
        by_cases e1 : i = .inr ts.length
        · by_cases e2 : j = .inr ts.length
          · rw [e1, e2]
          · exact absurd (by rw [← (p2 e2).1, ← e, r1 e1]) (p2 e2).2
        · by_cases e2 : j = .inr ts.length
          · exact absurd (by rw [← (p1 e1).1, e, r2 e2]) (p1 e1).2
          · rw [← (p1 e1).1, ← (p2 e2).1]; exact e
      · have hik : i ≠ k := fun z => by
          subst z
          rw [List.getElem?_set_self (List.getElem?_eq_some_iff.mp h3).1] at e
          cases e
        rw [List.getElem?_set_ne (Ne.symm hik)] at e
        obtain ⟨w, h1, h2⟩ := g.slot i d1 e
        refine ⟨w, h1, (mv h2).iff fun b => ?_⟩
        rw [su_ne (by simp), su_ne (by simp [hik])]
      · by_cases hj : j = ts.length
        · subst hj
          simp at e
          obtain ⟨rfl, rfl⟩ := e
          exact .inr ((mv ho).iff fun b => su_same)
        · have hj2 : j < ts.length := by
            have := (List.getElem?_eq_some_iff.mp e).1
            simp at this
            omega
          rw [List.getElem?_append_left hj2] at e
          have hna := ht _ (List.mem_of_getElem? e)
          rcases g.tmp j v1 d1 (by rw [List.getElem?_append_left hj2]; exact e) with ⟨k2, rfl, _⟩ | h
          · cases hna
          · refine .inr ((mv h).iff fun b => ?_)
            rw [su_ne (by simp [hj]), su_ne (by simp)]
    · exact absurd ho.noAl (by simp [isAl])
  · have h' : tk d env = some (d', env1) := by
      cases d with
      | al k =>
        have hk : k < np := Decidable.byContradiction fun z => ha ⟨k, rfl, z⟩
        simp only [out, if_pos hk] at h
        exact h
      | _ => exact h
    obtain ⟨S1, g1, ho⟩ := g.taken (ts1 := []) h'
    exact ⟨ho.noAl, _, g1⟩
theorem ss_ret {np : Nat} (ha : SE C ta ma) : SS C (tRet ta) (mRet np ma) := by
  intro B σ0 σ H env ts R ht z hm E hE
  rcases bnd_inv hm with ⟨x, e, h1, rfl⟩ | ⟨x, e1, h1, h2⟩
  · exact ha B σ0 σ H env ts R _ h1 _ (hE σ)
  · refine ha B σ0 σ H env ts R _ h1 _ fun v H1 ⟨S, g1⟩ => ?_
    split at h2
    · rename_i y e2 h3
      cases h2
      obtain ⟨ha, R2⟩ := g1.outs ht h3
      exact hE v σ H1 ha R2
    · cases h2
def mRetN : MS := fun e => some (.ok (.rt .non) e)
theorem ss_retN : SS C tRetN mRetN := by
  rintro B σ0 σ H env ts ⟨S, g⟩ ht z hm E hE
  cases hm
  exact hE _ σ H rfl (Good.prim (ts1 := []) (by rw [List.append_nil]; exact g) (Post.dt .non))
/-- x += e -/
def mAug (n : Nat) (f : D → D → Option D) (a : ME) : MS := fun e => match e[n]? with
  | some (some x) => if isFz x = true then bnd (a e) fun y e1 => (match res e1 y with
    | some y' => (match f x y' with | some d => some (.ok .nx (e1.set n (some d))) | none => none)
    | none => none) else none
  | _ => none
theorem ss_aug {n : Nat} {r : TIp} {f : D → D → Option D} (hA : C.A n = true) (p : P2 C.K r f) (ha : SE C ta ma) : SS C (tAug n ta r) (mAug n f ma) := by
  rintro B σ0 σ H env ts ⟨S, g⟩ ht z hm E hE
  unfold mAug at hm
  split at hm
  · rename_i x hx
    split at hm
    · rename_i hfz
      obtain ⟨v, hv, ho⟩ := g.slot n x hx
      refine ⟨v, hv, ?_⟩
      have R0 : Rep C B σ0 H σ env (ts ++ [(v, x)]) := Good.prim (ts1 := []) (by rw [List.append_nil]; exact g) (Post.dt (ho.dt hfz))
      have hxa : isAl x = false := ho.noAl
      rcases bnd_inv hm with ⟨xx, e, h1, rfl⟩ | ⟨y, e1, h1, h2⟩
      · exact ha B σ0 σ H env _ R0 _ h1 _ (XW.push (hE σ))
      · refine ha B σ0 σ H env _ R0 _ h1 _ fun w H1 ⟨S1, g1⟩ => ?_
        rw [List.append_assoc] at g1
        split at h2
        · rename_i y' hy
          split at h2
          · rename_i d hd
            cases h2
            refine p _ _ _ _ _ _ _ _ (fun a z => g1.ptrk z) (g1.look (j := ts.length) (v := v) (d := x) (by simp) (res_self hxa)) (g1.look (j := ts.length + 1) (by simp) hy) hd fun u H2 pp => ?_
            obtain ⟨S2, g2⟩ := g1.prim pp
            have hda : isAl d = false := by
              obtain ⟨_, s', _, o⟩ := pp
              exact o.noAl
            exact hE _ _ ⟨_, (g2.asg (ts1 := []) hda ht (fun p hp => by simp at hp) n hA).pop⟩
          · cases h2
        · cases h2
    · cases hm
  · cases hm
end
end Q


namespace Q
open PySem L2
section
variable {C : Cn} {B : Bs} {σ0 σ : St} {H H1 : Hp} {env env1 : Env} {ts ts1 fr : List (V × D)} {S : Ix → Addr → Prop} {v : V} {d : D}
theorem XOk.less {ps qs : Addr → Prop} {x : Xc} {c : Value} {o : Option Addr} (h : XOk C ps H x c o) (hq : ∀ a, qs a → ps a) : XOk C qs H x c o := by
  refine ⟨h.1, ?_⟩
  rcases h.2 with h | ⟨d, h1, h2⟩
  · exact .inl h
  · exact .inr ⟨d, h1, h2.move .refl fun a z => .inl (hq a z)⟩
/-- what is held stands aside -/
theorem Rep.aside (r : Rep C B σ0 H σ env ts) : ∃ B' : Bs, Rep C B' σ0 H σ env [] ∧ ∀ H' e' ts' S', Good C B' σ0 H' σ e' ts' S' → ∃ U, Good C B σ0 H' σ e' (ts ++ ts') U ∧ ∀ a, pset B U a → pset B' S' a := by
  obtain ⟨S, g⟩ := r
  obtain ⟨T, hT⟩ : ∃ T : Ix → Addr → Prop, ∀ i a, T i a ↔ ∃ k, i = .inl k ∧ S i a := ⟨fun i a => ∃ k, i = .inl k ∧ S i a, fun _ _ => Iff.rfl⟩
  let B' : Bs := ⟨fun a => B.ps0 a ∨ ∃ j, S (.inr j) a, H, fun a => ∃ i, S (.inl i) a⟩
  have hps : ∀ a, pset B' T a → pset B S a := by
    rintro a ((h | ⟨j, h⟩) | ⟨i, h⟩)
    · exact .inl h
    · exact .inr ⟨_, h⟩
    · exact .inr ⟨_, ((hT i a).mp h).choose_spec.2⟩
  refine ⟨B', ⟨T, .refl, fun a h => ?_, fun i a h => ?_, fun i a h => ?_, fun i j a h1 h2 => ?_, g.len, g.keep, fun i d e => ?_, fun j v d e => by simp at e, fun p hp => (g.hld p hp).move .refl fun a z => .inl (hps a z), g.fx⟩, ?_⟩
  · rcases h with h | ⟨j, h⟩
    · exact ⟨g.ptrk (.inl h), fun ⟨i, z⟩ => (g.sub _ a z).2 h⟩
    · exact ⟨g.trk _ a h, fun ⟨i, z⟩ => by have := g.dis _ _ a h z; cases this⟩
  · obtain ⟨k, rfl, h⟩ := (hT i a).mp h
    refine ⟨.inl ⟨k, h⟩, ?_⟩
    rintro (z | ⟨j, z⟩)
    · exact (g.sub _ a h).2 z
    · have := g.dis _ _ a h z; cases this
  · exact g.trk i a ((hT i a).mp h).choose_spec.2
  · exact g.dis i j a ((hT i a).mp h1).choose_spec.2 ((hT j a).mp h2).choose_spec.2
  · obtain ⟨w, h1, h2⟩ := g.slot i d e
    exact ⟨w, h1, (h2.move .refl (fun a z => .inl (hps a z)) fun _ _ => rfl).iff fun b => (hT _ b).trans ⟨fun ⟨_, _, z⟩ => z, fun z => ⟨i, rfl, z⟩⟩⟩
  intro H' e' ts' S' g'
  let U : Ix → Addr → Prop := fun i a => match i with
    | .inl i => S' (.inl i) a
    | .inr j => if j < ts.length then S (.inr j) a else S' (.inr (j - ts.length)) a
  have hU : ∀ i a, U i a → (∃ k, S' k a ∧ ((∃ n, i = .inl n ∧ k = .inl n) ∨ ∃ n, i = .inr (ts.length + n) ∧ k = .inr n)) ∨ ∃ j, j < ts.length ∧ i = .inr j ∧ S (.inr j) a := by
    intro i a h
    cases i with
    | inl n => exact .inl ⟨.inl n, h, .inl ⟨n, rfl, rfl⟩⟩
    | inr j =>
      by_cases hj : j < ts.length
      · exact .inr ⟨j, hj, rfl, by simpa [U, hj] using h⟩
      · exact .inl ⟨.inr (j - ts.length), by simpa [U, hj] using h, .inr ⟨j - ts.length, by congr 1; omega, rfl⟩⟩
  have hB : ∀ a, (∃ i, S (.inl i) a) ∨ H a = none → (B.S0 a ∨ B.H0 a = none) := by
    rintro a (⟨i, h⟩ | h)
    · exact (g.sub _ a h).1
    · exact .inr (g.kp.dom a h)
  have hUp : ∀ a, pset B U a → pset B' S' a := by
    rintro a (h | ⟨i, h⟩)
    · exact .inl (.inl h)
    · rcases hU i a h with ⟨k, h, _⟩ | ⟨j, _, _, h⟩
      · exact .inr ⟨k, h⟩
      · exact .inl (.inr ⟨j, h⟩)
  have hkS : Kp (pset B S) H H' := g'.kp.more fun a ⟨i, z⟩ => .inr ⟨_, z⟩
  have hqS : ∀ a, pset B U a → pset B S a ∨ H a = none := by
    rintro a (h | ⟨i, h⟩)
    · exact .inl (.inl h)
    · rcases hU i a h with ⟨k, h, _⟩ | ⟨j, _, _, h⟩
      · rcases (g'.sub k a h).1 with ⟨i, z⟩ | z
        · exact .inl (.inr ⟨_, z⟩)
        · exact .inr z
      · exact .inl (.inr ⟨_, h⟩)
  refine ⟨U, ⟨⟨fun b o n e => ?_, fun b e => g.kp.dom b (g'.kp.dom b e)⟩, g.fr, fun i a h => ?_, fun i a h => ?_, fun i j a h1 h2 => ?_, g'.len, g'.keep, fun i d e => ?_, fun j v d e => ?_, fun p hp => (g.hld p hp).move hkS hqS, g.fx⟩, hUp⟩
  · refine g'.kp.get b o (fun ⟨i, z⟩ => ?_) (g.kp.get b o n e)
    rcases (g.sub _ b z).1 with z | z
    · exact n z
    · rw [z] at e; cases e
  · rcases hU i a h with ⟨k, h, _⟩ | ⟨j, _, _, h⟩
    · have := g'.sub k a h
      exact ⟨hB a this.1, fun z => this.2 (.inl z)⟩
    · exact g.sub _ a h
  · rcases hU i a h with ⟨k, h, _⟩ | ⟨j, _, _, h⟩
    · exact g'.trk k a h
    · exact fun z => g.trk _ a h (g'.kp.dom a z)
  · rcases hU i a h1 with ⟨k, h1, e1⟩ | ⟨j1, l1, rfl, h1'⟩
    · rcases hU j a h2 with ⟨k2, h2, e2⟩ | ⟨j2, l2, rfl, h2'⟩
      · have e := g'.dis _ _ a h1 h2
        subst e
        rcases e1 with ⟨n, rfl, rfl⟩ | ⟨n, rfl, rfl⟩
        · rcases e2 with ⟨n2, rfl, e2⟩ | ⟨n2, rfl, e2⟩
          · cases e2; rfl
          · cases e2
        · rcases e2 with ⟨n2, rfl, e2⟩ | ⟨n2, rfl, e2⟩
          · cases e2
          · cases e2; rfl
      · exact absurd (.inr ⟨_, h2'⟩) (g'.sub k a h1).2
    · rcases hU j a h2 with ⟨k2, h2, e2⟩ | ⟨j2, l2, rfl, h2'⟩
      · exact absurd (.inr ⟨_, h1'⟩) (g'.sub k2 a h2).2
      · exact g.dis _ _ a h1' h2'
  · obtain ⟨w, h1, h2⟩ := g'.slot i d e
    exact ⟨w, h1, h2.move .refl (fun a z => .inl (hUp a z)) fun _ _ => rfl⟩
  · by_cases hj : j < ts.length
    · rw [List.getElem?_append_left hj] at e
      rcases g.tmp j v d e with h | h
      · exact .inl h
      · refine .inr ((h.move hkS hqS fun a z => ?_).iff fun b => by simp [U, hj])
        have hn : ¬ B'.S0 a := fun ⟨i, w⟩ => by have := g.dis _ _ a z w; cases this
        cases e : H a with
        | none => exact absurd e (g.trk _ a z)
        | some o => exact g'.kp.get a o hn e
    · rw [List.getElem?_append_right (by omega)] at e
      rcases g'.tmp _ v d e with h | h
      · exact .inl h
      · exact .inr ((h.move .refl (fun a z => .inl (hUp a z)) fun _ _ => rfl).iff fun b => by simp [U, hj])
/-- what stands between goes -/
theorem Rep.mid (r : Rep C B σ0 H σ env (ts ++ fr ++ [(v, d)])) (hd : isAl d = false) : Rep C B σ0 H σ env (ts ++ [(v, d)]) := by
  obtain ⟨S, g⟩ := r
  have ho : Ow C.K (pset B S) H v d (S (.inr (ts ++ fr).length)) := by
    rcases g.tmp (ts ++ fr).length v d (by simp) with ⟨k, rfl, _⟩ | h
    · cases hd
    · exact h
  let U : Ix → Addr → Prop := fun i a => match i with
    | .inl i => S (.inl i) a
    | .inr j => if j < ts.length then S (.inr j) a else j = ts.length ∧ S (.inr (ts ++ fr).length) a
  have hU : ∀ i a, U i a → ∃ k, S k a ∧ ((i = k ∧ k ≠ .inr (ts ++ fr).length) ∨ (i = .inr ts.length ∧ k = .inr (ts ++ fr).length)) := by
    intro i a h
    cases i with
    | inl n => exact ⟨.inl n, h, .inl ⟨rfl, by simp⟩⟩
    | inr j =>
      by_cases hj : j < ts.length
      · exact ⟨.inr j, by simpa [U, hj] using h, .inl ⟨rfl, by simp; omega⟩⟩
      · have h' : j = ts.length ∧ S (.inr (ts ++ fr).length) a := by simpa [U, hj] using h
        exact ⟨_, h'.2, .inr ⟨by rw [h'.1], rfl⟩⟩
  have hp : ∀ a, pset B U a → pset B S a := by
    rintro a (h | ⟨i, h⟩)
    · exact .inl h
    · obtain ⟨k, h, _⟩ := hU i a h; exact .inr ⟨k, h⟩
  have mv : ∀ {v d s}, Ow C.K (pset B S) H v d s → Ow C.K (pset B U) H v d s := fun h => h.move .refl (fun a z => .inl (hp a z)) fun _ _ => rfl
  refine ⟨U, g.kp, g.fr, fun i a h => ?_, fun i a h => ?_, fun i j a h1 h2 => ?_, g.len, g.keep, fun i d e => ?_, fun j v' d' e => ?_, fun p hq => (g.hld p hq).move .refl fun a z => .inl (hp a z), g.fx⟩
  · obtain ⟨k, h, _⟩ := hU i a h; exact g.sub k a h
  · obtain ⟨k, h, _⟩ := hU i a h; exact g.trk k a h
  · obtain ⟨k1, h1, e1⟩ := hU i a h1
    obtain ⟨k2, h2, e2⟩ := hU j a h2
    have e := g.dis _ _ a h1 h2
    subst e
    rcases e1 with ⟨rfl, n1⟩ | ⟨rfl, q1⟩
    · rcases e2 with ⟨rfl, n2⟩ | ⟨rfl, q2⟩
      · rfl
      · exact absurd q2 n1
    · rcases e2 with ⟨rfl, n2⟩ | ⟨rfl, q2⟩
      · exact absurd q1 n2
      · rfl
  · obtain ⟨w, h1, h2⟩ := g.slot i d e
    exact ⟨w, h1, mv h2⟩
  · by_cases hj : j < ts.length
    · rw [List.getElem?_append_left hj] at e
      rcases g.tmp j v' d' (by rw [List.append_assoc, List.getElem?_append_left hj]; exact e) with h | h
      · exact .inl h
      · exact .inr ((mv h).iff fun b => by simp [U, hj])
    · rw [List.getElem?_append_right (by omega)] at e
      obtain ⟨m, hm⟩ : ∃ m, j - ts.length = m := ⟨_, rfl⟩
      rw [hm] at e
      cases m with
      | zero =>
        simp at e
        obtain ⟨rfl, rfl⟩ := e
        have : j = ts.length := by omega
        subst this
        exact .inr ((mv ho).iff fun b => by simp [U])
      | succ m => simp at e
theorem Good.mut (g : Good C B σ0 H σ env ts S) {n : Nat} {ds ds' : List D} {a : Addr} {xs xs' : List V} (he : env[n]? = some (some (.mls ds))) (hv : σ[n]? = some (some (.ref a))) (ha : H a = some (.lst xs)) (h' : DtA C.K (pset B S) H xs' ds') :
    Rep C B σ0 (L2.upd H a (.lst xs')) σ (env.set n (some (.mls ds'))) ts := by
  obtain ⟨v, hv', ho⟩ := g.slot n _ he
  rw [hv] at hv'; cases hv'
  cases ho with
  | fz h _ => cases h
  | mls h1 h2 h3 =>
    refine ⟨_, g.put he hv (S (.inl n)) (.mut ((h3 a).mpr rfl)) (fun b z => ⟨.inl z, ?_⟩) (.mls upd_same (h'.move (.mut (.inr ⟨_, (h3 a).mpr rfl⟩)) fun b z => ?_) h3)⟩
    · rw [(h3 b).mp z, upd_same]; simp
    · rcases z with z | ⟨i, ⟨rfl, z⟩ | ⟨_, z⟩⟩
      · exact .inl (.inl z)
      · exact .inl (.inr ⟨_, z⟩)
      · exact .inl (.inr ⟨_, z⟩)
end
/-! ### lists that change -/
def mApp (n : Nat) (a : ME) : ME := fun e => match e[n]? with
  | some (some (.mls _)) => bnd (a e) fun x e1 => (match tkf x e1 with
    | some (y, e2) => (match e2[n]? with
      | some (some (.mls ds)) => if ds.length < 16777216 then some (.ok .non (e2.set n (some (.mls (ds ++ [y]))))) else none
      | _ => none)
    | none => none)
  | _ => none
section
variable {C : Cn} {te ta tb tc : TE} {ma mb mc : ME} {tt tu : TT} {mt mu : MT} {tr : TA} {mr : MA} {t u : TS} {ms mv : MS}
theorem Good.mlsAt {B : Bs} {σ0 σ : St} {H : Hp} {env : Env} {ts : List (V × D)} {S : Ix → Addr → Prop} {n : Nat} {ds : List D} (g : Good C B σ0 H σ env ts S) (he : env[n]? = some (some (.mls ds))) : ∃ a xs, σ[n]? = some (some (.ref a)) ∧ H a = some (.lst xs) ∧ DtA C.K (pset B S) H xs ds := by
  obtain ⟨v, hv, ho⟩ := g.slot n _ he
  cases ho with
  | fz h _ => cases h
  | mls h1 h2 h3 => exact ⟨_, _, hv, h1, h2⟩
theorem se_app {n : Nat} (ha : SE C ta ma) : SE C (tBM C.K "list" rAppend (tVar n) (tCons ta tNil)) (mApp n ma) := by
  intro B σ0 σ H env ts R z hm Q hq
  obtain ⟨S, g⟩ := R
  unfold mApp at hm
  split at hm
  · rename_i ds0 he0
    obtain ⟨a, xs0, hv, ha0, _⟩ := g.mlsAt he0
    refine ⟨_, hv, tyL ha0, ?_⟩
    rcases bnd_inv hm with ⟨x, e, h1, rfl⟩ | ⟨x, e1, h1, h2⟩
    · exact ha B σ0 σ H env ts ⟨S, g⟩ _ h1 _ hq
    · refine ha B σ0 σ H env ts ⟨S, g⟩ _ h1 _ fun v H1 ⟨S1, g1⟩ => ?_
      split at h2
      · rename_i y e2 h3
        split at h2
        · rename_i ds h4
          split at h2
          · rename_i hsz
            cases h2
            obtain ⟨S2, g2, hy⟩ := g1.takenF (ts1 := []) h3
            obtain ⟨a', xs, hv', ha', hA⟩ := g2.mlsAt h4
            rw [hv] at hv'; cases hv'
            refine ⟨a, xs, v, rfl, rfl, ha', by rw [sizeLine_eq, hA.1]; exact hsz, ?_⟩
            have R3 := g2.pop.mut h4 hv ha' (hA.snoc hy)
            obtain ⟨S3, g3⟩ := R3
            exact hq _ _ (Good.prim (ts1 := []) (by rw [List.append_nil]; exact g3) (Post.dt .non))
          · cases h2
        · cases h2
      · cases h2
  · cases hm
def mExt (n : Nat) (a : ME) : ME := fun e => match e[n]? with
  | some (some (.mls _)) => bnd (a e) fun x e1 => (match res e1 x with
    | some y => (match e1[n]? with
      | some (some (.mls ds)) => (match y with
        | .lst es => if ds.length + es.length ≤ 16777216 then some (.ok .non (e1.set n (some (.mls (ds ++ es))))) else none
        | .mls es => if ds.length + es.length ≤ 16777216 then some (.ok .non (e1.set n (some (.mls (ds ++ es))))) else none
        | .tup es => if ds.length + es.length ≤ 16777216 then some (.ok .non (e1.set n (some (.mls (ds ++ es))))) else none
        | _ => none)
      | _ => none)
    | none => none)
  | _ => none
theorem se_ext {n : Nat} (ha : SE C ta ma) : SE C (tBM C.K "list" (rExtendD C.K) (tVar n) (tCons ta tNil)) (mExt n ma) := by
  intro B σ0 σ H env ts R z hm Q hq
  obtain ⟨S, g⟩ := R
  unfold mExt at hm
  split at hm
  · rename_i ds0 he0
    obtain ⟨a, xs0, hv, ha0, _⟩ := g.mlsAt he0
    refine ⟨_, hv, tyL ha0, ?_⟩
    rcases bnd_inv hm with ⟨x, e, h1, rfl⟩ | ⟨x, e1, h1, h2⟩
    · exact ha B σ0 σ H env ts ⟨S, g⟩ _ h1 _ hq
    · refine ha B σ0 σ H env ts ⟨S, g⟩ _ h1 _ fun v H1 ⟨S1, g1⟩ => ?_
      split at h2
      · rename_i y h3
        split at h2
        · rename_i ds h4
          have pk := g1.look (j := ts.length) (v := v) (d := x) (by simp) h3
          obtain ⟨a', xs, hv', ha', hA⟩ := g1.mlsAt h4
          rw [hv] at hv'; cases hv'
          have fin : ∀ {ys : List V} {es : List D}, DtA C.K (pset B S1) H1 ys es → some (Rs.ok D.non (e1.set n (some (.mls (ds ++ es))))) = some z → Q .non (upd H1 a (.lst (xs ++ ys))) := fun hE hz => by
            cases hz
            obtain ⟨S3, g3⟩ := g1.pop.mut h4 hv ha' (hA.append hE)
            exact hq _ _ (Good.prim (ts1 := []) (by rw [List.append_nil]; exact g3) (Post.dt .non))
          split at h2
          · split at h2
            · rename_i es hsz
              obtain ⟨b, ys, rfl, hb, hE⟩ := pk.lst
              exact .inl ⟨a, b, xs, ys, rfl, rfl, ha', hb, by rw [hA.1, hE.1, sizeLine_eq]; exact hsz, fin hE h2⟩
            · cases h2
          · split at h2
            · rename_i es hsz
              obtain ⟨b, ys, rfl, hb, hE⟩ := pk.mls
              exact .inl ⟨a, b, xs, ys, rfl, rfl, ha', hb, by rw [hA.1, hE.1, sizeLine_eq]; exact hsz, fin hE h2⟩
            · cases h2
          · split at h2
            · rename_i es hsz
              obtain ⟨b, ys, rfl, hb, hE⟩ := pk.tup
              exact .inr ⟨a, b, xs, ys, rfl, rfl, ha', hb, by rw [hA.1, hE.1, sizeLine_eq]; exact hsz, fin hE h2⟩
            · cases h2
          · cases h2
        · cases h2
      · cases h2
  · cases hm
/-- x[i] = v -/
def gIx (n : Nat) (a : ME) : MG := fun d e => match e[n]? with
  | some (some _) => (match a e with
    | some (.ok (.int i) e1) => (match e1[n]? with
      | some (some (.mls ds)) => (match ixN ds.length i with
        | some k => if isFz d = true then some (e1.set n (some (.mls (ds.set k d)))) else none
        | none => none)
      | _ => none)
    | _ => none)
  | _ => none
theorem sg_ix {n : Nat} (ha : SE C ta ma) : SG C (gSub (tVar n) ta rSetD) (gIx n ma) := by
  rintro B σ0 σ H env ts v d e' ⟨S, g⟩ hd ht hm N hN
  unfold gIx at hm
  split at hm
  case h_2 => cases hm
  rename_i d9 h9
  obtain ⟨w, hw, _⟩ := g.slot n _ h9
  split at hm
  · rename_i i e1 h1
    split at hm
    · rename_i ds h4
      split at hm
      · rename_i k hk
        split at hm
        · rename_i hfz
          cases hm
          refine ⟨w, hw, ha B σ0 σ H env _ ⟨S, g⟩ _ h1 _ fun u H1 ⟨S1, g1⟩ => ?_⟩
          obtain ⟨a, xs, hv, ha', hA⟩ := g1.mlsAt h4
          rw [hw] at hv; cases hv
          have hi : u = .int i := by
            rcases g1.tmp (ts ++ [(v, d)]).length u (.int i) (by simp) with ⟨k, e, _⟩ | h
            · cases e
            · exact (h.dt rfl).inv_int
          subst hi
          have hdv : Dt C.K (pset B S1) H1 v d := by
            rcases g1.tmp ts.length v d (by simp) with ⟨k, rfl, _⟩ | h
            · cases hd
            · exact h.dt hfz
          refine .inl ⟨a, xs, i, k, rfl, rfl, ha', by rw [hA.1]; exact hk, ?_⟩
          obtain ⟨S3, g3⟩ := g1.pop.mut h4 hw ha' (hA.set hdv k)
          exact hN _ _ ⟨S3, g3.pop⟩
        · cases hm
      · cases hm
    · cases hm
  · cases hm
end
end Q


namespace Q
open PySem L2
/-! ### slices, chains -/
abbrev MO := M (Option Int)
def OOk (C : Cn) (B : Bs) (σ0 σ : St) (ts : List (V × D)) (R : Option Int → Hp → Prop) : Rs (Option Int) → Prop
  | .ok b e => ∀ H', Rep C B σ0 H' σ e ts → R b H'
  | .ex x e => XW C B σ0 σ ts x e
def SO (C : Cn) (t : TO) (m : MO) : Prop := ∀ B σ0 σ H env ts, Rep C B σ0 H σ env ts → ∀ r, m env = some r → ∀ R, OOk C B σ0 σ ts R r → t σ H R
section
variable {C : Cn} {te ta tb tc : TE} {ma mb mc : ME} {tt tu : TT} {mt mu : MT} {tr : TA} {mr : MA} {t u : TS} {ms mv : MS}
def mNoPart : MO := fun e => some (.ok none e)
def mPart (a : ME) : MO := fun e => bnd (a e) fun x e1 => match x with
  | .int i => some (.ok (some i) e1)
  | _ => none
theorem so_none : SO C tNoPart mNoPart := by
  intro B σ0 σ H env ts R z hm Q hq
  cases hm
  exact hq H R
theorem tmp_int {B : Bs} {σ0 σ : St} {H : Hp} {env : Env} {ts : List (V × D)} {v : V} {b : Int} (R : Rep C B σ0 H σ env (ts ++ [(v, .int b)])) : v = .int b ∧ Rep C B σ0 H σ env ts := by
  refine ⟨?_, R.pop⟩
  obtain ⟨S, g⟩ := R
  rcases g.tmp ts.length v (.int b) (by simp) with ⟨k, e, _⟩ | h
  · cases e
  · exact (h.dt rfl).inv_int
theorem so_part (ha : SE C ta ma) : SO C (tPart ta) (mPart ma) := by
  intro B σ0 σ H env ts R z hm Q hq
  rcases bnd_inv hm with ⟨x, e, h1, rfl⟩ | ⟨x, e1, h1, h2⟩
  · exact ha B σ0 σ H env ts R _ h1 _ hq
  · refine ha B σ0 σ H env ts R _ h1 _ fun v H1 R1 => ?_
    split at h2
    · cases h2
      obtain ⟨rfl, R2⟩ := tmp_int R1
      exact ⟨_, rfl, hq _ R2⟩
    · cases h2
def PSl (K : KC) (r : V → Option Int → Option Int → Hp → VK → Prop) (f : D → Option Int → Option Int → Option D) : Prop := ∀ ps H x d lo hi e Q, (∀ a, ps a → H a ≠ none) → Peek K ps H x d → f d lo hi = some e → (∀ v H', Post K ps H H' v e → Q v H') → r x lo hi H Q
def mSl (f : D → Option Int → Option Int → Option D) (a : ME) (l h : MO) : ME := fun e => bnd (a e) fun x e1 => bnd (l e1) fun lo e2 => bnd (h e2) fun hi e3 => match res e3 x with
  | some x' => (match f x' lo hi with | some d => some (.ok d e3) | none => none)
  | none => none
theorem se_sl {r : V → Option Int → Option Int → Hp → VK → Prop} {f : D → Option Int → Option Int → Option D} {tl th : TO} {ml mh : MO} (p : PSl C.K r f) (ha : SE C ta ma) (hl : SO C tl ml) (hh : SO C th mh) : SE C (tSl r ta tl th) (mSl f ma ml mh) := by
  intro B σ0 σ H env ts R z hm Q hq
  rcases bnd_inv hm with ⟨x, e, h1, rfl⟩ | ⟨x, e1, h1, h2⟩
  · exact ha B σ0 σ H env ts R _ h1 _ hq
  · refine ha B σ0 σ H env ts R _ h1 _ fun v H1 R1 => ?_
    rcases bnd_inv h2 with ⟨x2, e, h3, rfl⟩ | ⟨lo, e2, h3, h4⟩
    · exact hl B σ0 σ H1 e1 _ R1 _ h3 _ (XW.push hq)
    · refine hl B σ0 σ H1 e1 _ R1 _ h3 _ fun H2 R2 => ?_
      rcases bnd_inv h4 with ⟨x2, e, h5, rfl⟩ | ⟨hi, e3, h5, h6⟩
      · exact hh B σ0 σ H2 e2 _ R2 _ h5 _ (XW.push hq)
      · refine hh B σ0 σ H2 e2 _ R2 _ h5 _ fun H3 ⟨S, g⟩ => ?_
        split at h6
        · rename_i x' hx
          split at h6
          · rename_i d hd
            cases h6
            exact p _ _ _ _ _ _ _ _ (fun a z => g.ptrk z) (g.look (j := ts.length) (by simp) hx) hd fun w H2 pp => hq w H2 (g.prim pp)
          · cases h6
        · cases h6
/-- a < b < c -/
def mChain (f f' : D → D → Option D) (a b c : ME) : ME := fun e => bnd (a e) fun x e1 => bnd (b e1) fun y e2 => bnd (ap2 f x y e2) fun k e3 => match k with
  | .bl true => bnd (c e3) fun w e4 => ap2 f' y w e4
  | .bl false => some (.ok (.bl false) e3)
  | _ => none
theorem se_chain {r r' : R2} {f f' : D → D → Option D} (p : P2 C.K r f) (p' : P2 C.K r' f') (ha : SE C ta ma) (hb : SE C tb mb) (hc : SE C tc mc) : SE C (tChain r r' ta tb tc) (mChain f f' ma mb mc) := by
  intro B σ0 σ H env ts R z hm Q hq
  rcases bnd_inv hm with ⟨x, e, h1, rfl⟩ | ⟨x, e1, h1, h2⟩
  · exact ha B σ0 σ H env ts R _ h1 _ hq
  · refine ha B σ0 σ H env ts R _ h1 _ fun v H1 R1 => ?_
    rcases bnd_inv h2 with ⟨x2, e, h3, rfl⟩ | ⟨y, e2, h3, h4⟩
    · exact hb B σ0 σ H1 e1 _ R1 _ h3 _ (XW.push hq)
    · refine hb B σ0 σ H1 e1 _ R1 _ h3 _ fun w H2 ⟨S, g⟩ => ?_
      rw [List.append_assoc] at g
      rcases bnd_inv h4 with ⟨x2, e, h5, rfl⟩ | ⟨k, e3, h5, h6⟩
      · unfold ap2 at h5; split at h5 <;> (try split at h5) <;> (try split at h5) <;> cases h5
      · unfold ap2 at h5
        split at h5
        · rename_i x' hx
          split at h5
          · rename_i y' hy
            split at h5
            · rename_i d hd
              obtain ⟨rfl, rfl⟩ : d = k ∧ e2 = e3 := by cases h5; exact ⟨rfl, rfl⟩
              refine p _ _ _ _ _ _ _ _ (fun a z => g.ptrk z) (g.look (j := ts.length) (by simp) hx) (g.look (j := ts.length + 1) (by simp) hy) hd fun b H3 pp => ?_
              have R3 : Rep C B σ0 H3 σ e2 (ts ++ [(v, x), (w, y)] ++ [(b, d)]) := Good.prim (ts1 := []) (by rw [List.append_nil]; exact g) pp
              split at h6
              · obtain ⟨rfl, R4⟩ := tmp_bl R3
                refine ⟨true, rfl, ?_⟩
                rw [if_pos rfl]
                rcases bnd_inv h6 with ⟨x2, e, h7, rfl⟩ | ⟨u, e4, h7, h8⟩
                · exact hc B σ0 σ H3 e2 _ R4 _ h7 _ (XW.push hq)
                · refine hc B σ0 σ H3 e2 _ R4 _ h7 _ fun w' H4 ⟨S4, g4⟩ => ?_
                  rw [List.append_assoc] at g4
                  unfold ap2 at h8
                  split at h8
                  · rename_i y2 hy2
                    split at h8
                    · rename_i u2 hu2
                      split at h8
                      · rename_i d2 hd2
                        cases h8
                        exact p' _ _ _ _ _ _ _ _ (fun a z => g4.ptrk z) (g4.look (j := ts.length + 1) (by simp) hy2) (g4.look (j := ts.length + 2) (by simp) hu2) hd2 fun w H2 pp => hq w H2 (g4.prim pp)
                      · cases h8
                    · cases h8
                  · cases h8
              · cases h6
                obtain ⟨rfl, R4⟩ := tmp_bl R3
                exact ⟨false, rfl, by rw [if_neg Bool.false_ne_true]; exact hq _ _ (push_bl _ R4.pop)⟩
              · cases h6
            · cases h5
          · cases h5
        · cases h5
end
/-! ### loops -/
abbrev MI := M (List D)
def Yd (K : KC) (J : It) (fr : List (V × D)) (xs : List D) : Prop := ∀ ps H, (∀ a, ps a → H a ≠ none) → (∀ p ∈ fr, Dt K ps H p.1 p.2) → ∀ i, (∀ d, xs[i]? = some d → J.go i H ∧ ∀ v H', J.yld i H v H' → Kp (fun _ => False) H H' ∧ Dt K ps H' v d) ∧ (xs.length ≤ i → J.stop i H)
def IOk (C : Cn) (B : Bs) (σ0 σ : St) (ts : List (V × D)) (R : It → Hp → Prop) : Rs (List D) → Prop
  | .ok xs e => ∀ J H' fr, Yd C.K J fr xs → (∀ p ∈ fr, isFz p.2 = true) → Rep C B σ0 H' σ e (ts ++ fr) → R J H'
  | .ex x e => XW C B σ0 σ ts x e
def SI (C : Cn) (w : TI) (m : MI) : Prop := ∀ B σ0 σ H env ts, Rep C B σ0 H σ env ts → ∀ r, m env = some r → ∀ R, IOk C B σ0 σ ts R r → w σ H R
def rngD (lo : Int) (n : Nat) : List D := (List.range n).map fun k => .int (lo + (k : Nat))
def rngC (lo : Int) (n : Nat) : List D := (List.range n).map fun k => .int (lo - (k : Nat))
theorem rngD_get {lo : Int} {n i : Nat} {d : D} (h : (rngD lo n)[i]? = some d) : i < n ∧ d = .int (lo + i) := by
  unfold rngD at h
  rw [List.getElem?_map] at h
  have hi : i < n := by
    rcases Nat.lt_or_ge i n with h1 | h1
    · exact h1
    · rw [List.getElem?_eq_none (by simpa using h1)] at h; cases h
  rw [List.getElem?_range hi] at h
  cases h
  exact ⟨hi, rfl⟩
theorem rngC_get {lo : Int} {n i : Nat} {d : D} (h : (rngC lo n)[i]? = some d) : i < n ∧ d = .int (lo - i) := by
  unfold rngC at h
  rw [List.getElem?_map] at h
  have hi : i < n := by
    rcases Nat.lt_or_ge i n with h1 | h1
    · exact h1
    · rw [List.getElem?_eq_none (by simpa using h1)] at h; cases h
  rw [List.getElem?_range hi] at h
  cases h
  exact ⟨hi, rfl⟩
section
variable {C : Cn} {te ta tb tc : TE} {ma mb mc : ME} {tt tu : TT} {mt mu : MT} {tr : TA} {mr : MA} {t u : TS} {ms mv : MS}
def mSeqI (a : ME) : MI := fun e => bnd (a e) fun x e1 => match tkf x e1 with
  | some (y, e2) => (match seqD y with | some ds => some (.ok ds e2) | none => none)
  | none => none
theorem yd_lst {K : KC} {a : Addr} {ds : List D} : Yd K (Itl K a) [(.ref a, .lst ds)] ds := by
  intro ps H _ h i
  obtain ⟨a', xs, e, ha, _, hA⟩ := (h (.ref a, .lst ds) (by simp) : Dt K ps H (.ref a) (.lst ds)).inv_lst
  cases e
  refine ⟨fun d hd => ?_, fun hi => ⟨xs, SqL.of ha, by rw [hA.1]; exact hi⟩⟩
  obtain ⟨x, hx, hdx⟩ := hA.get hd
  refine ⟨⟨xs, x, SqL.of ha, hx⟩, fun v H' y => ?_⟩
  obtain ⟨rfl, y⟩ := y
  have := y xs (SqL.of ha)
  rw [hx] at this; cases this
  exact ⟨.refl, hdx⟩
theorem yd_rol {K : KC} {a : Addr} {ds : List D} : Yd K (Itl K a) [(.ref a, .rol ds)] ds := by
  intro ps H _ h i
  obtain ⟨a', xs, e, ha, hA⟩ := (h (.ref a, .rol ds) (by simp) : Dt K ps H (.ref a) (.rol ds)).inv_rol
  cases e
  refine ⟨fun d hd => ?_, fun hi => ⟨xs, ha.sq, by rw [hA.1]; exact hi⟩⟩
  obtain ⟨x, hx, hdx⟩ := hA.get hd
  refine ⟨⟨xs, x, ha.sq, hx⟩, fun v H' y => ?_⟩
  obtain ⟨rfl, y⟩ := y
  have := y xs ha.sq
  rw [hx] at this; cases this
  exact ⟨.refl, hdx⟩
theorem yd_tup {K : KC} {a : Addr} {ds : List D} : Yd K (Itt K a) [(.ref a, .tup ds)] ds := by
  intro ps H _ h i
  obtain ⟨a', xs, e, ha, hA⟩ := (h (.ref a, .tup ds) (by simp) : Dt K ps H (.ref a) (.tup ds)).inv_tup
  cases e
  refine ⟨fun d hd => ?_, fun hi => ⟨xs, ha.sq, by rw [hA.1]; exact hi⟩⟩
  obtain ⟨x, hx, hdx⟩ := hA.get hd
  refine ⟨⟨xs, x, ha.sq, hx⟩, fun v H' y => ?_⟩
  obtain ⟨rfl, y⟩ := y
  have := y xs ha.sq
  rw [hx] at this; cases this
  exact ⟨.refl, hdx⟩
theorem si_seq (ha : SE C ta ma) : SI C (iSeq C.K ta) (mSeqI ma) := by
  intro B σ0 σ H env ts R z hm Q hq
  rcases bnd_inv hm with ⟨x, e, h1, rfl⟩ | ⟨x, e1, h1, h2⟩
  · exact ha B σ0 σ H env ts R _ h1 _ hq
  · refine ha B σ0 σ H env ts R _ h1 _ fun v H1 ⟨S, g⟩ => ?_
    split at h2
    · rename_i y e2 h3
      split at h2
      · rename_i ds hds
        cases h2
        obtain ⟨S1, g1, hy⟩ := g.takenF (ts1 := []) h3
        cases y <;> cases hds
        · obtain ⟨a, xs, rfl, h4, hA⟩ := hy.inv_tup
          exact ⟨a, rfl, .inr ⟨⟨xs, h4.sq⟩, hq _ _ _ yd_tup (by simp [isFz]) ⟨_, g1⟩⟩⟩
        · obtain ⟨a, xs, rfl, h4, h5, hA⟩ := hy.inv_lst
          exact ⟨a, rfl, .inl ⟨⟨xs, SqL.of h4⟩, hq _ _ _ yd_lst (by simp [isFz]) ⟨_, g1⟩⟩⟩
        · obtain ⟨a, xs, rfl, h4, hA⟩ := hy.inv_rol
          exact ⟨a, rfl, .inl ⟨⟨xs, h4.sq⟩, hq _ _ _ yd_rol (by simp [isFz]) ⟨_, g1⟩⟩⟩
        · cases hy
      · cases h2
    · cases h2
def mRng1 (a : MA) : MI := fun e => bnd (a e) fun xs e1 => match xs with
  | [.int j] => if -4611686018427387904 ≤ j ∧ j < 4611686018427387904 then some (.ok (rngD 0 j.toNat) e1) else none
  | _ => none
def mRng2 (a : MA) : MI := fun e => bnd (a e) fun xs e1 => match xs with
  | [.int i, .int j] => if (-4611686018427387904 ≤ i ∧ i < 4611686018427387904) ∧ -4611686018427387904 ≤ j ∧ j < 4611686018427387904 then some (.ok (rngD i (j - i).toNat) e1) else none
  | _ => none
theorem yd_rng {K : KC} {lo : Int} {n : Nat} : Yd K (Itr lo n) [] (rngD lo n) := by
  intro ps H _ _ i
  refine ⟨fun d hd => ?_, fun hi => by simp [rngD] at hi; exact hi⟩
  obtain ⟨h1, rfl⟩ := rngD_get hd
  refine ⟨h1, fun v H' y => ?_⟩
  obtain ⟨rfl, rfl⟩ := y
  exact ⟨.refl, .int _⟩
theorem yd_rngC {K : KC} {lo : Int} {n : Nat} : Yd K (Itc lo (-1) n) [] (rngC lo n) := by
  intro ps H _ _ i
  refine ⟨fun d hd => ?_, fun hi => by simp [rngC] at hi; exact hi⟩
  obtain ⟨h1, rfl⟩ := rngC_get hd
  refine ⟨h1, fun v H' y => ?_⟩
  obtain ⟨rfl, rfl⟩ := y
  have e : lo + (i : Int) * (-1) = lo - i := by omega
  rw [e]
  exact ⟨.refl, .int _⟩
theorem si_rng1 (ha : SA C tr mr) : SI C (iRng1 tr) (mRng1 mr) := by
  intro B σ0 σ H env ts R z hm Q hq
  rcases bnd_inv hm with ⟨x, e, h1, rfl⟩ | ⟨x, e1, h1, h2⟩
  · exact ha B σ0 σ H env ts R _ h1 _ hq
  · refine ha B σ0 σ H env ts R _ h1 _ fun vs H1 hl R1 => ?_
    split at h2
    · split at h2
      · rename_i j hj
        cases h2
        match vs, hl with
        | [v], _ =>
          obtain ⟨rfl, R2⟩ := tmp_int (ts := ts) R1
          exact ⟨j, rfl, by omega, by omega, hq _ _ [] yd_rng (by simp) (by simpa using R2)⟩
      · cases h2
    · cases h2
theorem si_rng2 (ha : SA C tr mr) : SI C (iRng2 tr) (mRng2 mr) := by
  intro B σ0 σ H env ts R z hm Q hq
  rcases bnd_inv hm with ⟨x, e, h1, rfl⟩ | ⟨x, e1, h1, h2⟩
  · exact ha B σ0 σ H env ts R _ h1 _ hq
  · refine ha B σ0 σ H env ts R _ h1 _ fun vs H1 hl R1 => ?_
    split at h2
    · split at h2
      · rename_i i j hj
        cases h2
        match vs, hl with
        | [v, w], _ =>
          obtain ⟨rfl, R2⟩ := tmp_int (ts := ts ++ [(v, .int i)]) (by simpa using R1)
          obtain ⟨rfl, R3⟩ := tmp_int R2
          exact ⟨i, j, rfl, by omega, hq _ _ [] yd_rng (by simp) (by simpa using R3)⟩
      · cases h2
    · cases h2
/-- reversed(range(n)) -/
def mRev1 (a : ME) : MI := fun e => bnd (a e) fun x e1 => match x with
  | .int j => if -4611686018427387904 ≤ j ∧ j < 4611686018427387904 then some (.ok (rngC (j.toNat - 1) j.toNat) e1) else none
  | _ => none
theorem si_rev1 (ha : SE C ta ma) : SI C (iRevR (tRg1 ta)) (mRev1 ma) := by
  intro B σ0 σ H env ts R z hm Q hq
  rcases bnd_inv hm with ⟨x, e, h1, rfl⟩ | ⟨x, e1, h1, h2⟩
  · exact ha B σ0 σ H env ts R _ h1 _ hq
  · refine ha B σ0 σ H env ts R _ h1 _ fun v H1 R1 => ?_
    split at h2
    · split at h2
      · rename_i j hj
        cases h2
        obtain ⟨rfl, R2⟩ := tmp_int R1
        refine ⟨j, rfl, by omega, by omega, by omega, by omega, hq _ _ [] ?_ (by simp) (by simpa using R2)⟩
        have e : (0 : Int) + (((j - 0).toNat : Nat) : Int) - 1 = (j.toNat : Int) - 1 := by rw [Int.sub_zero]; omega
        rw [e, Int.sub_zero]
        exact yd_rngC
      · cases h2
    · cases h2
def mLoop (g : MG) (b : MS) : List D → MS
  | [] => fun e => some (.ok .nx e)
  | x :: xs => fun e => match g x e with
    | some e1 => bnd (b e1) fun f e2 => (match f with
      | .nx => mLoop g b xs e2
      | .ct => mLoop g b xs e2
      | .bk => some (.ok .nx e2)
      | .rt d => some (.ok (.rt d) e2))
    | none => none
def mFor (i : MI) (g : MG) (b : MS) : MS := fun e => bnd (i e) fun xs e1 => mLoop g b xs e1
theorem NoAl.fz {ts fr : List (V × D)} (h : NoAl ts) (hf : ∀ p ∈ fr, isFz p.2 = true) : NoAl (ts ++ fr) := fun p hp => by
  rcases List.mem_append.mp hp with hp | hp
  · exact h p hp
  · have := hf p hp
    obtain ⟨v, d⟩ := p
    cases d <;> first | rfl | cases this
theorem Good.frDt {B : Bs} {σ0 σ : St} {H : Hp} {env : Env} {ts fr more : List (V × D)} {S : Ix → Addr → Prop} (g : Good C B σ0 H σ env (ts ++ fr ++ more) S) (hf : ∀ p ∈ fr, isFz p.2 = true) : ∀ p ∈ fr, Dt C.K (pset B S) H p.1 p.2 := by
  intro p hp
  obtain ⟨i, hi, e⟩ := List.mem_iff_getElem.mp hp
  have e2 : (ts ++ fr ++ more)[ts.length + i]? = some (p.1, p.2) := by
    rw [List.append_assoc, List.getElem?_append_right (by omega), Nat.add_sub_cancel_left, List.getElem?_append_left hi, List.getElem?_eq_getElem hi, e]
  have hfz := hf p hp
  rcases g.tmp _ _ _ e2 with ⟨k, e3, _⟩ | h
  · rw [e3] at hfz; cases hfz
  · exact h.dt hfz
theorem ss_for {wi : TI} {mi : MI} {g : TG} {mg : MG} (hi : SI C wi mi) (hg : SG C g mg) (hb : SS C t ms) : SS C (tFor wi g t) (mFor mi mg ms) := by
  intro B σ0 σ H env ts R ht z hm E hE
  rcases bnd_inv hm with ⟨x, e, h1, rfl⟩ | ⟨xs, e1, h1, h2⟩
  · exact hi B σ0 σ H env ts R _ h1 _ (hE σ)
  · refine hi B σ0 σ H env ts R _ h1 _ fun J H1 fr yd hfr R1 => ?_
    refine ⟨fun i m σ' H' => m = xs.length - i ∧ i ≤ xs.length ∧ ∃ e', Rep C B σ0 H' σ' e' (ts ++ fr) ∧ mLoop mg ms (xs.drop i) e' = some z, ⟨xs.length, rfl, Nat.zero_le _, e1, R1, h2⟩, ?_⟩
    rintro i m σ' H' ⟨rfl, hil, e', ⟨S, g'⟩, hz⟩
    have hdt := Good.frDt (more := []) (by rw [List.append_nil]; exact g') hfr
    obtain ⟨y1, y2⟩ := yd (pset B S) H' (fun a z => g'.ptrk z) hdt i
    by_cases hlt : i < xs.length
    · obtain ⟨d, hd⟩ : ∃ d, xs[i]? = some d := ⟨xs[i], by simp [hlt]⟩
      obtain ⟨hgo, hy⟩ := y1 d hd
      have hdr : xs.drop i = d :: xs.drop (i + 1) := by
        have := List.drop_eq_getElem_cons hlt
        rw [this]
        congr 1
        have e9 : xs[i]? = some xs[i] := by simp [hlt]
        rw [hd] at e9; cases e9; rfl
      rw [hdr] at hz
      simp only [mLoop] at hz
      split at hz
      · rename_i e2 h3
        refine .inr ⟨hgo, fun σ2 H2 => ∃ e3, Rep C B σ0 H2 σ2 e3 (ts ++ fr) ∧ mLoop mg ms (xs.drop (i + 1)) e3 = some z, fun σ2 H2 ⟨e3, q1, q2⟩ => ⟨xs.length - (i + 1), by omega, rfl, hlt, e3, q1, q2⟩, fun v H2 yy => ?_⟩
        obtain ⟨k2, d2⟩ := hy v H2 yy
        have R2 : Rep C B σ0 H2 σ' e' (ts ++ fr ++ [(v, d)]) := Good.prim (ts1 := []) (by rw [List.append_nil]; exact g') ⟨k2, fun _ => False, fun _ h => h.elim, .fz (d2.move .refl fun a z => .inl (z.resolve_right id)) fun _ h => h⟩
        have hda : isAl d = false := by cases d2 <;> rfl
        refine hg B σ0 σ' H2 e' (ts ++ fr) v d e2 R2 hda (ht.fz hfr) h3 _ fun σ3 H3 R3 => ?_
        rcases bnd_inv hz with ⟨x, e, h4, rfl⟩ | ⟨f, e3, h4, h5⟩
        · exact hb B σ0 σ3 H3 e2 (ts ++ fr) R3 (ht.fz hfr) _ h4 _ fun σ4 => XW.push (hE σ4)
        · refine hb B σ0 σ3 H3 e2 (ts ++ fr) R3 (ht.fz hfr) _ h4 _ ?_
          cases f with
          | nx => exact fun σ4 H4 R4 => ⟨e3, R4, h5⟩
          | ct => exact fun σ4 H4 R4 => ⟨e3, R4, h5⟩
          | bk => cases h5; exact fun σ4 H4 R4 => hE σ4 H4 R4.pop
          | rt d => cases h5; exact fun v σ4 H4 ha R4 => hE v σ4 H4 ha (R4.mid ha)
      · cases hz
    · have : i = xs.length := by omega
      subst this
      rw [List.drop_length] at hz
      cases hz
      exact .inl ⟨y2 (Nat.le_refl _), hE σ' H' ⟨S, g'.pop⟩⟩
/-! while, with so many turns at most -/
def mWh (t : MT) (b : MS) : Nat → MS
  | 0 => fun _ => none
  | n + 1 => fun e => bnd (t e) fun c e1 => if c = true then bnd (b e1) fun f e2 => (match f with
      | .nx => mWh t b n e2
      | .ct => mWh t b n e2
      | .bk => some (.ok .nx e2)
      | .rt d => some (.ok (.rt d) e2)) else some (.ok .nx e1)
theorem ss_while (n : Nat) (hc : ST C tt mt) (hb : SS C t ms) : SS C (tWhile tt t) (mWh mt ms n) := by
  intro B σ0 σ H env ts R ht z hm E hE
  refine ⟨fun m σ' H' => ∃ e', Rep C B σ0 H' σ' e' ts ∧ mWh mt ms m e' = some z, ⟨n, env, R, hm⟩, ?_⟩
  rintro m σ' H' ⟨e', R', hz⟩
  cases m with
  | zero => cases hz
  | succ m =>
    rcases bnd_inv hz with ⟨x, e, h1, rfl⟩ | ⟨c, e1, h1, h2⟩
    · exact hc B σ0 σ' H' e' ts R' _ h1 _ (hE σ')
    · refine hc B σ0 σ' H' e' ts R' _ h1 _ fun H1 R1 => ?_
      cases c with
      | false => rw [if_neg Bool.false_ne_true] at h2 ⊢; cases h2; exact hE σ' H1 R1
      | true =>
        rw [if_pos rfl] at h2 ⊢
        refine ⟨fun σ2 H2 => ∃ e3, Rep C B σ0 H2 σ2 e3 ts ∧ mWh mt ms m e3 = some z, fun σ2 H2 q => ⟨m, by omega, q⟩, ?_⟩
        rcases bnd_inv h2 with ⟨x, e, h4, rfl⟩ | ⟨f, e3, h4, h5⟩
        · exact hb B σ0 σ' H1 e1 ts R1 ht _ h4 _ hE
        · refine hb B σ0 σ' H1 e1 ts R1 ht _ h4 _ ?_
          cases f with
          | nx => exact fun σ4 H4 R4 => ⟨e3, R4, h5⟩
          | ct => exact fun σ4 H4 R4 => ⟨e3, R4, h5⟩
          | bk => cases h5; exact hE
          | rt d => cases h5; exact hE
end
end Q


namespace Q
open PySem L2
/-! ### calls -/
inductive Rf where
  | ok (d : D) (ds : List D)
  | ex (x : Xc) (ds : List D)
abbrev MF := List D → Option Rf
def fC (K : KC) : Cn := ⟨K, fun _ _ _ _ => False, fun _ => false, [], fun _ => True⟩
/-- a def's promise by its mirror -/
def spM (K : KC) (mf : MF) : Sp := fun vs H Q E => ∃ (B : Bs) (ds : List D) (r : Rf), B.H0 = H ∧ vs.length = ds.length ∧ mf ds = some r ∧ Rep (fC K) B (vs.map some) H (vs.map some) (ds.map some) [] ∧
  match r with
  | .ok d ds' => ∀ v H', isAl d = false → Rep (fC K) B (vs.map some) H' (vs.map some) (ds'.map some) [(v, d)] → Q v H'
  | .ex x ds' => ∀ c o H', RepX (fC K) B (vs.map some) H' (vs.map some) (ds'.map some) [] x c o → E c o H'
def isAlK (k : Nat) : D → Bool | .al j => j == k | _ => false
def alsOk : List D → Bool
  | [] => true
  | .al k :: xs => !xs.any (isAlK k) && alsOk xs
  | _ :: xs => alsOk xs
def back : List D → List D → Env → Env
  | .al k :: xs, d :: ds, e => back xs ds (e.set k (some d))
  | _ :: xs, _ :: ds, e => back xs ds e
  | _, _, e => e
def mCall (f : MF) (a : MA) : ME := fun e => bnd (a e) fun xs e1 => match lend xs e1 with
  | some ds => if alsOk xs = true then (match f ds with
    | some (.ok d ds') => if ds'.length = ds.length then some (.ok d (back xs ds' e1)) else none
    | some (.ex x ds') => if ds'.length = ds.length then some (.ex x (back xs ds' e1)) else none
    | none => none) else none
  | none => none
theorem lend_get : ∀ {xs ds : List D} {e : Env} {j : Nat} {x : D}, lend xs e = some ds → xs[j]? = some x → ∃ d, ds[j]? = some d ∧ res e x = some d
  | [], ds, e, j, x, h, hx => by simp at hx
  | y :: xs, ds, e, j, x, h, hx => by
    unfold lend at h
    split at h
    · rename_i d h1
      split at h
      · rename_i ds' h2
        cases h
        cases j with
        | zero => simp at hx; subst hx; exact ⟨d, rfl, h1⟩
        | succ j =>
          obtain ⟨d', q1, q2⟩ := lend_get (j := j) h2 (by simpa using hx)
          exact ⟨d', by simpa using q1, q2⟩
      · cases h
    · cases h
theorem lend_len : ∀ {xs ds : List D} {e : Env}, lend xs e = some ds → xs.length = ds.length
  | [], ds, e, h => by cases h; rfl
  | y :: xs, ds, e, h => by
    unfold lend at h
    split at h
    · split at h
      · rename_i ds' h2
        cases h
        simp [lend_len h2]
      · cases h
    · cases h
theorem alsOk_inj : ∀ {xs : List D} {i j k : Nat}, alsOk xs = true → xs[i]? = some (.al k) → xs[j]? = some (.al k) → i = j
  | [], i, j, k, h, h1, h2 => by simp at h1
  | x :: xs, i, j, k, h, h1, h2 => by
    have hx : alsOk xs = true := by
      cases x <;> first | exact h | (simp only [alsOk, Bool.and_eq_true] at h; exact h.2)
    have hno : x = .al k → ∀ m : Nat, xs[m]? ≠ some (D.al k) := by
      rintro rfl m e
      simp only [alsOk, Bool.and_eq_true, Bool.not_eq_true', List.any_eq_false] at h
      exact h.1 _ (List.mem_of_getElem? e) (by simp [isAlK])
    cases i with
    | zero =>
      cases j with
      | zero => rfl
      | succ j => simp at h1 h2; exact absurd h2 (hno h1 j)
    | succ i =>
      cases j with
      | zero => simp at h1 h2; exact absurd h1 (hno h2 i)
      | succ j => simp at h1 h2; rw [alsOk_inj hx h1 h2]
theorem back_length : ∀ {xs ds : List D} {e : Env}, (back xs ds e).length = e.length
  | [], ds, e => by cases ds <;> rfl
  | x :: xs, [], e => by cases x <;> rfl
  | x :: xs, d :: ds, e => by
    cases x <;> simp only [back] <;> first | exact back_length | (rw [back_length, List.length_set])
theorem back_get : ∀ {xs ds : List D} {e : Env} {k : Nat}, alsOk xs = true → xs.length = ds.length → (∀ j : Nat, xs[j]? ≠ some (D.al k)) → (back xs ds e)[k]? = e[k]?
  | [], ds, e, k, h, hl, hn => by cases ds <;> rfl
  | x :: xs, [], e, k, h, hl, hn => by simp at hl
  | x :: xs, d :: ds, e, k, h, hl, hn => by
    have hx : alsOk xs = true := by
      cases x <;> first | exact h | (simp only [alsOk, Bool.and_eq_true] at h; exact h.2)
    have hn' : ∀ j : Nat, xs[j]? ≠ some (D.al k) := fun j e => hn (j + 1) (by simpa using e)
    have hl' : xs.length = ds.length := by simpa using hl
    cases x with
    | al m =>
      have hmk : m ≠ k := fun z => hn 0 (by simp [z])
      simp only [back]
      rw [back_get hx hl' hn', List.getElem?_set_ne hmk]
    | _ => (show (back xs ds e)[k]? = e[k]?); exact back_get hx hl' hn'
theorem back_at : ∀ {xs ds : List D} {e : Env} {j k : Nat} {d : D}, alsOk xs = true → xs.length = ds.length → xs[j]? = some (.al k) → ds[j]? = some d → k < e.length → (back xs ds e)[k]? = some (some d)
  | [], ds, e, j, k, d, h, hl, hj, hd, hk => by simp at hj
  | x :: xs, [], e, j, k, d, h, hl, hj, hd, hk => by simp at hl
  | x :: xs, y :: ds, e, j, k, d, h, hl, hj, hd, hk => by
    have hx : alsOk xs = true := by
      cases x <;> first | exact h | (simp only [alsOk, Bool.and_eq_true] at h; exact h.2)
    have hl' : xs.length = ds.length := by simpa using hl
    cases j with
    | zero =>
      simp at hj hd
      subst hj hd
      simp only [back]
      rw [back_get hx hl' (fun m e => by
        have := alsOk_inj h (i := 0) (j := m + 1) (k := k) rfl (by simpa using e)
        cases this), List.getElem?_set_self hk]
    | succ j =>
      simp at hj hd
      cases x with
      | al m => simp only [back]; exact back_at hx hl' hj hd (by rw [List.length_set]; exact hk)
      | _ => (show (back xs ds e)[k]? = some (some d)); exact back_at hx hl' hj hd hk
section
variable {C : Cn} {te ta tb tc : TE} {ma mb mc : ME} {tt tu : TT} {mt mu : MT} {tr : TA} {mr : MA} {t u : TS} {ms mv : MS}
/-- a call: the arguments go over, come back -/
theorem Good.call {B : Bs} {σ0 σ : St} {H : Hp} {env : Env} {ts : List (V × D)} {S : Ix → Addr → Prop} {vs : List V} {xs ds : List D} (g : Good C B σ0 H σ env (ts ++ vs.zip xs) S) (hl : vs.length = xs.length) (hds : lend xs env = some ds) (hal : alsOk xs = true) :
    ∃ B' : Bs, B'.H0 = H ∧ Rep (fC C.K) B' (vs.map some) H (vs.map some) (ds.map some) [] ∧ ∀ H' ds' ts' S', ds'.length = ds.length → NoAl ts' → Good (fC C.K) B' (vs.map some) H' (vs.map some) (ds'.map some) ts' S' → ∃ U, Good C B σ0 H' σ (back xs ds' env) (ts ++ ts') U ∧ ∀ a, pset B U a → pset B' S' a := by
  have hld := lend_len hds
  -- where argument j is held
  let src : Nat → Ix := fun j => match xs[j]? with
    | some (.al k) => .inl k
    | _ => .inr (ts.length + j)
  have hsrcA : ∀ {j k}, xs[j]? = some (.al k) → src j = .inl k := fun h => by simp only [src, h]
  have hsrcN : ∀ {j x}, xs[j]? = some x → isAl x = false → src j = .inr (ts.length + j) := fun {j x} h hn => by
    simp only [src, h]
    cases x <;> first | rfl | cases hn
  have hinj : ∀ {i j}, i < xs.length → j < xs.length → src i = src j → i = j := by
    intro i j hi hj e
    obtain ⟨x, hx⟩ : ∃ x, xs[i]? = some x := ⟨xs[i], by simp [hi]⟩
    obtain ⟨y, hy⟩ : ∃ y, xs[j]? = some y := ⟨xs[j], by simp [hj]⟩
    by_cases hax : isAl x = true
    · obtain ⟨k, rfl⟩ : ∃ k, x = .al k := by cases x <;> first | exact ⟨_, rfl⟩ | cases hax
      rw [hsrcA hx] at e
      by_cases hay : isAl y = true
      · obtain ⟨k2, rfl⟩ : ∃ k, y = .al k := by cases y <;> first | exact ⟨_, rfl⟩ | cases hay
        rw [hsrcA hy] at e
        cases e
        exact alsOk_inj hal hx hy
      · rw [hsrcN hy (by simpa using hay)] at e; cases e
    · rw [hsrcN hx (by simpa using hax)] at e
      by_cases hay : isAl y = true
      · obtain ⟨k2, rfl⟩ : ∃ k, y = .al k := by cases y <;> first | exact ⟨_, rfl⟩ | cases hay
        rw [hsrcA hy] at e; cases e
      · rw [hsrcN hy (by simpa using hay)] at e
        injection e with e; omega
  -- what argument j is
  have harg : ∀ {j d}, ds[j]? = some d → ∃ v, vs[j]? = some v ∧ j < xs.length ∧ Ow C.K (pset B S) H v d (S (src j)) := by
    intro j d hd
    have hj : j < ds.length := (List.getElem?_eq_some_iff.mp hd).1
    have hjx : j < xs.length := by omega
    have hjv : j < vs.length := by omega
    obtain ⟨x, hx⟩ : ∃ x, xs[j]? = some x := ⟨xs[j], by simp [hjx]⟩
    obtain ⟨v, hv⟩ : ∃ v, vs[j]? = some v := ⟨vs[j], by simp [hjv]⟩
    obtain ⟨d', hd', hr⟩ := lend_get hds hx
    rw [hd] at hd'; cases hd'
    refine ⟨v, hv, hjx, ?_⟩
    have et : (ts ++ vs.zip xs)[ts.length + j]? = some (v, x) := by
      rw [List.getElem?_append_right (by omega), Nat.add_sub_cancel_left, List.getElem?_zip_eq_some]
      exact ⟨hv, hx⟩
    rcases g.tmp _ v x et with ⟨k, rfl, h2⟩ | h
    · simp only [res] at hr
      split at hr
      · rename_i d2 h3
        cases hr
        obtain ⟨v', e1, e2⟩ := g.slot k _ h3
        rw [h2] at e1; cases e1
        rw [hsrcA hx]; exact e2
      · cases hr
    · have hn := h.noAl
      rw [res_self hn] at hr; cases hr
      rw [hsrcN hx hn]; exact h
  let B' : Bs := ⟨fun a => pset B S a ∧ ∀ j, j < xs.length → ¬ S (src j) a, H, fun a => ∃ j, j < xs.length ∧ S (src j) a⟩
  let T : Ix → Addr → Prop := fun i a => match i with
    | .inl j => j < xs.length ∧ S (src j) a
    | .inr _ => False
  have hT : ∀ i a, T i a → ∃ j, i = .inl j ∧ j < xs.length ∧ S (src j) a := by
    intro i a h
    cases i with
    | inl j => exact ⟨j, rfl, h⟩
    | inr j => exact h.elim
  have hps : ∀ a, pset B' T a → pset B S a := by
    rintro a (h | ⟨i, h⟩)
    · exact h.1
    · obtain ⟨j, _, _, h⟩ := hT i a h; exact .inr ⟨_, h⟩
  refine ⟨B', rfl, ⟨T, .refl, fun a h => ⟨g.ptrk h.1, fun ⟨j, hj, z⟩ => h.2 j hj z⟩, fun i a h => ?_, fun i a h => ?_, fun i j a h1 h2 => ?_, by simp [hl, hld], ⟨fun _ _ => rfl, rfl⟩, fun i d e => ?_, fun j v d e => by simp at e, fun p hp => (nomatch hp), trivial⟩, ?_⟩
  · obtain ⟨j, _, hj, h⟩ := hT i a h
    exact ⟨.inl ⟨j, hj, h⟩, fun z => z.2 j hj h⟩
  · obtain ⟨j, _, hj, h⟩ := hT i a h; exact g.trk _ a h
  · obtain ⟨j1, rfl, l1, h1⟩ := hT i a h1
    obtain ⟨j2, rfl, l2, h2⟩ := hT j a h2
    rw [hinj l1 l2 (g.dis _ _ a h1 h2)]
  · rw [List.getElem?_map] at e
    cases hd : ds[i]? with
    | none => rw [hd] at e; cases e
    | some d' =>
      rw [hd] at e; cases e
      obtain ⟨v, hv, hi, ho⟩ := harg hd
      exact ⟨v, by rw [List.getElem?_map, hv]; rfl, (ho.move .refl (fun a z => .inl (hps a z)) fun _ _ => rfl).iff fun b => ⟨fun z => z.2, fun z => ⟨hi, z⟩⟩⟩
  intro H' ds' ts' S' hl' hna g'
  -- the caller's holdings behind
  let nsrc : Ix → Prop := fun i => (∀ j, j < xs.length → src j ≠ i) ∧ ∀ n, i = .inr n → n < ts.length
  let U : Ix → Addr → Prop := fun i a => (∃ n, i = .inr (ts.length + n) ∧ S' (.inr n) a) ∨ (∃ j k, xs[j]? = some (.al k) ∧ i = .inl k ∧ S' (.inl j) a) ∨ (nsrc i ∧ S i a)
  have hUp : ∀ a, pset B U a → pset B' S' a := by
    rintro a (h | ⟨i, ⟨n, _, h⟩ | ⟨j, k, _, _, h⟩ | ⟨hn, h⟩⟩)
    · exact .inl ⟨.inl h, fun j hj z => (g.sub _ a z).2 h⟩
    · exact .inr ⟨_, h⟩
    · exact .inr ⟨_, h⟩
    · exact .inl ⟨.inr ⟨_, h⟩, fun j hj z => hn.1 j hj (g.dis _ _ a z h)⟩
  have hS'sub : ∀ i a, S' i a → (B.S0 a ∨ B.H0 a = none) ∧ ¬ B.ps0 a := by
    intro i a h
    obtain ⟨h1, h2⟩ := g'.sub i a h
    rcases h1 with ⟨j, hj, z⟩ | z
    · exact g.sub _ a z
    · exact ⟨.inr (g.kp.dom a z), fun w => (g.fr a w).1 (g.kp.dom a z)⟩
  have hS'n : ∀ i a k, S' i a → nsrc k → S k a → False := by
    intro i a k h hk hs
    rcases (g'.sub i a h).1 with ⟨j, hj, z⟩ | z
    · exact hk.1 j hj (g.dis _ _ a z hs)
    · exact g.trk k a hs z
  have hkS : Kp (pset B S) H H' := g'.kp.more fun a ⟨j, hj, z⟩ => .inr ⟨_, z⟩
  have hqS : ∀ a, pset B U a → pset B S a ∨ H a = none := by
    have aux : ∀ i a, S' i a → pset B S a ∨ H a = none := fun i a h => by
      rcases (g'.sub i a h).1 with ⟨j, hj, z⟩ | z
      · exact .inl (.inr ⟨_, z⟩)
      · exact .inr z
    rintro a (h | ⟨i, ⟨n, _, h⟩ | ⟨j, k, _, _, h⟩ | ⟨hn, h⟩⟩)
    · exact .inl (.inl h)
    · exact aux _ a h
    · exact aux _ a h
    · exact .inl (.inr ⟨_, h⟩)
  have hkeep : ∀ k, nsrc k → ∀ a, S k a → H' a = H a := fun k hk a z => by
    have hn : ¬ B'.S0 a := fun ⟨j, hj, w⟩ => hk.1 j hj (g.dis _ _ a w z)
    cases e : H a with
    | none => exact absurd e (g.trk _ a z)
    | some o => exact g'.kp.get a o hn e
  refine ⟨U, ⟨⟨fun b o n e => ?_, fun b e => g.kp.dom b (g'.kp.dom b e)⟩, g.fr, fun i a h => ?_, fun i a h => ?_, fun i j a h1 h2 => ?_, by rw [back_length]; exact g.len, g.keep, fun i d e => ?_, fun j v d e => ?_, fun p hp => (g.hld p hp).move hkS hqS, g.fx⟩, hUp⟩
  · refine g'.kp.get b o (fun ⟨j, hj, z⟩ => ?_) (g.kp.get b o n e)
    rcases (g.sub _ b z).1 with z | z
    · exact n z
    · rw [z] at e; cases e
  · rcases h with ⟨n, _, h⟩ | ⟨j, k, _, _, h⟩ | ⟨hn, h⟩
    · exact hS'sub _ a h
    · exact hS'sub _ a h
    · exact g.sub i a h
  · rcases h with ⟨n, _, h⟩ | ⟨j, k, _, _, h⟩ | ⟨hn, h⟩
    · exact g'.trk _ a h
    · exact g'.trk _ a h
    · exact fun z => g.trk i a h (g'.kp.dom a z)
  · rcases h1 with ⟨n, rfl, h1⟩ | ⟨j1, k1, q1, rfl, h1⟩ | ⟨hn1, h1⟩
    · rcases h2 with ⟨n2, rfl, h2⟩ | ⟨j2, k2, q2, rfl, h2⟩ | ⟨hn2, h2⟩
      · have := g'.dis _ _ a h1 h2; cases this; rfl
      · have := g'.dis _ _ a h1 h2; cases this
      · exact (hS'n _ a _ h1 hn2 h2).elim
    · rcases h2 with ⟨n2, rfl, h2⟩ | ⟨j2, k2, q2, rfl, h2⟩ | ⟨hn2, h2⟩
      · have := g'.dis _ _ a h1 h2; cases this
      · have := g'.dis _ _ a h1 h2
        cases this
        rw [q1] at q2; cases q2; rfl
      · exact (hS'n _ a _ h1 hn2 h2).elim
    · rcases h2 with ⟨n2, rfl, h2⟩ | ⟨j2, k2, q2, rfl, h2⟩ | ⟨hn2, h2⟩
      · exact (hS'n _ a _ h2 hn1 h1).elim
      · exact (hS'n _ a _ h2 hn1 h1).elim
      · exact g.dis _ _ a h1 h2
  · have hil : i < env.length := by
      have := (List.getElem?_eq_some_iff.mp e).1
      rw [back_length] at this; exact this
    by_cases hx : ∃ j : Nat, xs[j]? = some (D.al i)
    · obtain ⟨j, hj⟩ := hx
      have hjl : j < xs.length := (List.getElem?_eq_some_iff.mp hj).1
      obtain ⟨d', hd'⟩ : ∃ d', ds'[j]? = some d' := ⟨ds'[j]'(by omega), List.getElem?_eq_getElem (by omega)⟩
      rw [back_at hal (by omega) hj hd' hil] at e
      cases e
      obtain ⟨v', e1, e2⟩ := g'.slot j d (by rw [List.getElem?_map, hd']; rfl)
      have et : ∃ v, (ts ++ vs.zip xs)[ts.length + j]? = some (v, .al i) ∧ vs[j]? = some v := by
        have hjv : j < vs.length := by omega
        refine ⟨vs[j], ?_, by simp [hjv]⟩
        rw [List.getElem?_append_right (by omega), Nat.add_sub_cancel_left, List.getElem?_zip_eq_some]
        exact ⟨by simp [hjv], hj⟩
      obtain ⟨v, et, hvj⟩ := et
      have hσ : σ[i]? = some (some v) := by
        rcases g.tmp _ v _ et with ⟨k, ek, h2⟩ | h
        · cases ek; exact h2
        · exact absurd h.noAl (by simp [isAl])
      rw [List.getElem?_map, hvj] at e1
      have ev : v = v' := by simpa using e1
      subst ev
      refine ⟨v, hσ, (e2.move .refl (fun a z => .inl (hUp a z)) fun _ _ => rfl).iff fun b => ⟨fun z => ?_, fun z => .inr (.inl ⟨j, i, hj, rfl, z⟩)⟩⟩
      rcases z with ⟨n, e, _⟩ | ⟨j2, k2, q2, e2, z⟩ | ⟨hn, z⟩
      · cases e
      · cases e2; rw [alsOk_inj hal hj q2]; exact z
      · exact absurd (hsrcA hj) (hn.1 j hjl)
    · have hn : ∀ j : Nat, xs[j]? ≠ some (D.al i) := fun j z => hx ⟨j, z⟩
      rw [back_get hal (by omega) hn] at e
      obtain ⟨v', e1, e2⟩ := g.slot i d e
      have hns : nsrc (.inl i) := by
        refine ⟨fun j hj z => ?_, fun n z => by cases z⟩
        obtain ⟨x, hxj⟩ : ∃ x, xs[j]? = some x := ⟨xs[j], by simp [hj]⟩
        by_cases hax : isAl x = true
        · obtain ⟨k, rfl⟩ : ∃ k, x = .al k := by cases x <;> first | exact ⟨_, rfl⟩ | cases hax
          rw [hsrcA hxj] at z; cases z
          exact hn j hxj
        · rw [hsrcN hxj (by simpa using hax)] at z; cases z
      refine ⟨v', e1, (e2.move hkS hqS (hkeep _ hns)).iff fun b => ⟨fun z => ?_, fun z => .inr (.inr ⟨hns, z⟩)⟩⟩
      rcases z with ⟨n, e, _⟩ | ⟨j2, k2, q2, e2, z⟩ | ⟨_, z⟩
      · cases e
      · cases e2; exact absurd q2 (hn j2)
      · exact z
  · by_cases hj : j < ts.length
    · rw [List.getElem?_append_left hj] at e
      rcases g.tmp j v d (by rw [List.getElem?_append_left hj]; exact e) with h | h
      · exact .inl h
      · have hns : nsrc (.inr j) := by
          refine ⟨fun i hi z => ?_, fun n z => by injection z with z; omega⟩
          obtain ⟨x, hxj⟩ : ∃ x, xs[i]? = some x := ⟨xs[i], by simp [hi]⟩
          by_cases hax : isAl x = true
          · obtain ⟨k, rfl⟩ : ∃ k, x = .al k := by cases x <;> first | exact ⟨_, rfl⟩ | cases hax
            rw [hsrcA hxj] at z; cases z
          · rw [hsrcN hxj (by simpa using hax)] at z; injection z with z; omega
        refine .inr ((h.move hkS hqS (hkeep _ hns)).iff fun b => ⟨fun z => ?_, fun z => .inr (.inr ⟨hns, z⟩)⟩)
        rcases z with ⟨n, e, _⟩ | ⟨j2, k2, q2, e2, z⟩ | ⟨_, z⟩
        · injection e with e; omega
        · cases e2
        · exact z
    · rw [List.getElem?_append_right (by omega)] at e
      have hnd := hna _ (List.mem_of_getElem? e)
      rcases g'.tmp _ v d e with ⟨k, rfl, _⟩ | h
      · cases hnd
      · refine .inr ((h.move .refl (fun a z => .inl (hUp a z)) fun _ _ => rfl).iff fun b => ⟨fun z => ?_, fun z => .inl ⟨j - ts.length, by congr 1; omega, z⟩⟩)
        rcases z with ⟨n, e, z⟩ | ⟨j2, k2, q2, e2, z⟩ | ⟨hn, z⟩
        · injection e with e; subst e; rw [Nat.add_sub_cancel_left]; exact z
        · cases e2
        · exact absurd (hn.2 j rfl) (by omega)
theorem se_callS {mf : MF} (ha : SA C tr mr) : SE C (tCallS (spM C.K mf) (fun σ c o H => C.W c o σ H) tr) (mCall mf mr) := by
  intro B σ0 σ H env ts R z hm Q hq
  rcases bnd_inv hm with ⟨x, e, h1, rfl⟩ | ⟨xs, e1, h1, h2⟩
  · exact ha B σ0 σ H env ts R _ h1 _ hq
  · refine ha B σ0 σ H env ts R _ h1 _ fun vs H1 hl ⟨S, g⟩ => ?_
    split at h2
    · rename_i ds hds
      split at h2
      · rename_i hal
        obtain ⟨B', hB, R', hback⟩ := g.call hl hds hal
        split at h2
        · rename_i d ds' hf
          split at h2
          · rename_i hl2
            cases h2
            refine ⟨B', ds, _, hB, by rw [hl, lend_len hds], hf, R', fun v H' hd ⟨S', g'⟩ => ?_⟩
            obtain ⟨U, gU, _⟩ := hback H' ds' _ S' hl2 (fun p hp => by simp at hp; subst hp; exact hd) g'
            exact hq _ _ ⟨U, gU⟩
          · cases h2
        · rename_i x ds' hf
          split at h2
          · rename_i hl2
            cases h2
            refine ⟨B', ds, _, hB, by rw [hl, lend_len hds], hf, R', fun c o H' ⟨S', g', hx⟩ => ?_⟩
            obtain ⟨U, gU, hU⟩ := hback H' ds' _ S' hl2 (fun p hp => by simp at hp) g'
            exact hq c o H' ⟨U, by simpa using gU, XOk.less (C := C) hx hU⟩
          · cases h2
        · cases h2
      · cases h2
    · cases h2
/-- where no exception leaves -/
theorem se_call0 {mf : MF} (hW : C.W = fun _ _ _ _ => False) (ha : SA C tr mr) : SE C (tCall (spM C.K mf) [] E0 tr) (mCall mf mr) := by
  intro B σ0 σ H env ts R z hm Q hq
  have := se_callS (mf := mf) ha B σ0 σ H env ts R z hm Q hq
  have e : (fun (vs : List V) (H1 : Hp) => spM C.K mf (vs ++ []) H1 Q E0) = fun vs H1 => spM C.K mf vs H1 Q fun c o H => C.W c o σ H := by
    funext vs H1
    rw [List.append_nil, hW]; first | done | rfl
  show tr σ H fun vs H1 => spM C.K mf (vs ++ []) H1 Q E0
  rw [e]
  exact this
end
end Q


namespace Q
open PySem L2
/-! ### comprehensions -/
def wipeE (e : Env) : List Nat → Env
  | [] => e
  | v :: vs => (wipeE e vs).set v none
def Cn.inner (C : Cn) (own : List Nat) : Cn := ⟨C.K, fun _ _ _ _ => False, fun j => own.contains j, C.held, fun _ => True⟩
theorem wipe_get {σ : St} : ∀ {vs : List Nat} {i : Nat}, (wipe σ vs)[i]? = if i ∈ vs then (if i < σ.length then some none else none) else σ[i]?
  | [], i => by simp [wipe]
  | v :: vs, i => by
    unfold wipe
    by_cases h : i = v
    · subst h
      by_cases hl : i < σ.length
      · rw [List.getElem?_set_self (by rw [wipe_length]; exact hl)]; simp [hl]
      · rw [List.getElem?_eq_none (by rw [List.length_set, wipe_length]; omega)]; simp [hl]
    · rw [List.getElem?_set_ne (Ne.symm h), wipe_get]
      simp [h]
theorem wipeE_length {e : Env} : ∀ {vs : List Nat}, (wipeE e vs).length = e.length
  | [] => rfl
  | v :: vs => by unfold wipeE; rw [List.length_set, wipeE_length]
theorem wipeE_get {σ : Env} : ∀ {vs : List Nat} {i : Nat}, (wipeE σ vs)[i]? = if i ∈ vs then (if i < σ.length then some none else none) else σ[i]?
  | [], i => by simp [wipeE]
  | v :: vs, i => by
    unfold wipeE
    by_cases h : i = v
    · subst h
      by_cases hl : i < σ.length
      · rw [List.getElem?_set_self (by rw [wipeE_length]; exact hl)]; simp [hl]
      · rw [List.getElem?_eq_none (by rw [List.length_set, wipeE_length]; omega)]; simp [hl]
    · rw [List.getElem?_set_ne (Ne.symm h), wipeE_get]
      simp [h]
section
variable {C C' : Cn} {B : Bs} {σ0 σ σ1 : St} {H H1 : Hp} {env env1 : Env} {ts ts1 fr : List (V × D)} {S : Ix → Addr → Prop} {v : V} {d : D} {vs : List Nat}
/-- other names are in charge -/
theorem Good.turn {σ0' σ' : St} {e' : Env} (g : Good C B σ0 H σ env ts S) (hK : C'.K = C.K) (hH : C'.held = C.held) (hX : C'.fx σ0') (hA : (∀ j, C'.A j = false → σ'[j]? = σ0'[j]?) ∧ σ'.length = σ0'.length) (ht : NoAl ts) (hl : σ'.length = e'.length)
    (hs : ∀ (i : Nat) d v, e'[i]? = some (some d) → env[i]? = some (some d) ∧ (σ[i]? = some (some v) → σ'[i]? = some (some v))) : Good C' B σ0' H σ' e' ts S :=
  ⟨g.kp, g.fr, g.sub, g.trk, g.dis, hl, hA, fun i d e => by
    obtain ⟨v, h1, h2⟩ := g.slot i d (hs i d .non e).1
    exact ⟨v, (hs i d v e).2 h1, by rw [hK]; exact h2⟩, fun j v d e => by
    have hn := ht _ (List.mem_of_getElem? e)
    rcases g.tmp j v d e with ⟨k, rfl, _⟩ | h
    · cases hn
    · rw [hK]; exact .inr h, fun p hp => by rw [hK]; exact g.hld p (hH ▸ hp), hX⟩
theorem Good.wipe (g : Good C B σ0 H σ env ts S) (hK : C'.K = C.K) (hH : C'.held = C.held) {σ0' : St} (hX : C'.fx σ0') (hA : (∀ j, C'.A j = false → (L2.wipe σ vs)[j]? = σ0'[j]?) ∧ (L2.wipe σ vs).length = σ0'.length) (ht : NoAl ts) : Good C' B σ0' H (L2.wipe σ vs) (wipeE env vs) ts S :=
  g.turn hK hH hX hA ht (by rw [wipe_length, wipeE_length]; exact g.len) fun i d v e => by
    rw [wipeE_get] at e
    split at e
    · split at e <;> cases e
    · rename_i hi
      exact ⟨e, fun h => by rw [wipe_get, if_neg hi]; exact h⟩
end
def mCl (g : MG) (t : MT) (el : ME) (own : List Nat) : List D → List D → Env → Option (List D × Env)
  | [], acc, e => some (acc, e)
  | x :: xs, acc, e => match g x e with
    | some e1 => (match t e1 with
      | some (.ok b e2) => if b = true then (match el e2 with
        | some (.ok y e3) => (match tkf y e3 with
          | some (y', e4) => if acc.length < 16777216 then mCl g t el own xs (acc ++ [y']) (wipeE e4 own) else none
          | none => none)
        | _ => none) else mCl g t el own xs acc (wipeE e2 own)
      | _ => none)
    | none => none
def mLc (i : MI) (g : MG) (t : MT) (el : ME) (own : List Nat) : ME := fun e => bnd (i e) fun xs e1 => match mCl g t el own xs [] (wipeE e1 own) with
  | some (ys, e2) => some (.ok (.mls ys) e2)
  | none => none
section
variable {C : Cn} {te ta tb tc : TE} {ma mb mc : ME} {tt tu : TT} {mt mu : MT} {tr : TA} {mr : MA} {t u : TS} {ms mv : MS}
theorem se_lc {wi : TI} {mi : MI} {g : TG} {mg : MG} {own : List Nat} (hi : SI C wi mi) (hg : SG (C.inner own) g mg) (ht : ST (C.inner own) tt mt) (he : SE (C.inner own) te ma) : SE C (tLc wi g tt te own) (mLc mi mg mt ma own) := by
  intro B σ0 σ H env ts R z hm Q hq
  obtain ⟨B', R', hback⟩ := R.aside
  rcases bnd_inv hm with ⟨x, e, h1, rfl⟩ | ⟨xs, e1, h1, h2⟩
  · refine hi B' σ0 σ H env [] R' _ h1 _ fun c o H' ⟨S', g', hx⟩ => ?_
    obtain ⟨U, gU, hU⟩ := hback H' _ _ S' g'
    exact hq c o H' ⟨U, by simpa using gU, hx.less hU⟩
  · split at h2
    case h_2 => cases h2
    rename_i ys e2 hz
    cases h2
    refine hi B' σ0 σ H env [] R' _ h1 _ fun J H1 fr yd hfr R1 => ?_
    intro E hE
    obtain ⟨S1, g1⟩ := R1
    rw [List.nil_append] at g1
    have hnf : NoAl fr := fun p hp => by
      have := hfr p hp
      obtain ⟨v, d⟩ := p
      cases d <;> first | rfl | cases this
    have gi : Good (C.inner own) B' (L2.wipe σ own) H1 (L2.wipe σ own) (wipeE e1 own) fr S1 := g1.wipe (C' := C.inner own) (vs := own) rfl rfl trivial ⟨fun _ _ => rfl, rfl⟩ hnf
    have R2 : Rep (C.inner own) B' (L2.wipe σ own) (L2.upd H1 E (.lst [])) (L2.wipe σ own) (wipeE e1 own) (fr ++ [(.ref E, .mls [])]) := Good.prim (ts1 := []) (by rw [List.append_nil]; exact gi) (Post.lst hE .nil)
    refine ⟨fun i m H' => m = xs.length - i ∧ i ≤ xs.length ∧ ∃ e' acc, Rep (C.inner own) B' (L2.wipe σ own) H' (L2.wipe σ own) e' (fr ++ [(.ref E, .mls acc)]) ∧ mCl mg mt ma own (xs.drop i) acc e' = some (ys, e2), ⟨xs.length, rfl, Nat.zero_le _, _, [], R2, hz⟩, ?_⟩
    rintro i m H' ⟨rfl, hil, e', acc, ⟨S, g'⟩, hz'⟩
    have hdt := Good.frDt (ts := []) (more := [(.ref E, .mls acc)]) (by rw [List.nil_append]; exact g') hfr
    obtain ⟨y1, y2⟩ := yd (pset B' S) H' (fun a z => g'.ptrk z) hdt i
    have hna : NoAl (fr ++ [(V.ref E, D.mls acc)]) := hnf.snoc rfl
    by_cases hlt : i < xs.length
    · obtain ⟨d, hd⟩ : ∃ d, xs[i]? = some d := ⟨xs[i], by simp [hlt]⟩
      obtain ⟨hgo, hy⟩ := y1 d hd
      have hdr : xs.drop i = d :: xs.drop (i + 1) := by
        have := List.drop_eq_getElem_cons hlt
        rw [this]
        congr 1
        have e9 : xs[i]? = some xs[i] := by simp [hlt]
        rw [hd] at e9; cases e9; rfl
      rw [hdr] at hz'
      simp only [mCl] at hz'
      split at hz'
      case h_2 => cases hz'
      rename_i e3 h3
      refine .inr ⟨hgo, fun H2 => ∃ e5 acc', Rep (C.inner own) B' (L2.wipe σ own) H2 (L2.wipe σ own) e5 (fr ++ [(.ref E, .mls acc')]) ∧ mCl mg mt ma own (xs.drop (i + 1)) acc' e5 = some (ys, e2), fun H2 q => ⟨xs.length - (i + 1), by omega, rfl, hlt, q⟩, fun v H2 yy => ?_⟩
      obtain ⟨k2, d2⟩ := hy v H2 yy
      have R3 : Rep (C.inner own) B' (L2.wipe σ own) H2 (L2.wipe σ own) e' (fr ++ [(V.ref E, D.mls acc)] ++ [(v, d)]) := Good.prim (ts1 := []) (by rw [List.append_nil]; exact g') ⟨k2, fun _ => False, fun _ h => h.elim, .fz (d2.move .refl fun a z => .inl (z.resolve_right id)) fun _ h => h⟩
      have hda : isAl d = false := by cases d2 <;> rfl
      refine hg B' _ _ H2 e' _ v d e3 R3 hda hna h3 _ fun σ2 H3 R4 => ?_
      have hσ2 : ∀ {H e ts}, Rep (C.inner own) B' (L2.wipe σ own) H σ2 e ts → L2.wipe σ2 own = L2.wipe σ own := by
        rintro H e ts ⟨S, g⟩
        apply List.ext_getElem?
        intro j
        rw [wipe_get, wipe_get]
        have hlen : σ2.length = σ.length := by rw [g.keep.2, wipe_length]
        by_cases hj : j ∈ own
        · rw [if_pos hj, if_pos hj, hlen]
        · rw [if_neg hj, if_neg hj, g.keep.1 j (by simp [Cn.inner, hj]), wipe_get, if_neg hj]
      have hw := hσ2 R4
      refine ⟨hw, ?_⟩
      have hA2 : (∀ j, (C.inner own).A j = false → (L2.wipe σ2 own)[j]? = (L2.wipe σ own)[j]?) ∧ (L2.wipe σ2 own).length = (L2.wipe σ own).length := ⟨fun _ _ => by rw [hw], by rw [hw]⟩
      split at hz'
      case h_2 => cases hz'
      rename_i b e4 h4
      refine ht B' _ σ2 H3 e3 _ R4 _ h4 _ fun H4 R5 => ?_
      cases b with
      | false =>
        rw [if_neg Bool.false_ne_true] at hz' ⊢
        obtain ⟨S5, g5⟩ := R5
        refine ⟨_, acc, ?_, hz'⟩
        have g6 := g5.wipe (C' := C.inner own) (vs := own) rfl rfl trivial hA2 hna
        rw [hw] at g6
        exact ⟨_, g6⟩
      | true =>
        rw [if_pos rfl] at hz' ⊢
        split at hz'
        case h_2 => cases hz'
        rename_i y e5 h5
        split at hz'
        case h_2 => cases hz'
        rename_i y' e6 h6
        split at hz'
        case isFalse => cases hz'
        rename_i hsz
        refine he B' _ σ2 H4 e4 _ R5 _ h5 _ fun w H5 ⟨S6, g6⟩ => ?_
        obtain ⟨S7, g7, hy'⟩ := g6.takenF (ts1 := []) h6
        have ho : Ow C.K (pset B' S7) H5 (.ref E) (.mls acc) (S7 (.inr fr.length)) := by
          rcases g7.tmp fr.length (.ref E) (.mls acc) (by simp) with ⟨k, e, _⟩ | h
          · cases e
          · exact h
        cases ho with
        | fz h _ => cases h
        | @mls a' xs' ds' S' hE' hA' hS' =>
          refine ⟨xs', hE', by rw [sizeLine_eq, hA'.1]; exact hsz, _, acc ++ [y'], ?_, hz'⟩
          have hcell : S7 (.inr fr.length) E := (hS' E).mpr rfl
          have g8 := g7.push (H1 := L2.upd H5 E (.lst (xs' ++ [w]))) (v := .ref E) (d := .mls (acc ++ [y'])) fr.length (by simp) (S7 (.inr fr.length)) (.mut hcell) (fun a z => ⟨.inl z, by rw [(hS' a).mp z, upd_same]; simp⟩)
            (.mls upd_same ((hA'.snoc hy').move (.mut (.inr ⟨_, hcell⟩)) fun a z => ?_) hS')
          · have et : List.take fr.length (fr ++ [(V.ref E, D.mls acc)] ++ [(w, y')]) = fr := by
              rw [List.append_assoc, List.take_left]
            have g9 : Good (C.inner own) B' (L2.wipe σ own) (L2.upd H5 E (.lst (xs' ++ [w]))) σ2 e6 (fr ++ [(V.ref E, D.mls (acc ++ [y']))]) _ := et ▸ g8
            have g10 := g9.wipe (C' := C.inner own) (vs := own) rfl rfl trivial hA2 (hnf.snoc rfl)
            rw [hw] at g10
            exact ⟨_, g10⟩
          · rcases z with z | ⟨i, ⟨rfl, z⟩ | ⟨_, z⟩⟩
            · exact .inl (.inl z)
            · exact .inl (.inr ⟨_, z⟩)
            · exact .inl (.inr ⟨_, z⟩)
    · have : i = xs.length := by omega
      subst this
      rw [List.drop_length] at hz'
      obtain ⟨rfl, rfl⟩ : acc = ys ∧ e' = e2 := by cases hz'; exact ⟨rfl, rfl⟩
      refine .inl ⟨y2 (Nat.le_refl _), ?_⟩
      have g9 : Good C B' σ0 H' σ e' (fr ++ [(V.ref E, D.mls acc)]) S := g'.turn (C' := C) rfl rfl g1.fx g1.keep hna (by
        have := g'.len
        rw [wipe_length] at this
        exact this) fun i d v e => by
          obtain ⟨v', h1, _⟩ := g'.slot i d e
          rw [wipe_get] at h1
          have hi : i ∉ own := fun z => by
            rw [if_pos z] at h1
            split at h1 <;> cases h1
          exact ⟨e, fun h => by rw [wipe_get, if_neg hi] at h; exact h⟩
      have R9 : Rep C B' σ0 H' σ e' ([] ++ fr ++ [(V.ref E, D.mls acc)]) := ⟨S, by rw [List.nil_append]; exact g9⟩
      obtain ⟨S9, g10⟩ := R9.mid rfl
      obtain ⟨U, gU, _⟩ := hback H' _ _ S9 g10
      exact hq _ _ ⟨U, gU⟩
end
/-! ### a def -/
def outA : List D → Env → Option (List D)
  | [], _ => some []
  | d :: ds, o :: e => match (if isFz d = true then some d else o) with
    | some x => (match outA ds e with | some xs => some (x :: xs) | none => none)
    | none => none
  | _ :: _, [] => none
def mFun (np nl : Nat) (asg : List Nat) (body : MS) : MF := fun ds => if ds.length = np ∧ asg.all (fun j => match ds[j]? with | some d => isFz d | none => true) = true then (match body (ds.map some ++ List.replicate nl none) with
  | some (.ok (.rt d) e) => (match outA ds e with | some ds' => some (.ok d ds') | none => none)
  | some (.ok .nx e) => (match outA ds e with | some ds' => some (.ok .non ds') | none => none)
  | some (.ex x e) => (match outA ds e with | some ds' => some (.ex x ds') | none => none)
  | _ => none) else none
theorem outA_len : ∀ {ds ds' : List D} {e : Env}, outA ds e = some ds' → ds'.length = ds.length
  | [], ds', e, h => by cases h; rfl
  | d :: ds, ds', [], h => by cases h
  | d :: ds, ds', o :: e, h => by
    unfold outA at h
    split at h
    · split at h
      · rename_i xs h2
        cases h
        simp [outA_len h2]
      · cases h
    · cases h
theorem outA_get : ∀ {ds ds' : List D} {e : Env} {j : Nat} {d : D}, outA ds e = some ds' → ds[j]? = some d → ∃ d', ds'[j]? = some d' ∧ ((isFz d = true ∧ d' = d) ∨ (isFz d = false ∧ e[j]? = some (some d')))
  | [], ds', e, j, d, h, hj => by simp at hj
  | _ :: ds, ds', [], j, d, h, hj => by cases h
  | d0 :: ds, ds', o :: e, j, d, h, hj => by
    unfold outA at h
    split at h
    · rename_i x hx
      split at h
      · rename_i xs h2
        cases h
        cases j with
        | zero =>
          simp at hj
          subst hj
          refine ⟨x, rfl, ?_⟩
          split at hx
          · rename_i hf; cases hx; exact .inl ⟨hf, rfl⟩
          · rename_i hf; subst hx; exact .inr ⟨by simpa using hf, rfl⟩
        | succ j =>
          obtain ⟨d', q1, q2⟩ := outA_get (j := j) h2 (by simpa using hj)
          exact ⟨d', by simpa using q1, by simpa using q2⟩
      · cases h
    · cases h
/-- the names of a body -/
def bC (K : KC) (W : WX) (np : Nat) (asg : List Nat) : Cn := ⟨K, W, fun j => decide (np ≤ j) || asg.contains j, [], fun _ => True⟩
theorem body_mir {K : KC} {np nl : Nat} {asg : List Nat} {body : MS} {t : TS} {N : List Str} {vs : List V} {H : Hp} {Q : VK} {E : XK} (hN : N.length = np + nl)
    (hb : SS (bC K (fun c o _ H => E c o H) np asg) t body) (h : spM K (mFun np nl asg body) vs H Q E) : t { nx := fun _ H' => Q .non H', rt := Q } (L2.start N vs) H := by
  obtain ⟨B, ds, r, rfl, hl, hm, ⟨S, g⟩, hr⟩ := h
  unfold mFun at hm
  split at hm
  case isFalse => cases hm
  rename_i hc
  obtain ⟨hnp, hasg⟩ := hc
  have hvl : vs.length = np := by omega
  have hst : L2.start N vs = vs.map some ++ List.replicate nl none := by
    unfold L2.start
    rw [hN, hvl, Nat.add_sub_cancel_left]
  rw [hst]
  have hgetv : ∀ {i : Nat}, i < np → (vs.map some ++ List.replicate nl none)[i]? = (vs.map some)[i]? := fun hi => List.getElem?_append_left (by simp; omega)
  have hget : ∀ {i : Nat} {d : D}, (ds.map some ++ List.replicate nl none)[i]? = some (some d) → i < np ∧ (ds.map some)[i]? = some (some d) := by
    intro i d e
    by_cases hi : i < np
    · rw [List.getElem?_append_left (by simp; omega)] at e; exact ⟨hi, e⟩
    · rw [List.getElem?_append_right (by simp; omega), List.getElem?_replicate] at e
      split at e <;> cases e
  let B1 : Bs := ⟨B.ps0, B.H0, fun a => ∃ i, S i a⟩
  have g1 : Good (bC K (fun c o _ H => E c o H) np asg) B1 (vs.map some ++ List.replicate nl none) B.H0 (vs.map some ++ List.replicate nl none) (ds.map some ++ List.replicate nl none) [] S :=
    ⟨.refl, fun a h => ⟨(g.fr a h).1, fun ⟨i, z⟩ => (g.sub i a z).2 h⟩, fun i a h => ⟨.inl ⟨i, h⟩, (g.sub i a h).2⟩, g.trk, g.dis, by simp [hl], ⟨fun _ _ => rfl, rfl⟩, fun i d e => by
      obtain ⟨hi, e⟩ := hget e
      obtain ⟨v, h1, h2⟩ := g.slot i d e
      exact ⟨v, by rw [hgetv hi]; exact h1, h2⟩, fun j v d e => by simp at e, fun p hp => (nomatch hp), trivial⟩
  -- back at the caller's
  have hend : ∀ {H' σ' e' ts' S' ds'}, Good (bC K (fun c o _ H => E c o H) np asg) B1 (vs.map some ++ List.replicate nl none) H' σ' e' ts' S' → NoAl ts' → outA ds e' = some ds' → ∃ U, Good (fC K) B (vs.map some) H' (vs.map some) (ds'.map some) ts' U ∧ ∀ a, pset B U a → pset B1 S' a := by
    intro H' σ' e' ts' S' ds' g' hna ho
    let U : Ix → Addr → Prop := fun i a => S' i a ∧ ∀ j, i = .inl j → ∀ d, ds[j]? = some d → isFz d = false
    have hUp : ∀ a, pset B U a → pset B1 S' a := by
      rintro a (h | ⟨i, h, _⟩)
      · exact .inl h
      · exact .inr ⟨i, h⟩
    have hold := outA_len ho
    have hkS : Kp (pset B S) B.H0 H' := g'.kp.more fun a ⟨i, z⟩ => .inr ⟨i, z⟩
    have hqS : ∀ a, pset B U a → pset B S a ∨ B.H0 a = none := by
      rintro a (h | ⟨i, h, _⟩)
      · exact .inl (.inl h)
      · rcases (g'.sub i a h).1 with ⟨j, z⟩ | z
        · exact .inl (.inr ⟨j, z⟩)
        · exact .inr z
    refine ⟨U, ⟨⟨fun b o n e => ?_, g'.kp.dom⟩, g.fr, fun i a h => ?_, fun i a h => g'.trk i a h.1, fun i j a h1 h2 => g'.dis i j a h1.1 h2.1, by simp [hl, hold], ⟨fun _ _ => rfl, rfl⟩, fun i d e => ?_, fun j v d e => ?_, fun p hp => (nomatch hp), trivial⟩, hUp⟩
    · refine g'.kp.get b o (fun ⟨i, z⟩ => ?_) e
      rcases (g.sub i b z).1 with z | z
      · exact n z
      · rw [z] at e; cases e
    · obtain ⟨h1, h2⟩ := g'.sub i a h.1
      rcases h1 with ⟨j, z⟩ | z
      · exact g.sub j a z
      · exact ⟨.inr z, h2⟩
    · rw [List.getElem?_map] at e
      cases hd' : ds'[i]? with
      | none => rw [hd'] at e; cases e
      | some d1 =>
        rw [hd'] at e; cases e
        have hi : i < ds.length := by rw [← hold]; exact (List.getElem?_eq_some_iff.mp hd').1
        obtain ⟨d0, hd0⟩ : ∃ d0, ds[i]? = some d0 := ⟨ds[i], by simp [hi]⟩
        obtain ⟨d2, q1, q2⟩ := outA_get ho hd0
        rw [hd'] at q1; cases q1
        obtain ⟨v, hv, how⟩ := g.slot i d0 (by rw [List.getElem?_map, hd0]; rfl)
        rcases q2 with ⟨hf, rfl⟩ | ⟨hf, he⟩
        · exact ⟨v, hv, .fz ((how.dt hf).move hkS hqS) fun b z => by
            have := z.2 i rfl _ hd0
            rw [hf] at this; cases this⟩
        · obtain ⟨v', hv', how'⟩ := g'.slot i d he
          have hA : (bC K (fun c o _ H => E c o H) np asg).A i = false := by
            simp only [bC, Bool.or_eq_false_iff, decide_eq_false_iff_not]
            refine ⟨by omega, ?_⟩
            cases hx : asg.contains i with
            | false => rfl
            | true =>
              have := List.all_eq_true.mp hasg i (by simpa using hx)
              simp only [hd0] at this
              rw [hf] at this; cases this
          have := g'.keep.1 i hA
          rw [hv', hgetv (by omega), hv] at this
          cases this
          exact ⟨v, hv, (how'.move .refl (fun a z => .inl (hUp a z)) fun _ _ => rfl).iff fun b => ⟨fun z => z.1, fun z => ⟨z, fun j e d e2 => by
            cases e; rw [hd0] at e2; cases e2; exact hf⟩⟩⟩
    · have hn := hna _ (List.mem_of_getElem? e)
      rcases g'.tmp j v d e with ⟨k, rfl, _⟩ | h
      · cases hn
      · exact .inr ((h.move .refl (fun a z => .inl (hUp a z)) fun _ _ => rfl).iff fun b => ⟨fun z => z.1, fun z => ⟨z, fun j e => by cases e⟩⟩)
  split at hm
  · rename_i d e he
    split at hm
    · rename_i ds' ho
      cases hm
      refine hb B1 _ _ _ _ [] ⟨S, g1⟩ (fun p hp => by simp at hp) _ he _ fun v σ' H' hd ⟨S', g'⟩ => ?_
      obtain ⟨U, gU, _⟩ := hend g' (fun p hp => by simp at hp; subst hp; exact hd) ho
      exact hr v H' hd ⟨U, gU⟩
    · cases hm
  · rename_i e he
    split at hm
    · rename_i ds' ho
      cases hm
      refine hb B1 _ _ _ _ [] ⟨S, g1⟩ (fun p hp => by simp at hp) _ he _ fun σ' H' ⟨S', g'⟩ => ?_
      obtain ⟨U, gU, _⟩ := hend g' (fun p hp => by simp at hp) ho
      exact hr _ H' rfl (Good.prim (ts := []) (ts1 := []) gU (Post.dt .non))
    · cases hm
  · rename_i x e he
    split at hm
    · rename_i ds' ho
      cases hm
      refine hb B1 _ _ _ _ [] ⟨S, g1⟩ (fun p hp => by simp at hp) _ he _ fun σ' c o H' ⟨S', g', hx⟩ => ?_
      obtain ⟨U, gU, hU⟩ := hend g' (fun p hp => by simp at hp) ho
      exact hr c o H' ⟨U, gU, XOk.less (C := fC K) hx hU⟩
    · cases hm
  · cases hm
end Q


namespace Q
open PySem L2
/-! ### what operations make of data -/
mutual
def D.toP : D → PyData
  | .non => .none | .bl b => .bool b | .int i => .int i | .str s => .str s
  | .lst ds => .list (D.toPs ds) | .rol ds => .list (D.toPs ds) | .mls ds => .list (D.toPs ds) | .tup ds => .tuple (D.toPs ds)
  | _ => .none
def D.toPs : List D → List PyData
  | [] => []
  | d :: ds => D.toP d :: D.toPs ds
end
mutual
def D.okP : D → Bool
  | .non => true | .bl _ => true | .int _ => true | .str _ => true
  | .lst ds => D.okPs ds | .rol ds => D.okPs ds | .mls ds => D.okPs ds | .tup ds => D.okPs ds
  | _ => false
def D.okPs : List D → Bool
  | [] => true
  | d :: ds => D.okP d && D.okPs ds
end
section
variable {K : KC} {ps : Addr → Prop} {H : Hp} {v : V} {d : D} {xs : List V} {ds : List D}
mutual
theorem Dt.dp : ∀ {d : D} {v : V}, Dt K ps H v d → d.okP = true → Dp K H v d.toP
  | .non, v, h, _ => by rw [h.inv_non]; exact .non
  | .bl b, v, h, _ => by rw [h.inv_bl]; exact .bl b
  | .int b, v, h, _ => by rw [h.inv_int]; exact .int b
  | .str b, v, h, _ => by rw [h.inv_str]; exact .str b
  | .lst ds, v, h, e => by
    obtain ⟨a, xs, rfl, h1, _, hA⟩ := h.inv_lst
    exact .lst (SqL.of h1) (DtA.dp hA (by simpa [D.okP] using e))
  | .rol ds, v, h, e => by
    obtain ⟨a, xs, rfl, h1, hA⟩ := h.inv_rol
    exact .lst h1.sq (DtA.dp hA (by simpa [D.okP] using e))
  | .tup ds, v, h, e => by
    obtain ⟨a, xs, rfl, h1, hA⟩ := h.inv_tup
    exact .tup h1.sq (DtA.dp hA (by simpa [D.okP] using e))
  | .mls ds, v, h, e => by cases h
  | .cst c, v, h, e => by cases e
  | .al c, v, h, e => by cases e
  | .dct _ _, v, h, e => by cases e
  | .mdc _ _, v, h, e => by cases e
  | .dtt _ _, v, h, e => by cases e
  | .mdt _ _, v, h, e => by cases e
  | .xdt _ _, v, h, e => by cases e
  | .obj _ _ _, v, h, e => by cases e
theorem DtA.dp : ∀ {ds : List D} {xs : List V}, DtA K ps H xs ds → D.okPs ds = true → DpAll K H xs (D.toPs ds)
  | [], [], h, _ => .nil
  | [], _ :: _, h, _ => by have := h.1; simp at this
  | _ :: _, [], h, _ => by have := h.1; simp at this
  | d :: ds, x :: xs, h, e => by
    simp only [D.okPs, Bool.and_eq_true] at e
    exact .cons (Dt.dp (h.2 0 x d rfl rfl) e.1) (DtA.dp ⟨by simpa using h.1, fun i y f e1 e2 => h.2 (i + 1) y f (by simpa using e1) (by simpa using e2)⟩ e.2)
end
theorem Peek.dp (p : Peek K ps H v d) (h : d.okP = true) : Dp K H v d.toP := by
  obtain ⟨S, o, _⟩ := p
  cases o with
  | fz h1 _ => exact h1.dp h
  | mls h1 h2 _ => exact .lst (SqL.of h1) (DtA.dp h2 (by simpa [D.okP] using h))
  | mdc _ _ _ _ => cases h
  | mdt _ _ _ _ => cases h
end
/-! ### dicts -/
def keyD : D → Option Key
  | .int i => some (.inl i) | .str s => some (.inr s) | _ => none
def findD {κ : Type} [DecidableEq κ] : List κ → List D → κ → Option D
  | k :: ks, d :: ds, q => if k = q then some d else findD ks ds q
  | _, _, _ => none
def hasK {κ : Type} [DecidableEq κ] (ks : List κ) (k : κ) : Bool := ks.any fun q => decide (q = k)
theorem hasK_of {κ : Type} [DecidableEq κ] {ks : List κ} {k : κ} (h : k ∈ ks) : hasK ks k = true := List.any_eq_true.mpr ⟨k, h, by simp⟩
theorem hasK_no {κ : Type} [DecidableEq κ] {ks : List κ} {k : κ} (h : k ∉ ks) : hasK ks k = false := by
  cases e : hasK ks k with
  | false => rfl
  | true =>
    obtain ⟨q, h1, h2⟩ := List.any_eq_true.mp e
    exact absurd (of_decide_eq_true h2 ▸ h1) h
theorem Peek.key {K : KC} {ps : Addr → Prop} {H : Hp} {v : V} {d : D} {k : Key} (p : Peek K ps H v d) (e : keyD d = some k) : v = kV k := by
  cases d <;> cases e
  · rw [p.int]; rfl
  · rw [p.str]; rfl
theorem findD_ok {K : KC} {ps : Addr → Prop} {H : Hp} {κ : Type} [DecidableEq κ] : ∀ {ks : List κ} {xs : List V} {ds : List D} {k : κ}, DtA K ps H xs ds → ks.length = ds.length →
    (valV (ks.zip xs) k = none ∧ findD ks ds k = none ∧ k ∉ ks) ∨ ∃ v d, valV (ks.zip xs) k = some v ∧ findD ks ds k = some d ∧ Dt K ps H v d ∧ k ∈ ks
  | [], xs, ds, k, hA, hl => .inl ⟨rfl, rfl, by simp⟩
  | q :: ks, [], [], k, hA, hl => by simp at hl
  | q :: ks, [], d :: ds, k, hA, hl => by have := hA.1; simp at this
  | q :: ks, x :: xs, [], k, hA, hl => by simp at hl
  | q :: ks, x :: xs, d :: ds, k, hA, hl => by
    have h1 := hA.2 0 x d rfl rfl
    have h2 : DtA K ps H xs ds := ⟨by simpa using hA.1, fun i y f e1 e2 => hA.2 (i + 1) y f (by simpa using e1) (by simpa using e2)⟩
    by_cases e : q = k
    · refine .inr ⟨x, d, ?_, ?_, h1, by simp [e]⟩
      · rw [List.zip_cons_cons]; exact valV_pos (p := (q, x)) e
      · simp only [findD, if_pos e]
    · have e1 : valV ((q :: ks).zip (x :: xs)) k = valV (ks.zip xs) k := by rw [List.zip_cons_cons]; exact valV_neg (p := (q, x)) e
      have e2 : findD (q :: ks) (d :: ds) k = findD ks ds k := by simp only [findD, if_neg e]
      rw [e1, e2]
      rcases findD_ok (ks := ks) (k := k) h2 (by simpa using hl) with ⟨a, b, c⟩ | ⟨v, d', a, b, c, m⟩
      · exact .inl ⟨a, b, by simp [c, Ne.symm e]⟩
      · exact .inr ⟨v, d', a, b, c, by simp [m]⟩
def dAdd : D → D → Option D
  | .int i, .int j => some (.int (i + j))
  | .str a, .str b => if a.length + b.length ≤ 16777216 then some (.str (a ++ b)) else none
  | .tup a, .tup b => if a.length + b.length ≤ 16777216 then some (.tup (a ++ b)) else none
  | .lst a, .lst b => if a.length + b.length ≤ 16777216 then some (.mls (a ++ b)) else none
  | .lst a, .mls b => if a.length + b.length ≤ 16777216 then some (.mls (a ++ b)) else none
  | .mls a, .lst b => if a.length + b.length ≤ 16777216 then some (.mls (a ++ b)) else none
  | .mls a, .mls b => if a.length + b.length ≤ 16777216 then some (.mls (a ++ b)) else none
  | _, _ => none
def dSub : D → D → Option D
  | .int i, .int j => some (.int (i - j))
  | _, _ => none
def dMul : D → D → Option D
  | .int i, .int j => if (-18446744073709551616 < i ∧ i < 18446744073709551616) ∨ (-18446744073709551616 < j ∧ j < 18446744073709551616) then some (.int (i * j)) else none
  | .lst a, .int k => if (-9223372036854775808 ≤ k ∧ k < 9223372036854775808) ∧ a.length * k.toNat ≤ 16777216 then some (.mls (List.replicate k.toNat a).flatten) else none
  | .mls a, .int k => if (-9223372036854775808 ≤ k ∧ k < 9223372036854775808) ∧ a.length * k.toNat ≤ 16777216 then some (.mls (List.replicate k.toNat a).flatten) else none
  | _, _ => none
def dDiv : D → D → Option D
  | .int i, .int j => if 0 < j ∧ j < 1073741824 then some (.int (i / j)) else none
  | _, _ => none
def dMod : D → D → Option D
  | .int i, .int j => if 0 < j then some (.int (i % j)) else none
  | _, _ => none
def dPow : D → D → Option D
  | .int i, .int j => if 0 ≤ j ∧ j ≤ 1000 ∧ i.natAbs < 1000000 then some (.int (i ^ j.toNat)) else none
  | _, _ => none
def dNeg : D → Option D
  | .int i => some (.int (-i))
  | _ => none
def dLt : D → D → Option D
  | .int i, .int j => some (.bl (decide (i < j)))
  | .str i, .str j => some (.bl (decide (i.cps.toList < j.cps.toList)))
  | _, _ => none
def dLe : D → D → Option D
  | .int i, .int j => some (.bl (decide (i ≤ j)))
  | .str i, .str j => some (.bl (!decide (j.cps.toList < i.cps.toList)))
  | _, _ => none
def dGt : D → D → Option D
  | .int i, .int j => some (.bl (decide (j < i)))
  | .str i, .str j => some (.bl (decide (j.cps.toList < i.cps.toList)))
  | _, _ => none
def dGe : D → D → Option D
  | .int i, .int j => some (.bl (decide (j ≤ i)))
  | .str i, .str j => some (.bl (!decide (i.cps.toList < j.cps.toList)))
  | _, _ => none
/-- == -/
def eqD : D → D → Option Bool
  | .int i, .int j => some (decide (i = j))
  | .str i, .str j => some (decide (i = j))
  | .bl i, .bl j => some (decide (i = j))
  | .non, .non => some true
  | x, y => if x.okP = true ∧ y.okP = true ∧ SeqAt.shaped x.toP = true ∧ SeqAt.shaped y.toP = true then some (PyData.eqv x.toP y.toP) else none
def dEq (x y : D) : Option D := (eqD x y).map .bl
def dNe (x y : D) : Option D := (eqD x y).map fun b => .bl (!b)
def dIs : D → D → Option D
  | .non, .non => some (.bl true)
  | .cst _, .non => none
  | .al _, .non => none
  | _, .non => some (.bl false)
  | _, _ => none
def dIsNot : D → D → Option D
  | .non, .non => some (.bl false)
  | .cst _, .non => none
  | .al _, .non => none
  | _, .non => some (.bl true)
  | _, _ => none
def flatD : D → Bool
  | .non => true | .bl _ => true | .int _ => true | .str _ => true | _ => false
def toV : D → V
  | .bl b => .bl b | .int i => .int i | .str s => .str s | _ => .non
def inD (x : D) (y : D) : Option Bool := match y with
  | .str z => (match x with
    | .str s => (match s.cps.toList with | [c] => some (decide (c ∈ z.cps.toList)) | _ => none)
    | _ => none)
  | .dct ks _ => (match keyD x with | some k => some (hasK ks k) | none => none)
  | .mdc ks _ => (match keyD x with | some k => some (hasK ks k) | none => none)
  | y => (match seqD y with
    | some ds => if flatD x = true ∧ ds.all flatD = true then some (inV (toV x) (ds.map toV)) else none
    | none => none)
def dIn (x y : D) : Option D := (inD x y).map .bl
def dNotIn (x y : D) : Option D := (inD x y).map fun b => .bl (!b)
def dIx : D → D → Option D
  | .str z, .int i => if z.length ≤ 16777216 then (match atI z.cps.toList i with | some c => some (.str ⟨#[c]⟩) | none => none) else none
  | .dct ks ds, y => (match keyD y with | some k => findD ks ds k | none => none)
  | .mdc ks ds, y => (match keyD y with | some k => findD ks ds k | none => none)
  | x, .int i => (match seqD x with | some ds => atI ds i | none => none)
  | _, _ => none
def cutD (xs : List D) (lo hi : Option Int) : List D := (xs.drop (HT.sIx xs.length 0 lo)).take (HT.sIx xs.length xs.length hi - HT.sIx xs.length 0 lo)
def dSl (x : D) (lo hi : Option Int) : Option D := match x with
  | .str z => if z.length ≤ 16777216 then some (.str (cutS z lo hi)) else none
  | .tup ds => some (.tup (cutD ds lo hi))
  | .lst ds => some (.mls (cutD ds lo hi))
  | .rol ds => some (.mls (cutD ds lo hi))
  | .mls ds => some (.mls (cutD ds lo hi))
  | _ => none
def dLen : List D → Option D
  | [.str z] => if z.length ≤ 16777216 then some (.int z.length) else none
  | [.mdc ks _] => some (.int ks.length)
  | [x] => (match seqD x with | some ds => some (.int ds.length) | none => none)
  | _ => none
def dInt : List D → Option D
  | [.int i] => some (.int i)
  | [.bl b] => some (.int (if b then 1 else 0))
  | [.str a] => if a.length ≤ 640 then (match PySem.intText? a with | some n => some (.int n) | none => none) else none
  | _ => none
def dList : List D → Option D
  | [x] => (match seqD x with | some ds => some (.mls ds) | none => none)
  | _ => none
def dTuple : List D → Option D
  | [x] => (match seqD x with | some ds => some (.tup ds) | none => none)
  | _ => none
def dStr : List D → Option D
  | [.int i] => if i.natAbs.log2 < 1920 then some (.str (toString i)) else none
  | _ => none
def dMin : List D → Option D
  | [.int i, .int j] => some (.int (if j < i then j else i))
  | _ => none
def dMax : List D → Option D
  | [.int i, .int j] => some (.int (if j > i then j else i))
  | _ => none
def tyD : D → Option String
  | .non => some "NoneType" | .bl _ => some "bool" | .int _ => some "int" | .str _ => some "str" | .lst _ => some "list" | .mls _ => some "list" | .tup _ => some "tuple" | _ => none
def dIsi : List D → Option D
  | [x, .cst (.ty U)] => (match tyD x with
    | some t => (match kitB t U with | some b => some (.bl b) | none => none)
    | none => none)
  | _ => none
def lsD : D → Option (List D)
  | .lst ds => some ds | .mls ds => some ds | .rol ds => some ds | _ => none
def isBl : D → Bool | .bl _ => true | _ => false
def unBl : D → Bool | .bl b => b | _ => false
def isInt : D → Bool | .int _ => true | _ => false
def unInt : D → Int | .int b => b | _ => 0
def dAll : List D → Option D
  | [x] => (match lsD x with | some ds => if ds.all isBl = true then some (.bl (ds.all unBl)) else none | none => none)
  | _ => none
def dAny : List D → Option D
  | [x] => (match lsD x with | some ds => if ds.all isBl = true then some (.bl (ds.any unBl)) else none | none => none)
  | _ => none
def dSum : List D → Option D
  | [x] => (match lsD x with | some ds => if ds.all isInt = true then some (.int (ds.map unInt).sum) else none | none => none)
  | _ => none
section
variable {K : KC} {ps : Addr → Prop} {H : Hp} {v : V} {d : D} {xs : List V} {ds : List D}
theorem atI_dt {i : Int} {d : D} (h : DtA K ps H xs ds) (e : atI ds i = some d) : ∃ x, atI xs i = some x ∧ Dt K ps H x d := by
  unfold atI at e ⊢
  rw [h.1]
  cases hk : ixN ds.length i with
  | none => rw [hk] at e; cases e
  | some k =>
    rw [hk] at e
    exact h.get e
theorem cut_dt (h : DtA K ps H xs ds) (lo hi : Option Int) : DtA K ps H (cutV xs lo hi) (cutD ds lo hi) := by
  unfold cutV cutD
  rw [h.1]
  exact (h.drop _).take _
theorem Peek.ls (p : Peek K ps H v d) (e : lsD d = some ds) : ∃ a xs, v = .ref a ∧ SqL K H a xs ∧ DtA K ps H xs ds := by
  cases d <;> cases e
  · obtain ⟨a, xs, e, h1, h2⟩ := p.lst; exact ⟨a, xs, e, SqL.of h1, h2⟩
  · obtain ⟨a, xs, e, h1, h2⟩ := p.rol; exact ⟨a, xs, e, h1, h2⟩
  · obtain ⟨a, xs, e, h1, h2⟩ := p.mls; exact ⟨a, xs, e, SqL.of h1, h2⟩
theorem flat_dt : ∀ {xs : List V} {ds : List D}, DtA K ps H xs ds → ds.all flatD = true → xs = ds.map toV ∧ xs.all flatV = true
  | [], [], h, _ => ⟨rfl, rfl⟩
  | [], _ :: _, h, _ => by have := h.1; simp at this
  | _ :: _, [], h, _ => by have := h.1; simp at this
  | x :: xs, d :: ds, h, e => by
    simp only [List.all_cons, Bool.and_eq_true] at e
    obtain ⟨h1, h2⟩ := flat_dt (xs := xs) (ds := ds) ⟨by simpa using h.1, fun i y f e1 e2 => h.2 (i + 1) y f (by simpa using e1) (by simpa using e2)⟩ e.2
    have h0 := h.2 0 x d rfl rfl
    have hx : x = toV d ∧ flatV x = true := by
      cases d <;> first | (cases h0; exact ⟨rfl, rfl⟩) | cases e.1
    refine ⟨by rw [h1, hx.1]; rfl, ?_⟩
    simp only [List.all_cons, Bool.and_eq_true]
    exact ⟨hx.2, h2⟩
theorem bls_dt : ∀ {xs : List V} {ds : List D}, DtA K ps H xs ds → ds.all isBl = true → xs = (ds.map unBl).map V.bl
  | [], [], h, _ => rfl
  | [], _ :: _, h, _ => by have := h.1; simp at this
  | _ :: _, [], h, _ => by have := h.1; simp at this
  | x :: xs, d :: ds, h, e => by
    simp only [List.all_cons, Bool.and_eq_true] at e
    have h1 := bls_dt (xs := xs) (ds := ds) ⟨by simpa using h.1, fun i y f e1 e2 => h.2 (i + 1) y f (by simpa using e1) (by simpa using e2)⟩ e.2
    have h0 := h.2 0 x d rfl rfl
    have hx : x = .bl (unBl d) := by cases d <;> first | (cases h0; rfl) | cases e.1
    rw [h1, hx]; rfl
theorem ints_dt : ∀ {xs : List V} {ds : List D}, DtA K ps H xs ds → ds.all isInt = true → xs = (ds.map unInt).map V.int
  | [], [], h, _ => rfl
  | [], _ :: _, h, _ => by have := h.1; simp at this
  | _ :: _, [], h, _ => by have := h.1; simp at this
  | x :: xs, d :: ds, h, e => by
    simp only [List.all_cons, Bool.and_eq_true] at e
    have h1 := ints_dt (xs := xs) (ds := ds) ⟨by simpa using h.1, fun i y f e1 e2 => h.2 (i + 1) y f (by simpa using e1) (by simpa using e2)⟩ e.2
    have h0 := h.2 0 x d rfl rfl
    have hx : x = .int (unInt d) := by cases d <;> first | (cases h0; rfl) | cases e.1
    rw [h1, hx]; rfl
theorem Peek.flat (p : Peek K ps H v d) (h : flatD d = true) : v = toV d ∧ flatV v = true := by
  cases d <;> first | cases h | skip
  · rw [p.non]; exact ⟨rfl, rfl⟩
  · rw [p.bl]; exact ⟨rfl, rfl⟩
  · rw [p.int]; exact ⟨rfl, rfl⟩
  · rw [p.str]; exact ⟨rfl, rfl⟩
theorem p_add : P2 K (rAddD K) dAdd := by
  intro ps H x y d d' e Q ht px py h hq
  have hls : ∀ {a b : List D} {xa xb : List V} {l m : Addr}, H l = some (.lst xa) → H m = some (.lst xb) → DtA K ps H xa a → DtA K ps H xb b → (if a.length + b.length ≤ 16777216 then some (D.mls (a ++ b)) else none) = some e → rAddD K (.ref l) (.ref m) H Q := fun {a b xa xb l m} h1 h2 hA hB h => by
    split at h
    · rename_i hsz
      cases h
      exact .inl ⟨l, m, xa, xb, rfl, rfl, h1, h2, by rw [hA.1, hB.1, sizeLine_eq]; exact hsz, fun p hp => hq _ _ (Post.lst hp (hA.append hB))⟩
    · cases h
  match d, d', h with
  | .int i, .int j, h => cases h; rw [px.int, py.int]; exact hq _ _ (Post.dt (.int _))
  | .str a, .str b, h =>
    simp only [dAdd] at h
    split at h
    · rename_i hsz
      cases h; rw [px.str, py.str]; exact ⟨by rw [sizeLine_eq]; exact hsz, hq _ _ (Post.dt (.str _))⟩
    · cases h
  | .tup a, .tup b, h =>
    simp only [dAdd] at h
    split at h
    · rename_i hsz
      cases h
      obtain ⟨l, xa, rfl, h1, hA⟩ := px.tup
      obtain ⟨m, xb, rfl, h2, hB⟩ := py.tup
      obtain ⟨S1, o1, _⟩ := px
      obtain ⟨S2, o2, _⟩ := py
      refine .inr ⟨l, m, xa, xb, rfl, rfl, h1, h2, by rw [hA.1, hB.1, sizeLine_eq]; exact hsz, fun hx => ?_, fun hx hy => ?_, fun hx hy p hp => hq _ _ (Post.tup ht hp (hA.append hB))⟩
      · have : a = [] := List.eq_nil_of_length_eq_zero (by rw [← hA.1, hx]; rfl)
        subst this
        exact hq _ _ (Post.dt (o2.dt rfl))
      · have : b = [] := List.eq_nil_of_length_eq_zero (by rw [← hB.1, hy]; rfl)
        subst this
        rw [List.append_nil] at hq
        exact hq _ _ (Post.dt (o1.dt rfl))
    · cases h
  | .lst a, .lst b, h => obtain ⟨l, xa, rfl, h1, hA⟩ := px.lst; obtain ⟨m, xb, rfl, h2, hB⟩ := py.lst; exact hls h1 h2 hA hB h
  | .lst a, .mls b, h => obtain ⟨l, xa, rfl, h1, hA⟩ := px.lst; obtain ⟨m, xb, rfl, h2, hB⟩ := py.mls; exact hls h1 h2 hA hB h
  | .mls a, .lst b, h => obtain ⟨l, xa, rfl, h1, hA⟩ := px.mls; obtain ⟨m, xb, rfl, h2, hB⟩ := py.lst; exact hls h1 h2 hA hB h
  | .mls a, .mls b, h => obtain ⟨l, xa, rfl, h1, hA⟩ := px.mls; obtain ⟨m, xb, rfl, h2, hB⟩ := py.mls; exact hls h1 h2 hA hB h
theorem p_sub : P2 K rSubD dSub := by
  intro ps H x y d d' e Q ht px py h hq
  match d, d', h with
  | .int i, .int j, h => cases h; rw [px.int, py.int]; exact hq _ _ (Post.dt (.int _))
theorem p_mul : P2 K rMulD dMul := by
  intro ps H x y d d' e Q ht px py h hq
  have hls : ∀ {a : List D} {k : Int} {xa : List V} {l : Addr}, H l = some (.lst xa) → DtA K ps H xa a → (if (-9223372036854775808 ≤ k ∧ k < 9223372036854775808) ∧ a.length * k.toNat ≤ 16777216 then some (D.mls (List.replicate k.toNat a).flatten) else none) = some e → rMulD (.ref l) (.int k) H Q := fun {a k xa l} h1 hA h => by
    split at h
    · rename_i hc
      cases h
      exact ⟨l, k, xa, rfl, rfl, h1, by omega, by omega, by rw [hA.1, sizeLine_eq]; exact hc.2, fun p hp => hq _ _ (Post.lst hp (hA.flat _))⟩
    · cases h
  match d, d', h with
  | .int i, .int j, h =>
    simp only [dMul] at h
    split at h
    · rename_i hc
      cases h; rw [px.int, py.int]
      refine ⟨?_, hq _ _ (Post.dt (.int _))⟩
      rcases hc with hc | hc
      · exact .inl ⟨by omega, by omega⟩
      · exact .inr ⟨by omega, by omega⟩
    · cases h
  | .lst a, .int k, h => obtain ⟨l, xa, rfl, h1, hA⟩ := px.lst; rw [py.int]; exact hls h1 hA h
  | .mls a, .int k, h => obtain ⟨l, xa, rfl, h1, hA⟩ := px.mls; rw [py.int]; exact hls h1 hA h
theorem p_div : P2 K rFdivD dDiv := by
  intro ps H x y d d' e Q ht px py h hq
  match d, d', h with
  | .int i, .int j, h =>
    simp only [dDiv] at h
    split at h
    · rename_i hc
      cases h; rw [px.int, py.int]; exact ⟨hc, hq _ _ (Post.dt (.int _))⟩
    · cases h
theorem p_mod : P2 K rModD dMod := by
  intro ps H x y d d' e Q ht px py h hq
  match d, d', h with
  | .int i, .int j, h =>
    simp only [dMod] at h
    split at h
    · rename_i hc
      cases h; rw [px.int, py.int]; exact ⟨hc, hq _ _ (Post.dt (.int _))⟩
    · cases h
theorem p_pow : P2 K rPowD dPow := by
  intro ps H x y d d' e Q ht px py h hq
  match d, d', h with
  | .int i, .int j, h =>
    simp only [dPow] at h
    split at h
    · rename_i hc
      cases h; rw [px.int, py.int]; exact ⟨⟨hc.1, by omega, by omega⟩, hq _ _ (Post.dt (.int _))⟩
    · cases h
theorem p_neg : P1 K rNeg dNeg := by
  intro ps H x d e Q ht px h hq
  match d, h with
  | .int i, h => cases h; rw [px.int]; exact ⟨i, rfl, hq _ _ (Post.dt (.int _))⟩
theorem p_lt : P2 K rLtD dLt := by
  intro ps H x y d d' e Q ht px py h hq
  match d, d', h with
  | .int i, .int j, h => cases h; rw [px.int, py.int]; exact hq _ _ (Post.dt (.bl _))
  | .str i, .str j, h => cases h; rw [px.str, py.str]; exact hq _ _ (Post.dt (.bl _))
theorem p_le : P2 K rLeD dLe := by
  intro ps H x y d d' e Q ht px py h hq
  match d, d', h with
  | .int i, .int j, h => cases h; rw [px.int, py.int]; exact hq _ _ (Post.dt (.bl _))
  | .str i, .str j, h => cases h; rw [px.str, py.str]; exact hq _ _ (Post.dt (.bl _))
theorem p_gt : P2 K rGtD dGt := by
  intro ps H x y d d' e Q ht px py h hq
  match d, d', h with
  | .int i, .int j, h => cases h; rw [px.int, py.int]; exact hq _ _ (Post.dt (.bl _))
  | .str i, .str j, h => cases h; rw [px.str, py.str]; exact hq _ _ (Post.dt (.bl _))
theorem p_ge : P2 K rGeD dGe := by
  intro ps H x y d d' e Q ht px py h hq
  match d, d', h with
  | .int i, .int j, h => cases h; rw [px.int, py.int]; exact hq _ _ (Post.dt (.bl _))
  | .str i, .str j, h => cases h; rw [px.str, py.str]; exact hq _ _ (Post.dt (.bl _))
theorem eq_ok {ps : Addr → Prop} {H : Hp} {x y : V} {d d' : D} {b : Bool} (px : Peek K ps H x d) (py : Peek K ps H y d') (h : eqD d d' = some b) : (scal x y = true ∧ decide (x = y) = b) ∨ ∃ e e', Dp K H x e ∧ Dp K H y e' ∧ SeqAt.shaped e = true ∧ SeqAt.shaped e' = true ∧ PyData.eqv e e' = b := by
  unfold eqD at h
  split at h
  · cases h; rw [px.int, py.int]; exact .inl ⟨rfl, by simp⟩
  · cases h; rw [px.str, py.str]; exact .inl ⟨rfl, by simp⟩
  · cases h; rw [px.bl, py.bl]; exact .inl ⟨rfl, by simp⟩
  · cases h; rw [px.non, py.non]; exact .inl ⟨rfl, by simp⟩
  · split at h
    · rename_i hc
      cases h
      exact .inr ⟨_, _, px.dp hc.1, py.dp hc.2.1, hc.2.2.1, hc.2.2.2, rfl⟩
    · cases h
theorem p_eq : P2 K (rEqX K) dEq := by
  intro ps H x y d d' e Q ht px py h hq
  unfold dEq at h
  cases hb : eqD d d' with
  | none => rw [hb] at h; cases h
  | some b =>
    rw [hb] at h; cases h
    rcases eq_ok px py hb with ⟨h1, h2⟩ | ⟨e, e', h1, h2, h3, h4, h5⟩
    · exact .inl ⟨h1, by rw [h2]; exact hq _ _ (Post.dt (.bl _))⟩
    · exact .inr ⟨e, e', h1, h2, h3, h4, by rw [h5]; exact hq _ _ (Post.dt (.bl _))⟩
theorem p_ne : P2 K (rNeX K) dNe := by
  intro ps H x y d d' e Q ht px py h hq
  unfold dNe at h
  cases hb : eqD d d' with
  | none => rw [hb] at h; cases h
  | some b =>
    rw [hb] at h; cases h
    rcases eq_ok px py hb with ⟨h1, h2⟩ | ⟨e, e', h1, h2, h3, h4, h5⟩
    · exact .inl ⟨h1, by rw [h2]; exact hq _ _ (Post.dt (.bl _))⟩
    · exact .inr ⟨e, e', h1, h2, h3, h4, by rw [h5]; exact hq _ _ (Post.dt (.bl _))⟩
theorem peek_non (p : Peek K ps H v d) (h1 : ∀ c, d ≠ .cst c) : v = .non ↔ d = .non := by
  constructor
  · rintro rfl
    obtain ⟨S, o, _⟩ := p
    cases o with
    | fz h _ => cases h with
      | non => rfl
      | cst => exact absurd rfl (h1 _)
  · rintro rfl
    exact p.non
theorem p_is : P2 K rIsD dIs := by
  intro ps H x y d d' e Q ht px py h hq
  have hy : d' = .non := by
    cases d' <;> first | rfl | (unfold dIs at h; cases d <;> cases h)
  subst hy
  refine ⟨py.non, ?_⟩
  have hc : ∀ c, d ≠ .cst c := fun c z => by subst z; cases h
  have := peek_non px hc
  cases d <;> first | (cases h; rw [decide_eq_true (this.mpr rfl)]; exact hq _ _ (Post.dt (.bl _))) | (cases h; rw [decide_eq_false (fun z => by have := this.mp z; cases this)]; exact hq _ _ (Post.dt (.bl _))) | cases h
theorem p_isnot : P2 K rIsnotD dIsNot := by
  intro ps H x y d d' e Q ht px py h hq
  have hy : d' = .non := by
    cases d' <;> first | rfl | (unfold dIsNot at h; cases d <;> cases h)
  subst hy
  refine ⟨py.non, ?_⟩
  have hc : ∀ c, d ≠ .cst c := fun c z => by subst z; cases h
  have := peek_non px hc
  cases d <;> first | (cases h; rw [decide_eq_true (this.mpr rfl)]; exact hq _ _ (Post.dt (.bl _))) | (cases h; rw [decide_eq_false (fun z => by have := this.mp z; cases this)]; exact hq _ _ (Post.dt (.bl _))) | cases h
theorem in_ok {ps : Addr → Prop} {H : Hp} {x y : V} {d d' : D} {b : Bool} (px : Peek K ps H x d) (py : Peek K ps H y d') (h : inD d d' = some b) : (∃ p xs, y = .ref p ∧ (SqL K H p xs ∨ SqT K H p xs) ∧ flatV x = true ∧ xs.all flatV = true ∧ inV x xs = b) ∨ (∃ (c : Nat) (z : Str), x = .str ⟨#[c]⟩ ∧ y = .str z ∧ decide (c ∈ z.cps.toList) = b) ∨ ∃ a o, y = .ref a ∧ DGet H a x o ∧ o.isSome = b := by
  have dk : ∀ {ks : List Key} {ds : List D}, dctD d' = some (ks, ds) → (match keyD d with | some k => some (hasK ks k) | none => none) = some b → ∃ a o, y = .ref a ∧ DGet H a x o ∧ o.isSome = b := by
    intro ks ds e h
    split at h
    · rename_i k hk
      obtain ⟨a, xs, rfl, h1, h2, h3⟩ := py.dk e
      refine ⟨a, _, rfl, .inl ⟨_, k, h1, px.key hk, rfl⟩, ?_⟩
      rcases findD_ok (ks := ks) (k := k) h3 h2 with ⟨e1, _, e3⟩ | ⟨v, d2, e1, _, _, e3⟩
      · rw [hasK_no e3] at h; rw [e1]; exact Option.some.inj h
      · rw [hasK_of e3] at h; rw [e1]; exact Option.some.inj h
    · cases h
  unfold inD at h
  split at h
  · rename_i z
    split at h
    · rename_i s
      split at h
      · rename_i c hc
        cases h
        refine .inr (.inl ⟨c, z, ?_, py.str, rfl⟩)
        rw [px.str]
        obtain ⟨a⟩ := s
        congr 2
        apply Array.ext'
        simpa using hc
      · cases h
    · cases h
  · exact .inr (.inr (dk rfl h))
  · exact .inr (.inr (dk rfl h))
  · split at h
    · rename_i ds hds
      split at h
      · rename_i hc
        cases h
        obtain ⟨a, xs, rfl, hq, hA⟩ := py.seq hds
        obtain ⟨e1, e2⟩ := flat_dt hA hc.2
        obtain ⟨e3, e4⟩ := px.flat hc.1
        exact .inl ⟨a, xs, rfl, hq, e4, e2, by rw [e3, e1]⟩
      · cases h
    · cases h
theorem p_in : P2 K (rInD K) dIn := by
  intro ps H x y d d' e Q ht px py h hq
  unfold dIn at h
  cases hb : inD d d' with
  | none => rw [hb] at h; cases h
  | some b =>
    rw [hb] at h; cases h
    rcases in_ok px py hb with ⟨p, xs, h1, h2, h3, h4, h5⟩ | ⟨c, z, h1, h2, h3⟩ | ⟨a, o, h1, h2, h3⟩
    · exact .inl ⟨p, xs, h1, h2, h3, h4, by rw [if_neg Bool.false_ne_true, h5]; exact hq _ _ (Post.dt (.bl _))⟩
    · exact .inr (.inr ⟨c, z, h1, h2, by rw [h3]; exact hq _ _ (Post.dt (.bl _))⟩)
    · exact .inr (.inl ⟨a, o, h1, h2, by rw [h3]; exact hq _ _ (Post.dt (.bl _))⟩)
theorem p_notin : P2 K (rNotInD K) dNotIn := by
  intro ps H x y d d' e Q ht px py h hq
  unfold dNotIn at h
  cases hb : inD d d' with
  | none => rw [hb] at h; cases h
  | some b =>
    rw [hb] at h; cases h
    rcases in_ok px py hb with ⟨p, xs, h1, h2, h3, h4, h5⟩ | ⟨c, z, h1, h2, h3⟩ | ⟨a, o, h1, h2, h3⟩
    · exact .inl ⟨p, xs, h1, h2, h3, h4, by rw [if_pos rfl, h5]; exact hq _ _ (Post.dt (.bl _))⟩
    · exact .inr (.inr ⟨c, z, h1, h2, by rw [h3]; exact hq _ _ (Post.dt (.bl _))⟩)
    · exact .inr (.inl ⟨a, o, h1, h2, by rw [h3]; exact hq _ _ (Post.dt (.bl _))⟩)
theorem p_ix : P2 K (rIxD K) dIx := by
  intro ps H x y d d' e Q ht px py h hq
  have dk : ∀ {ks : List Key} {ds : List D}, dctD d = some (ks, ds) → (match keyD d' with | some k => findD ks ds k | none => none) = some e → rIxD K x y H Q := by
    intro ks ds e h
    split at h
    · rename_i k hk
      obtain ⟨a, xs, rfl, h1, h2, h3⟩ := px.dk e
      rcases findD_ok (ks := ks) (k := k) h3 h2 with ⟨e1, e2, _⟩ | ⟨v, d2, e1, e2, e4, _⟩
      · rw [e2] at h; cases h
      · rw [e2] at h; cases h
        exact .inr ⟨a, v, rfl, .inl ⟨_, k, h1, py.key hk, e1.symm⟩, hq _ _ (Post.dt e4)⟩
    · cases h
  unfold dIx at h
  split at h
  · rename_i z i
    split at h
    · rename_i hsz
      split at h
      · rename_i c hc
        cases h
        exact .inl (.inr (.inr ⟨z, i, c, px.str, py.int, by rw [sizeLine_eq]; exact hsz, hc, hq _ _ (Post.dt (.str _))⟩))
      · cases h
    · cases h
  · exact dk rfl h
  · exact dk rfl h
  · rename_i i _ _ _
    split at h
    · rename_i ds hds
      obtain ⟨a, xs, rfl, hs, hA⟩ := px.seq hds
      obtain ⟨v, hv, hd⟩ := atI_dt hA h
      rcases hs with hs | hs
      · exact .inl (.inl ⟨a, xs, i, v, rfl, py.int, hs, hv, hq _ _ (Post.dt hd)⟩)
      · exact .inl (.inr (.inl ⟨a, xs, i, v, rfl, py.int, hs, hv, hq _ _ (Post.dt hd)⟩))
    · cases h
  · cases h
theorem p_sl : PSl K (rSlX K) dSl := by
  intro ps H x d lo hi e Q ht px h hq
  unfold dSl at h
  split at h
  · split at h
    · rename_i z hsz
      cases h
      exact .inr (.inr ⟨z, px.str, by rw [sizeLine_eq]; exact hsz, hq _ _ (Post.dt (.str _))⟩)
    · cases h
  · rename_i ds
    cases h
    obtain ⟨a, xs, rfl, h1, hA⟩ := px.tup
    obtain ⟨S1, o1, _⟩ := px
    refine .inr (.inl ⟨a, xs, rfl, h1, fun hw => ?_, fun _ p hp => hq _ _ (Post.tup ht hp (cut_dt hA lo hi))⟩)
    have : cutD ds lo hi = ds := by
      unfold cutD
      rw [← hA.1, hw.1, hw.2, hA.1]
      simp
    rw [this] at hq
    exact hq _ _ (Post.dt (o1.dt rfl))
  · cases h; obtain ⟨a, xs, rfl, h1, hA⟩ := px.lst; exact .inl ⟨a, xs, rfl, SqL.of h1, fun p hp => hq _ _ (Post.lst hp (cut_dt hA lo hi))⟩
  · cases h; obtain ⟨a, xs, rfl, h1, hA⟩ := px.rol; exact .inl ⟨a, xs, rfl, h1, fun p hp => hq _ _ (Post.lst hp (cut_dt hA lo hi))⟩
  · cases h; obtain ⟨a, xs, rfl, h1, hA⟩ := px.mls; exact .inl ⟨a, xs, rfl, SqL.of h1, fun p hp => hq _ _ (Post.lst hp (cut_dt hA lo hi))⟩
  · cases h
theorem PeekA.one {xs : List V} {d : D} (h : PeekA K ps H xs [d]) : ∃ x, xs = [x] ∧ Peek K ps H x d := by
  cases h with
  | cons h1 h2 => cases h2; exact ⟨_, rfl, h1⟩
theorem PeekA.two {xs : List V} {d e : D} (h : PeekA K ps H xs [d, e]) : ∃ x y, xs = [x, y] ∧ Peek K ps H x d ∧ Peek K ps H y e := by
  cases h with
  | cons h1 h2 =>
    obtain ⟨y, rfl, h3⟩ := h2.one
    exact ⟨_, _, rfl, h1, h3⟩
theorem p_len : PN K (rLenD K) dLen := by
  intro ps H xs ds e Q ht p h hq
  unfold dLen at h
  split at h
  · split at h
    · rename_i z hsz
      cases h
      obtain ⟨x, rfl, px⟩ := p.one
      rw [px.str]
      exact .inl ⟨_, z.length, rfl, ⟨by rw [sizeLine_eq]; exact hsz, rfl⟩, fun _ => hq _ _ (Post.dt (.int _))⟩
    · cases h
  · cases h
    obtain ⟨x, rfl, px⟩ := p.one
    obtain ⟨a, xs, rfl, h1, h2, h3⟩ := px.mdc
    refine .inr ⟨a, _, rfl, h1, ?_⟩
    rw [List.length_zip, h3.1, ← h2, Nat.min_self]
    exact hq _ _ (Post.dt (.int _))
  · split at h
    · rename_i ds' hds
      cases h
      obtain ⟨x, rfl, px⟩ := p.one
      obtain ⟨a, xs, rfl, hs, hA⟩ := px.seq hds
      have e := hA.1
      rcases hs with hs | hs
      · exact .inl ⟨_, ds'.length, rfl, .inl ⟨xs, hs, e.symm⟩, fun _ => hq _ _ (Post.dt (.int _))⟩
      · exact .inl ⟨_, ds'.length, rfl, .inr ⟨xs, hs, e.symm⟩, fun _ => hq _ _ (Post.dt (.int _))⟩
    · cases h
  · cases h
theorem p_int : PN K rIntD dInt := by
  intro ps H xs ds e Q ht p h hq
  unfold dInt at h
  split at h
  · cases h
    obtain ⟨x, rfl, px⟩ := p.one
    rw [px.int]; exact hq _ _ (Post.dt (.int _))
  · cases h
    obtain ⟨x, rfl, px⟩ := p.one
    rw [px.bl]; exact hq _ _ (Post.dt (.int _))
  · split at h
    · rename_i hl
      split at h
      · rename_i n hn
        cases h
        obtain ⟨x, rfl, px⟩ := p.one
        rw [px.str]; exact ⟨n, hn, hl, hq _ _ (Post.dt (.int _))⟩
      · cases h
    · cases h
  · cases h
theorem p_list : PN K (rListD K) dList := by
  intro ps H xs ds e Q ht p h hq
  unfold dList at h
  split at h
  · split at h
    · rename_i hds
      cases h
      obtain ⟨x, rfl, px⟩ := p.one
      obtain ⟨a, xs, rfl, hs, hA⟩ := px.seq hds
      exact ⟨a, xs, rfl, hs, fun l hl => hq _ _ (Post.lst hl hA)⟩
    · cases h
  · cases h
theorem p_tuple : PN K (rTupleD K) dTuple := by
  intro ps H xs ds e Q ht p h hq
  unfold dTuple at h
  split at h
  · rename_i d
    split at h
    · rename_i hds
      cases h
      obtain ⟨x, rfl, px⟩ := p.one
      cases d <;> cases hds
      · obtain ⟨a, xs, rfl, hs, hA⟩ := px.tup
        obtain ⟨S1, o1, _⟩ := px
        exact ⟨a, xs, rfl, .inr ⟨hs, hq _ _ (Post.dt (o1.dt rfl))⟩⟩
      · obtain ⟨a, xs, rfl, hs, hA⟩ := px.lst
        exact ⟨a, xs, rfl, .inl ⟨SqL.of hs, fun l hl => hq _ _ (Post.tup ht hl hA)⟩⟩
      · obtain ⟨a, xs, rfl, hs, hA⟩ := px.rol
        exact ⟨a, xs, rfl, .inl ⟨hs, fun l hl => hq _ _ (Post.tup ht hl hA)⟩⟩
      · obtain ⟨a, xs, rfl, hs, hA⟩ := px.mls
        exact ⟨a, xs, rfl, .inl ⟨SqL.of hs, fun l hl => hq _ _ (Post.tup ht hl hA)⟩⟩
    · cases h
  · cases h
theorem p_str : PN K rStrD dStr := by
  intro ps H xs ds e Q ht p h hq
  unfold dStr at h
  split at h
  · split at h
    · rename_i hc
      cases h
      obtain ⟨x, rfl, px⟩ := p.one
      rw [px.int]; exact ⟨hc, hq _ _ (Post.dt (.str _))⟩
    · cases h
  · cases h
theorem p_min : PN K (rMinD K) dMin := by
  intro ps H xs ds e Q ht p h hq
  unfold dMin at h
  split at h
  · cases h
    obtain ⟨x, y, rfl, px, py⟩ := p.two
    rw [px.int, py.int]; exact hq _ _ (Post.dt (.int _))
  · cases h
theorem p_max : PN K (rMaxD K) dMax := by
  intro ps H xs ds e Q ht p h hq
  unfold dMax at h
  split at h
  · cases h
    obtain ⟨x, y, rfl, px, py⟩ := p.two
    rw [px.int, py.int]; exact hq _ _ (Post.dt (.int _))
  · cases h
theorem Peek.ty {t : String} (p : Peek K ps H v d) (h : tyD d = some t) : TyX K H v (.type t) := by
  cases d with
  | non => cases h; rw [p.non]; exact .base .non
  | bl b => cases h; rw [p.bl]; exact .base (.bl b)
  | int b => cases h; rw [p.int]; exact .base (.int b)
  | str b => cases h; rw [p.str]; exact .base (.str b)
  | lst ds => cases h; obtain ⟨a, xs, rfl, h1, _⟩ := p.lst; exact .base (.lst h1)
  | mls ds => cases h; obtain ⟨a, xs, rfl, h1, _⟩ := p.mls; exact .base (.lst h1)
  | tup ds =>
    cases h
    obtain ⟨S, o, _⟩ := p
    obtain ⟨a, xs, rfl, h1, _⟩ := (o.dt rfl).inv_tup
    rcases h1 with ⟨h1, _⟩ | ⟨o, its, n, h1, h2, _⟩
    · exact .base (.tup h1)
    · exact .kTuple h1 h2
  | _ => cases h
theorem p_isi : PN K (rIsi K) dIsi := by
  intro ps H xs ds e Q ht p h hq
  unfold dIsi at h
  split at h
  · rename_i d U
    split at h
    · rename_i t htd
      split at h
      · rename_i b hb
        cases h
        obtain ⟨x, y, rfl, px, py⟩ := p.two
        rw [py.cst]
        exact ⟨x, .ty U, .type t, .type U, b, rfl, .ty U, px.ty htd, kit_ty hb, hq _ _ (Post.dt (.bl _))⟩
      · cases h
    · cases h
  · cases h
theorem p_all : PN K (rAll K) dAll := by
  intro ps H xs ds e Q ht p h hq
  unfold dAll at h
  split at h
  · split at h
    · rename_i ds' hds
      split at h
      · rename_i hb
        cases h
        obtain ⟨x, rfl, px⟩ := p.one
        obtain ⟨a, xs, rfl, hs, hA⟩ := px.ls hds
        rw [bls_dt hA hb] at hs
        refine ⟨a, _, rfl, hs, ?_⟩
        have : (ds'.map unBl).all id = ds'.all unBl := by rw [List.all_map]; rfl
        rw [this]
        exact hq _ _ (Post.dt (.bl _))
      · cases h
    · cases h
  · cases h
theorem p_any : PN K (rAny K) dAny := by
  intro ps H xs ds e Q ht p h hq
  unfold dAny at h
  split at h
  · split at h
    · rename_i ds' hds
      split at h
      · rename_i hb
        cases h
        obtain ⟨x, rfl, px⟩ := p.one
        obtain ⟨a, xs, rfl, hs, hA⟩ := px.ls hds
        rw [bls_dt hA hb] at hs
        refine ⟨a, _, rfl, hs, ?_⟩
        have : (ds'.map unBl).any id = ds'.any unBl := by rw [List.any_map]; rfl
        rw [this]
        exact hq _ _ (Post.dt (.bl _))
      · cases h
    · cases h
  · cases h
theorem p_sum : PN K (rSum K) dSum := by
  intro ps H xs ds e Q ht p h hq
  unfold dSum at h
  split at h
  · split at h
    · rename_i ds' hds
      split at h
      · rename_i hb
        cases h
        obtain ⟨x, rfl, px⟩ := p.one
        obtain ⟨a, xs, rfl, hs, hA⟩ := px.ls hds
        rw [ints_dt hA hb] at hs
        exact ⟨a, _, rfl, hs, hq _ _ (Post.dt (.int _))⟩
      · cases h
    · cases h
  · cases h
theorem p_ipadd : P2 K (ipI fun i j => i + j) (fun x y => match x, y with | .int i, .int j => some (.int (i + j)) | _, _ => none) := by
  intro ps H x y d d' e Q ht px py h hq
  match d, d', h with
  | .int i, .int j, h => cases h; rw [px.int, py.int]; exact ⟨i, j, rfl, rfl, hq _ _ (Post.dt (.int _))⟩
theorem p_ipsub : P2 K (ipI fun i j => i - j) dSub := by
  intro ps H x y d d' e Q ht px py h hq
  match d, d', h with
  | .int i, .int j, h => cases h; rw [px.int, py.int]; exact ⟨i, j, rfl, rfl, hq _ _ (Post.dt (.int _))⟩
end
end Q


namespace Q
open PySem L2
section
variable {X : Cx} {CX : CXT} {k : Nat} {f : Addr} {fd : FuncData} {ps : List Str} {sp : Sp} {E : St → XK} {x : Str} {p pos : Pos}
theorem pe_callS0 (F : FnOk X.prog X.w X.K X.mg X.base CX k f fd ps sp) (hr : Room k X.A) (hg : Gl X x) (hm : X.mg x = some (.ref f)) (hk : PySem.W.keepIn X.K (.ref f) = true) (hb : Binds X.K fd ps []) (hx : ∀ σ, PassesAt CX X σ (E σ))
    (hdb : (x == ("__debug__" : Str)) = false := by decide) : PE X (.Call (.Name x p) [] [] pos) (tCallS sp E tNil) := by
  refine ⟨fun pins s σ H Q I h => ?_⟩
  refine wpAny_Call_Name_kw (ld_glob I hg hm ?_ hdb)
  exact PySem.W.callWith_K0 I.kIn hk (run_fnS (us := []) F hr hb (hx σ) I .nil h)
end
theorem spM_len {K : KC} {np nl : Nat} {asg : List Nat} {body : MS} (vs : List V) (H : Hp) (Q : VK) (E : XK) (h : spM K (mFun np nl asg body) vs H Q E) : vs.length = np := by
  obtain ⟨B, ds, r, _, hl, hm, _⟩ := h
  unfold mFun at hm
  split at hm
  · rename_i hc; omega
  · cases hm
/-- the law, asked -/
theorem spM_law {K : KC} {mf : MF} {H : Hp} {a : Addr} {ns : List Int} (hS : SqL K H a (ns.map V.int)) (h : ∃ ds', mf [.rol (ns.map D.int)] = some (.ok (.bl true) ds')) : spM K mf [.ref a] H (fun v _ => v = .bl true) fun _ _ _ => False := by
  obtain ⟨ds', h⟩ := h
  have hR : RolAt K (fun _ => False) H a (ns.map V.int) := by
    rcases hS with hS | hS
    · exact .inl ⟨hS, id⟩
    · exact .inr hS
  have hD : Dt K (fun _ => False) H (.ref a) (.rol (ns.map D.int)) := .rol hR (by simp) (DtA.ints ns).2
  refine ⟨⟨fun _ => False, H, fun _ => False⟩, _, _, rfl, rfl, h, ⟨fun _ _ => False, .refl, fun a h => h.elim, fun i a h => h.elim, fun i a h => h.elim, fun i j a h => h.elim, rfl, ⟨fun _ _ => rfl, rfl⟩, fun i d e => ?_, fun j v d e => by simp at e, fun p hp => (nomatch hp), trivial⟩, fun v H' _ R => (tmp_bl (ts := []) R).1⟩
  cases i with
  | zero =>
    simp at e
    subst e
    exact ⟨_, rfl, .fz (hD.move .refl fun a z => by rcases z with z | ⟨_, z⟩ <;> exact z.elim) fun _ z => z⟩
  | succ i => simp at e
theorem cx_none {P : Program} {w : World} {H : Hp} {s : Shared} {e : Value} {s' : Shared} (h : L2N.CX P w [] H s (fun _ _ _ => False) e s') : False := by
  obtain ⟨_, _, _, _, _, _, _, _, _, _, _, _, z⟩ := h
  exact z
def wFuel : Nat := 1000000
def dIpAdd (x y : D) : Option D := match x, y with | .int i, .int j => some (.int (i + j)) | _, _ => none
theorem p_ipadd2 {K : KC} : P2 K (ipI fun i j => i + j) dIpAdd := p_ipadd
theorem fn_stuck {P : Program} {w : World} {K : KC} {mg : Str → Option Value} {base : Heap} {CX : CXT} {k : Nat} {f : Addr} {fd : FuncData} {ps : List Str} : FnOk P w K mg base CX k f fd ps (spM K fun _ => none) :=
  ⟨fun vs H Q E h => (by obtain ⟨_, _, _, _, _, hm, _⟩ := h; cases hm), fun A outer s H args us vs Q E _ _ _ _ h => (by obtain ⟨_, _, _, _, _, hm, _⟩ := h; cases hm)⟩
/-- whatever classes there are -/
def spE (K : PySem.W.Frag) (mf : MF) : Sp := fun vs H Q E => (∃ x, vs = [x]) ∧ ∀ cv, spM ⟨K, cv⟩ mf vs H Q E
theorem spE_of {P : Program} {w : World} {K : PySem.W.Frag} {cv : Nat → Value} {mg : Str → Option Value} {base : Heap} {CX : CXT} {k : Nat} {f : Addr} {fd : FuncData} {ps : List Str} {mf : MF} (F : FnOk P w K mg base CX k f fd ps (spM ⟨K, cv⟩ mf)) : FnOk P w K mg base CX k f fd ps (spE K mf) :=
  F.imp fun vs H Q E h => h.2 cv
theorem spE_law {K : PySem.W.Frag} {mf : MF} {H : Hp} {a : Addr} {ns : List Int} (hS : SqL K H a (ns.map V.int)) (h : ∃ ds', mf [.rol (ns.map D.int)] = some (.ok (.bl true) ds')) : spE K mf [.ref a] H (fun v _ => v = .bl true) fun _ _ _ => False :=
  ⟨⟨_, rfl⟩, fun cv => spM_law hS h⟩
/-- a text by its codes -/
def st (l : List Nat) : Str := ⟨l.toArray⟩
theorem se_cs {C : Cn} {s t : Str} (h : s = t) : SE C (tC (.str s)) (mC (.str t)) := h ▸ se_c (.str s)
end Q


namespace Q
open PySem L2
/-! ### raise -/
theorem Post.xdt {K : KC} {ps : Addr → Prop} {H : Hp} {p : Addr} {xs : List V} {ds : List D} {fs : List Str} (ht : ∀ a, ps a → H a ≠ none) (hp : H p = none) (hl : fs.length = ds.length) (h : DtA K ps H xs ds) : Post K ps H (upd H p (.xd (fs.zip xs))) (.ref p) (.xdt fs ds) := by
  have h' := h.move (qs := fun a => ps a ∨ False) (.new (o := .xd (fs.zip xs)) hp) fun a z => .inl (z.resolve_right id)
  exact ⟨.new hp, fun _ => False, fun _ h => h.elim, .fz (.xdt upd_same (fun z => ht p (z.resolve_right id) hp) hl h'.1 h'.2) fun _ h => h⟩
theorem zip_back : ∀ {fs : List Str} {vs : List V}, fs.length = vs.length → (fs.zip vs).reverse = fs.reverse.zip vs.reverse := fun h => by
  rw [List.zip_eq_zipWith, List.zip_eq_zipWith, List.reverse_zipWith h]
def tRaise (Ca : Addr) (fs : List Str) (ta : TA) (W : WX) : TS := fun _ σ H => tErr Ca fs ta σ H fun cls d H' => W cls d σ H'
def mRaise (c : Nat) (fs : List Str) (a : MA) : MS := fun e => bnd (a e) fun xs e1 => match tkfA xs e1 with
  | some (ys, e2) => if ys.length = fs.length then some (.ex ⟨c, fs.reverse, ys.reverse⟩ e2) else none
  | none => none
theorem DtA.rev {K : KC} {ps : Addr → Prop} {H : Hp} {xs : List V} {ds : List D} (h : DtA K ps H xs ds) : DtA K ps H xs.reverse ds.reverse := ⟨by simp [h.1], fun i x d e1 e2 => by
  have hl := h.1
  have hi : i < xs.length := by have := (List.getElem?_eq_some_iff.mp e1).1; simpa using this
  rw [List.getElem?_reverse hi] at e1
  rw [List.getElem?_reverse (by omega), ← hl] at e2
  exact h.2 _ x d e1 e2⟩
section
variable {C : Cn} {te ta tb tc : TE} {ma mb mc : ME} {tt tu : TT} {mt mu : MT} {tr : TA} {mr : MA} {t u : TS} {ms mv : MS}
theorem ss_raise {c : Nat} {Ca : Addr} {fs : List Str} (hc : C.K.cv c = .ref Ca) (ha : SA C tr mr) : SS C (tRaise Ca fs tr C.W) (mRaise c fs mr) := by
  intro B σ0 σ H env ts R ht z hm E hE
  rcases bnd_inv hm with ⟨x, e, h1, rfl⟩ | ⟨x, e1, h1, h2⟩
  · exact ha B σ0 σ H env ts R _ h1 _ (hE σ)
  · refine ha B σ0 σ H env ts R _ h1 _ fun vs H1 hl ⟨S, g⟩ => ?_
    split at h2
    · rename_i ys e2 h3
      split at h2
      · rename_i hfs
        cases h2
        obtain ⟨S1, g1, hl1, hf⟩ := g.takenA hl h3
        have hA := g1.dtA hl1 hf
        refine ⟨by rw [hl1]; exact hfs, fun d hd => ?_⟩
        have pp := Post.xdt (K := C.K) (ps := pset B S1) (H := H1) (p := d) (xs := vs.reverse) (fs := fs.reverse) (ds := ys.reverse) (fun a z => g1.ptrk z) hd (by simp [hfs]) hA.rev
        rw [zip_back (by rw [hl1]; exact hfs.symm)]
        obtain ⟨S2, g2⟩ := g1.prim pp
        refine hE σ _ _ _ ⟨S2, g2.pop, hc.symm, .inr ⟨d, rfl, ?_⟩⟩
        rcases g2.tmp ts.length (.ref d) (.xdt fs.reverse ys.reverse) (by simp) with ⟨k, e, _⟩ | h
        · cases e
        · exact h.dt rfl
      · cases h2
    · cases h2
/-- a statement that is never reached -/
def mStuck : MS := fun _ => none
def tStuck : TS := fun _ _ _ => False
theorem ss_stuck : SS C tStuck mStuck := by
  intro B σ0 σ H env ts R ht z hm E hE
  cases hm
/-! ### try -/
def mTry (sub : Nat → Option Bool) (i : Nat) (b : MS) (su : Xc → MS) : MS := fun e => match b e with
  | some (.ex x e1) => (match sub x.cls with
    | some true => if x.fs.isEmpty = true ∨ e1.length ≤ i then none else (match su x (e1.set i none) with
      | some (.ok f e2) => some (.ok f (e2.set i none))
      | _ => none)
    | some false => some (.ex x e1)
    | none => none)
  | r => r
def Cn.wish (C : Cn) (W : WX) : Cn := ⟨C.K, W, C.A, C.held, C.fx⟩
theorem Good.wish {B : Bs} {σ0 σ : St} {H : Hp} {env : Env} {ts : List (V × D)} {S : Ix → Addr → Prop} {W : WX} (g : Good C B σ0 H σ env ts S) : Good (C.wish W) B σ0 H σ env ts S := ⟨g.kp, g.fr, g.sub, g.trk, g.dis, g.len, g.keep, g.slot, g.tmp, g.hld, g.fx⟩
theorem Good.unwish {B : Bs} {σ0 σ : St} {H : Hp} {env : Env} {ts : List (V × D)} {S : Ix → Addr → Prop} {W : WX} (g : Good (C.wish W) B σ0 H σ env ts S) : Good C B σ0 H σ env ts S := ⟨g.kp, g.fr, g.sub, g.trk, g.dis, g.len, g.keep, g.slot, g.tmp, g.hld, g.fx⟩
/-- the suite of an except clause: slot i has the error at a, its dict is at dd -/
def suC (C : Cn) (i : Nat) (a dd : Addr) (x : Xc) : Cn := ⟨C.K, fun _ _ _ _ => False, fun j => C.A j && decide (j ≠ i), (.ref dd, .xdt x.fs x.ds) :: C.held, fun σ0 => σ0[i]? = some (some (.ref a))⟩
theorem Good.suite {B : Bs} {σ0 σ : St} {H : Hp} {env : Env} {ts : List (V × D)} {S : Ix → Addr → Prop} {i : Nat} {a dd : Addr} {x : Xc} (g : Good C B σ0 H σ env ts S) (ht : NoAl ts) (hi : i < env.length) (hx : Dt C.K (pset B S) H (.ref dd) (.xdt x.fs x.ds)) :
    Good (suC C i a dd x) B (σ.set i (some (.ref a))) H (σ.set i (some (.ref a))) (env.set i none) ts S := by
  refine ⟨g.kp, g.fr, g.sub, g.trk, g.dis, by simp [g.len], ⟨fun _ _ => rfl, rfl⟩, fun j d e => ?_, fun j v d e => ?_, fun p hp => ?_, ?_⟩
  · have hj : j ≠ i := fun z => by
      subst z
      rw [List.getElem?_set_self hi] at e
      cases e
    rw [List.getElem?_set_ne (Ne.symm hj)] at e
    obtain ⟨v, h1, h2⟩ := g.slot j d e
    exact ⟨v, by rw [List.getElem?_set_ne (Ne.symm hj)]; exact h1, h2⟩
  · have hn := ht _ (List.mem_of_getElem? e)
    rcases g.tmp j v d e with ⟨k, rfl, _⟩ | h
    · cases hn
    · exact .inr h
  · rcases List.mem_cons.mp hp with rfl | hp
    · exact hx
    · exact g.hld p hp
  · show (σ.set i (some (.ref a)))[i]? = some (some (.ref a))
    rw [List.getElem?_set_self (by rw [g.len]; exact hi)]
theorem Good.unsuite {B : Bs} {σ0 σ1 σ : St} {H H1 : Hp} {env env1 : Env} {ts ts1 : List (V × D)} {S S1 : Ix → Addr → Prop} {i : Nat} {a dd : Addr} {x : Xc} (g : Good C B σ0 H σ env ts S) (hA : C.A i = true) (ht : NoAl ts1)
    (g1 : Good (suC C i a dd x) B (σ.set i (some (.ref a))) H1 σ1 env1 ts1 S1) : Good C B σ0 H1 (σ1.set i none) (env1.set i none) ts1 S1 := by
  refine ⟨g1.kp, g1.fr, g1.sub, g1.trk, g1.dis, by simp [g1.len], ⟨fun j hj => ?_, ?_⟩, fun j d e => ?_, fun j v d e => ?_, fun p hp => g1.hld p (List.mem_cons_of_mem _ hp), g.fx⟩
  · have hji : j ≠ i := fun z => by subst z; rw [hA] at hj; cases hj
    rw [List.getElem?_set_ne (Ne.symm hji), g1.keep.1 j (by simp [suC, hj]), List.getElem?_set_ne (Ne.symm hji)]
    exact g.keep.1 j hj
  · have := g1.keep.2
    rw [List.length_set] at this ⊢
    rw [this]; exact g.keep.2
  · have hj : j ≠ i := fun z => by
      subst z
      have hl : j < env1.length := by
        have := (List.getElem?_eq_some_iff.mp e).1
        simpa using this
      rw [List.getElem?_set_self hl] at e
      cases e
    rw [List.getElem?_set_ne (Ne.symm hj)] at e
    obtain ⟨v, h1, h2⟩ := g1.slot j d e
    exact ⟨v, by rw [List.getElem?_set_ne (Ne.symm hj)]; exact h1, h2⟩
  · have hn := ht _ (List.mem_of_getElem? e)
    rcases g1.tmp j v d e with ⟨k, rfl, _⟩ | h
    · cases hn
    · exact .inr h
def tTry (K : PySem.W.Frag) (c : Value) (i : Nat) (ts : Addr → Value → Option Addr → TS) (tb : WX → TS) (W : WX) : TS := fun D σ H => tb (wAs K c i ts W D) D σ H
theorem ss_try {i : Nat} {c : Value} {tb : WX → TS} {ts : Addr → Value → Option Addr → TS} {sub : Nat → Option Bool} {su : Xc → MS} {mb : MS} (hA : C.A i = true) (hsub : ∀ n b, sub n = some b → PySem.W.exmOne C.K (C.K.cv n) c = some b)
    (hb : ∀ W, SS (C.wish W) (tb W) mb) (hs : ∀ a dd x, SS (suC C i a dd x) (ts a (C.K.cv x.cls) (some dd)) (su x)) : SS C (tTry C.K c i ts tb C.W) (mTry sub i mb su) := by
  rintro B σ0 σ H env ts0 ⟨S0, g0⟩ ht z hm E hE
  show tb (wAs C.K c i ts C.W E) E σ H
  have R1 : Rep (C.wish (wAs C.K c i ts C.W E)) B σ0 H σ env ts0 := ⟨S0, g0.wish⟩
  unfold mTry at hm
  split at hm
  · rename_i x e1 hbx
    refine hb _ B σ0 σ H env ts0 R1 ht _ hbx E ?_
    rintro σ' c' o H' ⟨S, g, hc', ho⟩
    have g := g.unwish
    subst hc'
    split at hm
    · rename_i hsu
      split at hm
      · cases hm
      · rename_i hc
        have hc1 : ¬ x.fs.isEmpty = true := fun h => hc (.inl h)
        have hc2 : i < e1.length := Nat.lt_of_not_le fun h => hc (.inr h)
        split at hm
        · rename_i f e2 hz
          cases hm
          have hdd : ∃ dd, o = some dd ∧ Dt C.K (pset B S) H' (.ref dd) (.xdt x.fs x.ds) := by
            rcases ho with ⟨_, h⟩ | h
            · rw [h] at hc1; exact absurd rfl hc1
            · exact h
          obtain ⟨dd, rfl, hdt⟩ := hdd
          refine ⟨true, hsub _ _ hsu, fun _ a ha => ?_, (fun z => by cases z)⟩
          refine hs a dd x B _ _ H' _ ts0 ⟨S, g.suite (a := a) ht hc2 hdt⟩ ht _ hz _ ?_
          cases f with
          | nx => exact fun σ2 H2 ⟨S2, g2⟩ => hE _ _ ⟨S2, g.unsuite hA ht g2⟩
          | bk => exact fun σ2 H2 ⟨S2, g2⟩ => hE _ _ ⟨S2, g.unsuite hA ht g2⟩
          | ct => exact fun σ2 H2 ⟨S2, g2⟩ => hE _ _ ⟨S2, g.unsuite hA ht g2⟩
          | rt d => exact fun v σ2 H2 hd ⟨S2, g2⟩ => hE v _ H2 hd ⟨S2, g.unsuite hA (ht.snoc hd) g2⟩
        · cases hm
    · rename_i hsu
      cases hm
      exact ⟨false, hsub _ _ hsu, (fun z => by cases z), fun _ => hE σ' _ o H' ⟨S, g, rfl, ho⟩⟩
    · cases hm
  · rename_i r hne
    cases z with
    | ex x e => exact absurd hm (by intro h; exact hne x e h)
    | ok f e =>
      refine hb _ B σ0 σ H env ts0 R1 ht _ hm E ?_
      cases f with
      | nx => exact fun σ2 H2 ⟨S2, g2⟩ => hE _ _ ⟨S2, g2.unwish⟩
      | bk => exact fun σ2 H2 ⟨S2, g2⟩ => hE _ _ ⟨S2, g2.unwish⟩
      | ct => exact fun σ2 H2 ⟨S2, g2⟩ => hE _ _ ⟨S2, g2.unwish⟩
      | rt d => exact fun v σ2 H2 hd ⟨S2, g2⟩ => hE v _ H2 hd ⟨S2, g2.unwish⟩

/-! ### what a suite asks of its error -/
/-- e.f -/
def tXfE (K : PySem.W.Frag) (a : Addr) (cls : Value) (d : Option Addr) (f : Str) (te : TE) : TE := fun σ H Q => ∃ Ca, XfC K Ca ∧ PySem.W.findIn K (.ref Ca) f = some none ∧ tXf a cls d Ca f te σ H Q
theorem pe_xfE {X : Cx} {a : Addr} {oe : Obj} {cls : Value} {d : Option Addr} {pn : List (Addr × Obj)} {e : Expr} {te : TE} {pos : Pos} {n : Str} (hz : L2N.Zn cls d oe) (hf : ∃ vs, oe.data = .fields vs) (he : PE (X.suite a ((a, oe) :: pn)) e te)
    (hb : attributeBase e n X.env (eval e X.env) = eval e X.env := by rfl) : PE (X.suite a ((a, oe) :: pn)) (.Attribute e n pos) (tXfE X.K a cls d n te) :=
  ⟨fun pins s σ H Q I ⟨_, T, hno, h⟩ => (pe_xf T hno hz.zc hf he hb).run pins s σ H Q I h⟩
def mXf (cs : List Nat) (f : Str) (x : Xc) : ME := fun e => if cs.contains x.cls = true then (match findD x.fs x.ds f with | some d => some (.ok d e) | none => none) else none
theorem lookup_zip {K : KC} {ps : Addr → Prop} {H : Hp} : ∀ {ks : List Str} {xs : List V} {ds : List D} {k : Str} {d : D}, DtA K ps H xs ds → ks.length = ds.length → findD ks ds k = some d → ∃ v, (ks.zip xs).lookup k = some v ∧ Dt K ps H v d
  | [], xs, ds, k, d, hA, hl, h => by cases h
  | q :: ks, [], [], k, d, hA, hl, h => by simp at hl
  | q :: ks, [], y :: ds, k, d, hA, hl, h => by have := hA.1; simp at this
  | q :: ks, x :: xs, [], k, d, hA, hl, h => by simp at hl
  | q :: ks, x :: xs, y :: ds, k, d, hA, hl, h => by
    rw [List.zip_cons_cons, lookup_put]
    simp only [findD] at h
    by_cases e : q = k
    · rw [if_pos e] at h; cases h
      exact ⟨x, by rw [if_pos e.symm], hA.2 0 x _ rfl rfl⟩
    · rw [if_neg e] at h
      rw [if_neg (Ne.symm e)]
      exact lookup_zip ⟨by simpa using hA.1, fun i y f e1 e2 => hA.2 (i + 1) y f (by simpa using e1) (by simpa using e2)⟩ (by simpa using hl) h
theorem Good.fix {B : Bs} {σ0 σ : St} {H : Hp} {env : Env} {ts : List (V × D)} {S : Ix → Addr → Prop} {i : Nat} {a dd : Addr} {x : Xc} (g : Good (suC C i a dd x) B σ0 H σ env ts S) : σ[i]? = some (some (.ref a)) := by
  rw [g.keep.1 i (by simp [suC])]
  exact g.fx
theorem se_xf {i : Nat} {a dd : Addr} {x : Xc} {f : Str} {cs : List Nat} (hcs : ∀ n, cs.contains n = true → ∃ Ca, C.K.cv n = .ref Ca ∧ XfC C.K Ca ∧ PySem.W.findIn C.K (.ref Ca) f = some none) :
    SE (suC C i a dd x) (tXfE C.K a (C.K.cv x.cls) (some dd) f (tVar i)) (mXf cs f x) := by
  rintro B σ0 σ H env ts ⟨S, g⟩ r hm Q hq
  unfold mXf at hm
  split at hm
  · rename_i hc
    split at hm
    · rename_i d hd
      cases hm
      obtain ⟨Ca, h1, h2, h3⟩ := hcs _ hc
      have hx : Dt C.K (pset B S) H (.ref dd) (.xdt x.fs x.ds) := g.hld (.ref dd, .xdt x.fs x.ds) List.mem_cons_self
      obtain ⟨b, xs, eb, e1, e2, hA⟩ := hx.inv_xdt
      cases eb
      obtain ⟨v, hv, hdt⟩ := lookup_zip hA e2 hd
      exact ⟨Ca, h2, h3, .ref a, g.fix, rfl, h1, dd, _, v, rfl, e1, hv, hq v H (Good.prim (ts1 := []) (by rw [List.append_nil]; exact g) (Post.dt hdt))⟩
    · cases hm
  · cases hm
/-- isinstance(e, c) -/
def rIsX (K : PySem.W.Frag) (a : Addr) (cls : Value) (d : Option Addr) : List V → Hp → VK → Prop := fun xs H Q => ∃ (Ca dd : Addr) (fs : List (Str × V)) (c : V) (cv : Value) (b : Bool), ExcC K Ca ∧ cls = .ref Ca ∧ d = some dd ∧ H dd = some (.xd fs) ∧ xs = [.ref a, c] ∧ (∀ u, RelV c u → u = cv) ∧ PySem.W.kitOne K (.ref Ca) cv = some b ∧ Q (.bl b) H
theorem call_isX {X : Cx} {a : Addr} {cls : Value} {d : Option Addr} {oe : Obj} {pn : List (Addr × Obj)} (hz : L2N.Zn cls d oe) (hf : ∃ vs, oe.data = .fields vs) : CallR (X.suite a ((a, oe) :: pn)) (.builtin "isinstance") (rIsX X.K a cls d) := by
  intro pins s σ H xs us Q I r h
  obtain ⟨Ca, dd, fs, c, cv, b, T, rfl, rfl, hdd, rfl, hcv, e, q⟩ := h
  cases r with
  | cons rx rr =>
    cases rr with
    | cons rt rr =>
      cases rr
      cases rx
      have ec := hcv _ rt
      subst ec
      obtain ⟨hget, _⟩ := I.pin (a, oe) (List.mem_append.mpr (.inl List.mem_cons_self))
      obtain ⟨vs, hv⟩ := hf
      have hx : ObjOk X.prog X.w H s.heap dd (.xd fs) := I.hok dd _ hdd
      obtain ⟨mA, hns, hr⟩ := hx
      obtain ⟨od, ho, hl⟩ := lookIn_ns hns
      have J : PySem.W.InstAt s.heap a oe Ca (some od) := ⟨hget, hz.1, by unfold PySem.W.notCls; rw [hv] <;> rfl, by rw [hz.2.1]; exact ho⟩
      have hcl : (PySem.W.clsIn X.K Ca).isSome = true := by
        obtain ⟨cd, hc, _⟩ := PySem.W.any_some T.hd
        rw [hc]; rfl
      exact PySem.W.kia_one (PySem.W.kitx_exc hcl T.hg T.hk T.hs T.ha T.hn T.ht T.hm) I.kIn J e (fun z => nomatch z) fun tk => ⟨.bl b, H, I.kept (t' := tk) fun _ _ z => z, rfl, q⟩
def mIsX (tab : Nat → Option Bool) (x : Xc) : ME := fun e => match tab x.cls with | some b => some (.ok (.bl b) e) | none => none
theorem se_isX {i : Nat} {a dd : Addr} {x : Xc} {c : V} {cv : Value} {tab : Nat → Option Bool} (hcv : ∀ u, RelV c u → u = cv) (htab : ∀ n b, tab n = some b → ∃ Ca, C.K.cv n = .ref Ca ∧ ExcC C.K Ca ∧ PySem.W.kitOne C.K (.ref Ca) cv = some b) :
    SE (suC C i a dd x) (tCB (rIsX C.K a (C.K.cv x.cls) (some dd)) (tCons (tVar i) (tCons (tC c) tNil))) (mIsX tab x) := by
  rintro B σ0 σ H env ts ⟨S, g⟩ r hm Q hq
  unfold mIsX at hm
  split at hm
  · rename_i b hb
    cases hm
    obtain ⟨Ca, h1, h2, h3⟩ := htab _ _ hb
    have hx : Dt C.K (pset B S) H (.ref dd) (.xdt x.fs x.ds) := g.hld (.ref dd, .xdt x.fs x.ds) List.mem_cons_self
    obtain ⟨b', xs, eb, e1, e2, hA⟩ := hx.inv_xdt
    cases eb
    exact ⟨.ref a, g.fix, Ca, dd, _, c, cv, b, h2, h1, rfl, e1, rfl, hcv, h3, hq _ H (Good.prim (ts1 := []) (by rw [List.append_nil]; exact g) (Post.dt (.bl b)))⟩
  · cases hm
theorem relV_ref {a : Addr} : ∀ u, RelV (.ref a) u → u = Value.ref a := fun u h => h
theorem relV_ty {t : String} : ∀ u, RelV (.ty t) u → u = Value.type t := fun u h => h
end
end Q


namespace Q
open PySem L2
/-! ### written dicts -/
def EsOk (K : KC) : List DictEntry → List Str → List D → Prop
  | [], [], [] => True
  | e :: es, k :: ks, d :: ds => (∃ t, e.key = .str k t) ∧ (∃ v, RelV v e.val ∧ ∀ ps H, Dt K ps H v d) ∧ EsOk K es ks ds
  | _, _, _ => False
structure DicK (K : KC) (w : World) (a : Addr) (ks : List Str) (ds : List D) : Prop where
  ex : ∃ es n, KDict K.F w a es n ∧ EsOk K es.toList ks ds
theorem es_find {K : KC} {z : Str} : ∀ {es : List DictEntry} {ks : List Str} {ds : List D}, EsOk K es ks ds →
    es.any (·.refKey) = false ∧ ((findD ks ds z = none ∧ z ∉ ks ∧ es.find? (·.key.isStr z) = none) ∨ ∃ d e v, findD ks ds z = some d ∧ z ∈ ks ∧ es.find? (·.key.isStr z) = some e ∧ RelV v e.val ∧ ∀ ps H, Dt K ps H v d)
  | [], [], [], h => ⟨rfl, .inl ⟨rfl, by simp, rfl⟩⟩
  | [], [], _ :: _, h => h.elim
  | [], _ :: _, ds, h => h.elim
  | _ :: _, [], ds, h => h.elim
  | _ :: _, _ :: _, [], h => h.elim
  | e :: es, k :: ks, d :: ds, ⟨⟨t, hk⟩, ⟨v, hr, hd⟩, h⟩ => by
    obtain ⟨h1, h2⟩ := es_find (z := z) h
    have hek : e.refKey = false := by unfold DictEntry.refKey; rw [hk]
    refine ⟨by simp [hek, h1], ?_⟩
    have hs : e.key.isStr z = (k == z) := by rw [hk]; rfl
    by_cases c : k = z
    · refine .inr ⟨d, e, v, by simp only [findD, if_pos c], by simp [c], ?_, hr, hd⟩
      rw [List.find?_cons, hs, beq_iff_eq.mpr c]
    · have hb : (k == z) = false := by simpa using c
      simp only [findD, if_neg c, List.find?_cons, hs, hb]
      rcases h2 with ⟨a, b, c'⟩ | ⟨d', e', v', a, b, c', r⟩
      · exact .inl ⟨a, by simp [b, Ne.symm c], c'⟩
      · exact .inr ⟨d', e', v', a, by simp [b], c', r⟩
theorem DicK.ns {K : KC} {w : World} {a : Addr} {ks : List Str} {ds : List D} (h : DicK K w a ks ds) (z : Str) : (findD ks ds z = none ∧ z ∉ ks ∧ PySem.W.nsIn K.F a z = some none) ∨ ∃ d u v, findD ks ds z = some d ∧ z ∈ ks ∧ PySem.W.nsIn K.F a z = some (some u) ∧ RelV v u ∧ ∀ ps H, Dt K ps H v d := by
  obtain ⟨es, n, hd, he⟩ := h.ex
  obtain ⟨h1, h2⟩ := es_find (z := z) he
  unfold PySem.W.nsIn
  rw [hd.at_]
  rcases h2 with ⟨a, b, c⟩ | ⟨d', e', v', a, b, c, r1, r2⟩
  · refine .inl ⟨a, b, ?_⟩
    simp only [c, h1]; rfl
  · refine .inr ⟨d', e'.val, v', a, b, ?_, r1, r2⟩
    simp only [c]
def rKIn (K : PySem.W.Frag) (a : Addr) : R2 := fun x y H Q => ∃ (z : Str) (r : Option Value), x = .str z ∧ y = .ref a ∧ PySem.W.nsIn K a z = some r ∧ Q (.bl r.isSome) H
def rKNot (K : PySem.W.Frag) (a : Addr) : R2 := fun x y H Q => ∃ (z : Str) (r : Option Value), x = .str z ∧ y = .ref a ∧ PySem.W.nsIn K a z = some r ∧ Q (.bl (!r.isSome)) H
def rKIx (K : PySem.W.Frag) (a : Addr) : R2 := fun x y H Q => ∃ (z : Str) (u0 : Value) (v0 : V), x = .ref a ∧ y = .str z ∧ PySem.W.nsIn K a z = some (some u0) ∧ RelV v0 u0 ∧ Q v0 H
section
variable {X : Cx} {cv : Nat → Value} {a : Addr} {ks : List Str} {ds : List D}
theorem op_inK (h : DicK ⟨X.K, cv⟩ X.w a ks ds) : OpR X (compareOp .In) (rKIn X.K a) := by
  obtain ⟨es, n, hd, _⟩ := h.ex
  exact op_in_kd hd
theorem op_notInK (h : DicK ⟨X.K, cv⟩ X.w a ks ds) : OpR X (compareOp .NotIn) (rKNot X.K a) := by
  obtain ⟨es, n, hd, _⟩ := h.ex
  exact op_notIn_kd hd
theorem ix_K (h : DicK ⟨X.K, cv⟩ X.w a ks ds) : IxR X (rKIx X.K a) := by
  obtain ⟨es, n, hd, _⟩ := h.ex
  intro value slice pins s σ H x y v u Q I rx ry h hs
  have ex : x = .ref a := by obtain ⟨z, u0, v0, e, _⟩ := h; exact e
  subst ex
  obtain rfl : v = Value.ref a := rx
  exact PyProof.Rows.tail_any (kd_type hd I) PySem.F.slot_dict_getitem.lookup (op_item_kd hd pins s σ H (.ref a) y _ u Q I rfl ry h) hs
end
def dKIn (ks : List Str) : D → Option D | .str z => some (.bl (hasK ks z)) | _ => none
def dKNot (ks : List Str) : D → Option D | .str z => some (.bl (!hasK ks z)) | _ => none
def dKIx (ks : List Str) (ds : List D) : D → Option D | .str z => findD ks ds z | _ => none
section
variable {C : Cn} {te ta tb tc : TE} {ma mb mc : ME} {tt tu : TT} {mt mu : MT} {tr : TA} {mr : MA} {t u : TS} {ms mv : MS} {w : World} {a : Addr} {ks : List Str} {ds : List D}
theorem p_kin (h : DicK C.K w a ks ds) : P1 C.K (fun x H Q => rKIn C.K a x (.ref a) H Q) (dKIn ks) := by
  intro ps H x d e Q ht px hf hq
  unfold dKIn at hf
  split at hf
  · rename_i z
    cases hf
    rcases h.ns z with ⟨_, h1, h2⟩ | ⟨d, u, v, _, h1, h2, _⟩
    · rw [hasK_no h1] at hq
      exact ⟨z, none, px.str, rfl, h2, hq _ _ (Post.dt (.bl _))⟩
    · rw [hasK_of h1] at hq
      exact ⟨z, some u, px.str, rfl, h2, hq _ _ (Post.dt (.bl _))⟩
  · cases hf
theorem p_knot (h : DicK C.K w a ks ds) : P1 C.K (fun x H Q => rKNot C.K a x (.ref a) H Q) (dKNot ks) := by
  intro ps H x d e Q ht px hf hq
  unfold dKNot at hf
  split at hf
  · rename_i z
    cases hf
    rcases h.ns z with ⟨_, h1, h2⟩ | ⟨d, u, v, _, h1, h2, _⟩
    · rw [hasK_no h1] at hq
      exact ⟨z, none, px.str, rfl, h2, hq _ _ (Post.dt (.bl _))⟩
    · rw [hasK_of h1] at hq
      exact ⟨z, some u, px.str, rfl, h2, hq _ _ (Post.dt (.bl _))⟩
  · cases hf
theorem p_kix (h : DicK C.K w a ks ds) : P1 C.K (fun x H Q => rKIx C.K a (.ref a) x H Q) (dKIx ks ds) := by
  intro ps H x d e Q ht px hf hq
  unfold dKIx at hf
  split at hf
  · rename_i z
    rcases h.ns z with ⟨h0, h1, h2⟩ | ⟨d, u, v, h0, h1, h2, h3, h4⟩
    · rw [h0] at hf; cases hf
    · rw [h0] at hf; cases hf
      exact ⟨z, u, v, rfl, px.str, h2, h3, hq _ _ (Post.dt (h4 _ _))⟩
  · cases hf
theorem se_kin (h : DicK C.K w a ks ds) (ha : SE C ta ma) : SE C (tOp (rKIn C.K a) ta (tC (.ref a))) (mUn (dKIn ks) ma) := se_un (p_kin h) ha
theorem se_knot (h : DicK C.K w a ks ds) (ha : SE C ta ma) : SE C (tOp (rKNot C.K a) ta (tC (.ref a))) (mUn (dKNot ks) ma) := se_un (p_knot h) ha
theorem se_kix (h : DicK C.K w a ks ds) (ha : SE C ta ma) : SE C (tOp (rKIx C.K a) (tC (.ref a)) ta) (mUn (dKIx ks ds) ma) := se_un (p_kix h) ha
/-! ### text methods without arguments -/
theorem se_m0 {r : V → List V → Hp → VK → Prop} {f : D → Option D} (p : P1 C.K (fun x H Q => (∃ a, x = .str a) ∧ r x [] H Q) f) (ha : SE C ta ma) : SE C (tM0 r ta) (mUn f ma) := se_un p ha
def rUpS : V → List V → Hp → VK → Prop := fun x xs H Q => ∃ a, x = .str a ∧ xs = [] ∧ a.length ≤ 5592405 ∧ Q (.str (Txt.upper a)) H
def dUpper : D → Option D | .str z => if z.length ≤ 5592405 then some (.str (Txt.upper z)) else none | _ => none
theorem p_upper {K : KC} : P1 K (fun x H Q => (∃ a, x = .str a) ∧ rUpS x [] H Q) dUpper := by
  intro ps H x d e Q ht px hf hq
  unfold dUpper at hf
  split at hf
  · rename_i z
    split at hf
    · rename_i hz
      cases hf
      exact ⟨⟨z, px.str⟩, z, px.str, rfl, hz, hq _ _ (Post.dt (.str _))⟩
    · cases hf
  · cases hf
/-! ### dict displays -/
def nodupK {κ : Type} [DecidableEq κ] : List κ → Bool
  | [] => true
  | k :: ks => !hasK ks k && nodupK ks
def mDisp (ks : List Key) (a : MA) : ME := fun e => bnd (a e) fun xs e1 => match tkfA xs e1 with
  | some (ys, e2) => if ks.length = ys.length ∧ ks.length ≤ 15 ∧ nodupK ks = true then some (.ok (.mdc ks ys) e2) else none
  | none => none
def POk (C : Cn) (B : Bs) (σ0 σ : St) (ts : List (V × D)) (ks : List Key) (R : List (V × V) → Hp → Prop) : Rs (List D) → Prop
  | .ok ds e => ∀ vs H', vs.length = ds.length → Rep C B σ0 H' σ e (ts ++ vs.zip ds) → R ((ks.zip vs).map fun p => (kV p.1, p.2)) H'
  | .ex x e => XW C B σ0 σ ts x e
def SPs (C : Cn) (trs : List (TE × TE)) (ks : List Key) (m : MA) : Prop := ∀ B σ0 σ H env ts, Rep C B σ0 H σ env ts → ∀ r, m env = some r → ∀ R, POk C B σ0 σ ts ks R r → tPairs trs σ H R
theorem sp_nil : SPs C [] [] mNil := by
  intro B σ0 σ H env ts R z hm Q hq
  cases hm
  exact hq [] H rfl (by simpa using R)
theorem sp_cons {trs : List (TE × TE)} {qs : List Key} {k : Key} {x : V} (hx : x = kV k) (ha : SE C ta ma) (hb : SPs C trs qs mr) : SPs C ((tC x, ta) :: trs) (k :: qs) (mCons ma mr) := by
  subst hx
  intro B σ0 σ H env ts R z hm Q hq
  show ta σ H fun y H2 => tPairs trs σ H2 fun ps H3 => Q ((kV k, y) :: ps) H3
  rcases bnd_inv hm with ⟨x, e, h1, rfl⟩ | ⟨x, e1, h1, h2⟩
  · exact ha B σ0 σ H env ts R _ h1 _ hq
  · refine ha B σ0 σ H env ts R _ h1 _ fun v H1 R1 => ?_
    rcases bnd_inv h2 with ⟨x2, e, h3, rfl⟩ | ⟨ys, e2, h3, h4⟩
    · exact hb B σ0 σ H1 e1 _ R1 _ h3 _ (XW.push hq)
    · refine hb B σ0 σ H1 e1 _ R1 _ h3 _ fun vs H2 hl R2 => ?_
      cases h4
      exact hq (v :: vs) H2 (by simp [hl]) (by simpa using R2)
theorem merge_nodup : ∀ {qs : List Key} {vs : List V} {acc : List (Key × V)}, nodupK qs = true → (∀ k ∈ qs, k ∉ acc.map (·.1)) → mergeK acc (qs.zip vs) = acc ++ qs.zip vs
  | [], vs, acc, _, _ => by simp [mergeK]
  | k :: qs, [], acc, _, _ => by simp [mergeK]
  | k :: qs, v :: vs, acc, hn, ha => by
    simp only [nodupK, Bool.and_eq_true, Bool.not_eq_true'] at hn
    have hk : ∀ q ∈ qs, q ≠ k := fun q hq e => by
      have := hasK_of (e ▸ hq); rw [hn.1] at this; cases this
    have e1 : putK acc k v = acc ++ [(k, v)] := by
      unfold putK
      rw [if_neg]
      intro h
      obtain ⟨p, h1, h2⟩ := List.any_eq_true.mp h
      exact ha k (by simp) (List.mem_map.mpr ⟨p, h1, of_decide_eq_true h2⟩)
    show mergeK (putK acc k v) (qs.zip vs) = acc ++ (k, v) :: qs.zip vs
    rw [e1, merge_nodup hn.2 fun q hq => ?_]
    · simp
    · simp only [List.map_append, List.map_cons, List.map_nil, List.mem_append, List.mem_singleton, not_or]
      exact ⟨ha q (by simp [hq]), hk q hq⟩
theorem Post.mdc0 {K : KC} {ps : Addr → Prop} {H : Hp} {p : Addr} (hp : H p = none) : Post K ps H (upd H p (.dK [])) (.ref p) (.mdc [] []) :=
  ⟨.new hp, fun a => a = p, fun a e => by subst e; exact ⟨hp, by rw [upd_same]; simp⟩, .mdc (xs := []) upd_same rfl .nil fun _ => Iff.rfl⟩
theorem se_disp {trs : List (TE × TE)} {qs : List Key} (ha : SPs C trs qs mr) : SE C (tDisp trs) (mDisp qs mr) := by
  rintro B σ0 σ H env ts ⟨S, g⟩ z hm Q hq p hp
  have R1 : Rep C B σ0 (upd H p (.dK [])) σ env (ts ++ [(.ref p, .mdc [] [])]) := Good.prim (ts1 := []) (by rw [List.append_nil]; exact g) (Post.mdc0 hp)
  rcases bnd_inv hm with ⟨x, e, h1, rfl⟩ | ⟨x, e1, h1, h2⟩
  · exact ha B σ0 σ _ env _ R1 _ h1 _ (XW.push hq)
  · refine ha B σ0 σ _ env _ R1 _ h1 _ fun vs H2 hl ⟨S2, g2⟩ => ?_
    split at h2
    · rename_i ys e2 h3
      split at h2
      · rename_i hc
        obtain ⟨hc1, hc2, hc3⟩ := hc
        cases h2
        obtain ⟨S3, g3, hl3, hf⟩ := g2.takenA hl h3
        have hA := g3.dtA hl3 hf
        have ho : Ow C.K (pset B S3) H2 (.ref p) (.mdc [] []) (S3 (.inr ts.length)) := by
          rcases g3.tmp ts.length (.ref p) (.mdc [] []) (by simp) with ⟨k, e, _⟩ | h
          · cases e
          · exact h
        cases ho with
        | fz h _ => cases h
        | @mdc a' ks' xs' ds' S' hp' hk' hA' hS' =>
          refine ⟨hp', qs.zip vs, rfl, by rw [List.length_zip]; omega, ?_⟩
          rw [merge_nodup hc3 (by simp), List.nil_append]
          have hcell : S3 (.inr ts.length) p := (hS' p).mpr rfl
          have g4 := g3.push (H1 := upd H2 p (.dK (qs.zip vs))) (v := .ref p) (d := .mdc qs ys) ts.length (by simp) (S3 (.inr ts.length)) (.mut hcell) (fun a z => ⟨.inl z, by rw [(hS' a).mp z, upd_same]; simp⟩)
            (.mdc upd_same hc1 (hA.move (.mut (.inr ⟨_, hcell⟩)) fun a z => ?_) hS')
          · have et : List.take ts.length (ts ++ [(V.ref p, D.mdc [] [])] ++ vs.zip ys) = ts := by
              rw [List.append_assoc, List.take_left]
            exact hq _ _ ⟨_, et ▸ g4⟩
          · rcases z with z | ⟨i, ⟨rfl, z⟩ | ⟨_, z⟩⟩
            · exact .inl (.inl z)
            · exact .inl (.inr ⟨_, z⟩)
            · exact .inl (.inr ⟨_, z⟩)
      · cases h2
    · cases h2
end
end Q


namespace Q
open PySem L2
/-! ### where an error is handled -/
theorem hotC_suite {X : Cx} {a : Addr} {oe : Obj} {cls : Value} {d : Option Addr} {pn : List (Addr × Obj)} (hz : L2N.Zn cls d oe) (hf : ∃ vs, oe.data = .fields vs) : L2H.HotC (X.suite a ((a, oe) :: pn)) := by
  obtain ⟨vs, h⟩ := hf
  exact ⟨(a, oe), ⟨rfl, vs, h, hz.2.2 vs h⟩, List.mem_cons_self⟩
theorem hotC_def {CX : CXT} {P : Program} {w : World} {K : PySem.W.Frag} {mg : Str → Option Value} {base : Heap} {N : List Str} {qual : Str} {scope : Scope} {f : Addr} {cd : Value} {A : Around} {outer : List PySem.Env} {s : Shared} {H : Hp} {E : XK} {p : Addr × Obj} (hot : L2H.Hot1 A p) :
    L2H.HotC (L2H.cxH CX P w K mg base N qual scope f cd A outer s H E p) := ⟨p, hot, by simp [L2H.cxH]⟩
theorem unitsH {k : Nat} {A : Around} (r : L2H.RoomH k A) : A.units + 64 < cLine := by have := r.un; omega
theorem fnH_stuck {P : Program} {w : World} {K : KC} {mg : Str → Option Value} {base : Heap} {CX : CXT} {k : Nat} {f : Addr} {fd : FuncData} {ps : List Str} : L2H.FnH P w K mg base CX k f fd ps (spM K fun _ => none) :=
  ⟨fun vs H Q E h => (by obtain ⟨_, _, _, _, _, hm, _⟩ := h; cases hm), fun A outer s H args us vs Q E p _ _ _ _ _ _ h => (by obtain ⟨_, _, _, _, _, hm, _⟩ := h; cases hm)⟩
section
variable {X : Cx} {CX : CXT} {k : Nat} {f : Addr} {fd : FuncData} {ps : List Str} {sp : Sp} {E : St → XK} {x : Str} {p pos : Pos}
theorem pe_callH0 (F : L2H.FnH X.prog X.w X.K X.mg X.base CX k f fd ps sp) (hr : L2H.RoomH k X.A) (hc : L2H.HotC X) (hg : Gl X x) (hm : X.mg x = some (.ref f)) (hk : PySem.W.keepIn X.K (.ref f) = true) (hb : Binds X.K fd ps []) (hx : ∀ σ, PassesAt CX X σ (E σ))
    (hdb : (x == ("__debug__" : Str)) = false := by decide) : PE X (.Call (.Name x p) [] [] pos) (tCallS sp E tNil) := by
  refine ⟨fun pins s σ H Q I h => ?_⟩
  refine wpAny_Call_Name_kw (ld_glob I hg hm ?_ hdb)
  exact PySem.W.callWith_K0 I.kIn hk (L2H.run_fnH (us := []) F hr hc hb (hx σ) I .nil h)
end
theorem ps_stuck {X : Cx} {st : Stmt} : PS X st tStuck := ⟨fun pins s σ H D I h => h.elim⟩
/-! ### an error's class -/
structure ErrA (K : PySem.W.Frag) (C fI : Addr) : Prop where
  T : OexC K C
  xf : XfC K C
  ex : ExcC K C
  iC : PySem.W.findIn K (.ref C) "__init__" = some (some (.ref fI))
  tI : PySem.W.typeIn K (.ref fI) = some (.type "function")
theorem kt_of {K : PySem.W.Frag} {C : Addr} {c : Value} {b : Bool} (h : PySem.W.kitOne K (.ref C) c = some b) : PySem.W.kitOne K (.ref C) c = some b := h
/-! ### written tuples -/
def ItOk (K : KC) : List Value → List D → Prop
  | [], [] => True
  | u :: us, d :: ds => (∃ v, RelV v u ∧ ∀ ps H, Dt K ps H v d) ∧ ItOk K us ds
  | _, _ => False
theorem it_str {K : KC} {s s' : Str} {t : Tok} (h : s = s') : ∃ v, RelV v (Value.str s t) ∧ ∀ ps H, Dt K ps H v (.str s') := ⟨.str s, ⟨t, rfl⟩, fun _ _ => h ▸ .str s⟩
theorem it_int {K : KC} {i : Int} {t : Tok} : ∃ v, RelV v (Value.int i t) ∧ ∀ ps H, Dt K ps H v (.int i) := ⟨.int i, ⟨t, rfl⟩, fun _ _ => .int i⟩
theorem it_bool {K : KC} {b : Bool} : ∃ v, RelV v (Value.bool b) ∧ ∀ ps H, Dt K ps H v (.bl b) := ⟨.bl b, rfl, fun _ _ => .bl b⟩
theorem it_none {K : KC} : ∃ v, RelV v Value.none ∧ ∀ ps H, Dt K ps H v .non := ⟨.non, rfl, fun _ _ => .non⟩
theorem it_ref {K : KC} {a : Addr} {d : D} (h : ∀ ps H, Dt K ps H (.ref a) d) : ∃ v, RelV v (Value.ref a) ∧ ∀ ps H, Dt K ps H v d := ⟨.ref a, rfl, h⟩
theorem it_vals {K : KC} : ∀ {us : List Value} {ds : List D}, ItOk K us ds → ∃ xs : List V, Vals xs us ∧ ∀ ps H, DtA K ps H xs ds
  | [], [], _ => ⟨[], .nil, fun _ _ => .nil⟩
  | [], _ :: _, h => h.elim
  | _ :: _, [], h => h.elim
  | u :: us, d :: ds, ⟨⟨v, h1, h2⟩, h⟩ => by
    obtain ⟨xs, h3, h4⟩ := it_vals h
    exact ⟨v :: xs, .cons h1 h3, fun ps H => .cons (h2 ps H) (h4 ps H)⟩
theorem k_tup {K : KC} {a : Addr} {od : Option Addr} {its : Array Value} {n : Nat} {sl : Array (Option Value)} {ds : List D} (hl : K.F.lookup a = some ⟨.type "tuple", od, .seq its n, sl⟩) (h : ItOk K its.toList ds) (hz : its.size ≤ sizeLine) (ps : Addr → Prop) (H : Hp) : Dt K ps H (.ref a) (.tup ds) := by
  obtain ⟨xs, h1, h2⟩ := it_vals h
  exact .tup (.inr ⟨_, its, n, hl, rfl, rfl, hz, h1⟩) (h2 ps H).1 (h2 ps H).2
end Q
namespace Q
open PySem L2
theorem ss_raises {C : Cn} {tr : TA} {mr : MA} {c : Nat} {Ca : Addr} {fs fs' : List Str} (h : fs = fs') (hc : C.K.cv c = .ref Ca) (ha : SA C tr mr) : SS C (tRaise Ca fs tr C.W) (mRaise c fs' mr) := h ▸ ss_raise hc ha
theorem se_xfs {C : Cn} {i : Nat} {a dd : Addr} {x : Xc} {f f' : Str} {cs : List Nat} (h : f = f') (hcs : ∀ n, cs.contains n = true → ∃ Ca, C.K.cv n = .ref Ca ∧ XfC C.K Ca ∧ PySem.W.findIn C.K (.ref Ca) f = some none) :
    SE (suC C i a dd x) (tXfE C.K a (C.K.cv x.cls) (some dd) f (tVar i)) (mXf cs f' x) := h ▸ se_xf hcs
/-- a statement of a class's body -/
def clsS (s : Stmt) (j : Nat) : Stmt := match s with
  | .ClassDef _ _ _ body .. => body.getD j (.Pass ⟨0, 0, 0, 0⟩)
  | _ => .Pass ⟨0, 0, 0, 0⟩
end Q
namespace Q
open PySem L2
section
variable {X : Cx} {x n : Str} {c : Value} {i : Nat} {body suite : List Stmt} {b₀ : Stmt} {np pos pos' : Pos} {tb : WX → TS} {ts : Addr → Value → Option Addr → TS} {Wout : WX}
theorem ps_tryE (hs : X.stack = X.env :: X.outer) (hf : X.env.frame = some X.env.locals) (hN : X.N.Nodup) (hi : X.N[i]? = some n) (hln : X.env.kindOf n = some .local) (hc : Names X x c) (tk : L2N.Takes X Wout)
    (hb : ∀ (W : WX) (pn : List (Addr × Obj)) (xe : Value → Shared → Prop), L2N.Takes (X.tr pn xe) W → PassesOwn (model X.prog X.w) X.A X.env xe → PSs (X.tr pn xe) body (tb W))
    (hsu : ∀ (a : Addr) (oe : Obj) (cls : Value) (d : Option Addr) (pn : List (Addr × Obj)), L2N.Zn cls d oe → (∃ vs, oe.data = .fields vs) → PSs (X.suite a ((a, oe) :: pn)) (b₀ :: suite) (ts a cls d)) :
    PS X (.Try body [.ExceptHandler (some (.Name x np)) (some n) (b₀ :: suite) pos'] [] [] pos) (tTry X.K c i ts tb Wout) := L2N.ps_try_as hs hf hN hi hln hc tk hb hsu
end
end Q
namespace Q
open PySem L2
theorem kf_by {names : List (Str × NameKind)} (h : names.all (fun p => decide (p.1 = "__class__") || (decide (p.2 ≠ .cell) && decide (p.2 ≠ .free))) = true) : ∀ x : Str, (names.lookup x = some .cell ∨ names.lookup x = some .free) → x = "__class__" := by
  intro x hx
  have key : ∀ {l : List (Str × NameKind)} {k : NameKind}, l.lookup x = some k → ∃ p ∈ l, p.1 = x ∧ p.2 = k := by
    intro l
    induction l with
    | nil => intro k h; cases h
    | cons p l ih =>
      intro k h
      rw [List.lookup_cons] at h
      cases e : (x == p.1) with
      | true =>
        rw [e] at h
        exact ⟨p, by simp, (beq_iff_eq.mp e).symm, Option.some.inj h⟩
      | false =>
        rw [e] at h
        obtain ⟨q, h1, h2⟩ := ih h
        exact ⟨q, List.mem_cons_of_mem _ h1, h2⟩
  rcases hx with hx | hx <;>
  · obtain ⟨p, h1, h2, h3⟩ := key hx
    have := List.all_eq_true.mp h p h1
    rw [h3] at this
    simp at this
    exact h2 ▸ this
end Q


namespace Q
open PySem L2
theorem nr {α : Sort _} {a b : α} (h : a = b) : a = b := h
/-! ### reckoning the mirrors -/
def kSeq (r : Option (Rs Fl)) (b : MS) : Option (Rs Fl) := bnd r fun f e1 => match f with
  | .nx => b e1
  | f => some (.ok f e1)
theorem ev_seq (a b : MS) (e : Env) : mSeq a b e = kSeq (a e) b := nr rfl
theorem kSeq_nx (b : MS) (e : Env) : kSeq (some (.ok .nx e)) b = b e := nr rfl
theorem kSeq_rt (d : D) (b : MS) (e : Env) : kSeq (some (.ok (.rt d) e)) b = some (.ok (.rt d) e) := nr rfl
theorem kSeq_bk (b : MS) (e : Env) : kSeq (some (.ok .bk e)) b = some (.ok .bk e) := nr rfl
theorem kSeq_ct (b : MS) (e : Env) : kSeq (some (.ok .ct e)) b = some (.ok .ct e) := nr rfl
theorem kSeq_ex (x : Xc) (b : MS) (e : Env) : kSeq (some (.ex x e)) b = some (.ex x e) := nr rfl
def kAsg (r : Option (Rs D)) (g : MG) : Option (Rs Fl) := bnd r fun x e1 => match tk x e1 with
  | some (y, e2) => (match g y e2 with | some e3 => some (.ok .nx e3) | none => none)
  | none => none
def kAsg2 (r : Option (D × Env)) (g : MG) : Option (Rs Fl) := match r with
  | some (y, e2) => (match g y e2 with | some e3 => some (.ok .nx e3) | none => none)
  | none => none
def kAsg3 (r : Option Env) : Option (Rs Fl) := match r with | some e3 => some (.ok .nx e3) | none => none
theorem ev_asg (a : ME) (g : MG) (e : Env) : mAsg a g e = kAsg (a e) g := nr rfl
theorem kAsg_ok (x : D) (e : Env) (g : MG) : kAsg (some (.ok x e)) g = kAsg2 (tk x e) g := nr rfl
theorem kAsg_ex (x : Xc) (e : Env) (g : MG) : kAsg (some (.ex x e)) g = some (.ex x e) := nr rfl
theorem kAsg2_ok (y : D) (e : Env) (g : MG) : kAsg2 (some (y, e)) g = kAsg3 (g y e) := nr rfl
theorem kAsg3_ok (e : Env) : kAsg3 (some e) = some (.ok .nx e) := nr rfl
theorem ev_nm (n : Nat) (d : D) (e : Env) : gNm n d e = some (e.set n (some d)) := nr rfl
def kIx3 (r : Option Nat) (ds : List D) (n : Nat) (d : D) (e : Env) : Option Env := match r with
        | some k => if isFz d = true then some (e.set n (some (.mls (ds.set k d)))) else none
        | none => none
def kIx2 (r : Option (Option D)) (i : Int) (n : Nat) (d : D) (e : Env) : Option Env := match r with
      | some (some (.mls ds)) => kIx3 (ixN ds.length i) ds n d e
      | _ => none
def kIx (r : Option (Rs D)) (n : Nat) (d : D) : Option Env := match r with
    | some (.ok (.int i) e1) => kIx2 e1[n]? i n d e1
    | _ => none
def kIx0 (s : Option (Option D)) (r : Option (Rs D)) (n : Nat) (d : D) : Option Env := match s with
  | some (some _) => kIx r n d
  | _ => none
theorem ev_ixg (n : Nat) (a : ME) (d : D) (e : Env) : gIx n a d e = kIx0 e[n]? (a e) n d := nr rfl
theorem kIx0_ok (d0 : D) (r : Option (Rs D)) (n : Nat) (d : D) : kIx0 (some (some d0)) r n d = kIx r n d := nr rfl
theorem kIx_ok (i : Int) (e : Env) (n : Nat) (d : D) : kIx (some (.ok (.int i) e)) n d = kIx2 e[n]? i n d e := nr rfl
theorem kIx2_ok (ds : List D) (i : Int) (n : Nat) (d : D) (e : Env) : kIx2 (some (some (.mls ds))) i n d e = kIx3 (ixN ds.length i) ds n d e := nr rfl
theorem kIx3_ok {k : Nat} {ds : List D} {n : Nat} {d : D} {e : Env} (h : isFz d = true) : kIx3 (some k) ds n d e = some (e.set n (some (.mls (ds.set k d)))) := by
  unfold kIx3; simp only [h, if_true]
def kUnp (r : Option (List D)) (n : Nat) (m : MGs) (e : Env) : Option Env := match r with
  | some ds => if ds.length = n then m ds e else none
  | none => none
theorem ev_un (n : Nat) (m : MGs) (d : D) (e : Env) : gUn n m d e = kUnp (seqD d) n m e := nr rfl
theorem kUnp_ok (ds : List D) (n : Nat) (m : MGs) (e : Env) : kUnp (some ds) n m e = if ds.length = n then m ds e else none := nr rfl
def kGs (r : Option Env) (m : MGs) (ds : List D) : Option Env := match r with | some e1 => m ds e1 | none => none
theorem ev_gscons (g : MG) (r : MGs) (d : D) (ds : List D) (e : Env) : gsCons g r (d :: ds) e = kGs (g d e) r ds := nr rfl
theorem kGs_ok (e : Env) (m : MGs) (ds : List D) : kGs (some e) m ds = m ds e := nr rfl
theorem ev_gsnil (e : Env) : gsNil [] e = some e := nr rfl
theorem ev_next (e : Env) : mNext e = some (.ok .nx e) := nr rfl
theorem ev_break (e : Env) : mBreak e = some (.ok .bk e) := nr rfl
theorem ev_cont (e : Env) : mCont e = some (.ok .ct e) := nr rfl
theorem ev_retN (e : Env) : mRetN e = some (.ok (.rt .non) e) := nr rfl
def kDrop (r : Option (Rs D)) : Option (Rs Fl) := bnd r fun _ e1 => some (.ok .nx e1)
theorem ev_drop (a : ME) (e : Env) : mDrop a e = kDrop (a e) := nr rfl
theorem kDrop_ok (x : D) (e : Env) : kDrop (some (.ok x e)) = some (.ok .nx e) := nr rfl
theorem kDrop_ex (x : Xc) (e : Env) : kDrop (some (.ex x e)) = some (.ex x e) := nr rfl
def kIf {α : Type} (r : Option (Rs Bool)) (a b : M α) : Option (Rs α) := bnd r fun x e1 => if x = true then a e1 else b e1
theorem ev_if (c : MT) (a b : MS) (e : Env) : mIfS c a b e = kIf (c e) a b := nr rfl
theorem ev_ifE (c : MT) (a b : ME) (e : Env) : mIfE c a b e = kIf (c e) a b := nr rfl
theorem kIf_t {α : Type} (e : Env) (a b : M α) : kIf (some (.ok true e)) a b = a e := nr rfl
theorem kIf_f {α : Type} (e : Env) (a b : M α) : kIf (some (.ok false e)) a b = b e := nr rfl
theorem kIf_ex {α : Type} (x : Xc) (e : Env) (a b : M α) : kIf (some (.ex x e)) a b = some (.ex x e) := nr rfl
def kRet (r : Option (Rs D)) (np : Nat) : Option (Rs Fl) := bnd r fun x e1 => match out np x e1 with
  | some (y, e2) => some (.ok (.rt y) e2)
  | none => none
def kRet2 (r : Option (D × Env)) : Option (Rs Fl) := match r with
  | some (y, e2) => some (.ok (.rt y) e2)
  | none => none
theorem ev_ret (np : Nat) (a : ME) (e : Env) : mRet np a e = kRet (a e) np := nr rfl
theorem kRet_ok (x : D) (e : Env) (np : Nat) : kRet (some (.ok x e)) np = kRet2 (out np x e) := nr rfl
theorem kRet_ex (x : Xc) (e : Env) (np : Nat) : kRet (some (.ex x e)) np = some (.ex x e) := nr rfl
theorem kRet2_ok (x : D) (e : Env) : kRet2 (some (x, e)) = some (.ok (.rt x) e) := nr rfl
theorem ev_c (d : D) (e : Env) : mC d e = some (.ok d e) := nr rfl
def kVar (r : Option (Option D)) (i : Nat) (e : Env) : Option (Rs D) := match r with
  | some (some d) => if isFz d = true then some (.ok d e) else some (.ok (.al i) e)
  | _ => none
theorem ev_var (i : Nat) (e : Env) : mVar i e = kVar e[i]? i e := nr rfl
theorem kVar_fz {d : D} {i : Nat} {e : Env} (h : isFz d = true) : kVar (some (some d)) i e = some (.ok d e) := by
  unfold kVar; simp only [h, if_true]
theorem kVar_m (ds : List D) (i : Nat) (e : Env) : kVar (some (some (.mls ds))) i e = some (.ok (.al i) e) := nr rfl
def kJ (r : Option (Option D)) : Option D := match r with | some (some d) => some d | _ => none
theorem res_al (k : Nat) (e : Env) : res e (.al k) = kJ e[k]? := nr rfl
theorem kJ_ok (d : D) : kJ (some (some d)) = some d := nr rfl
def kUn (r : Option (Rs D)) (f : D → Option D) : Option (Rs D) := bnd r fun x e1 => ap1 f x e1
theorem ev_unr (f : D → Option D) (a : ME) (e : Env) : mUn f a e = kUn (a e) f := nr rfl
theorem kUn_ok (x : D) (e : Env) (f : D → Option D) : kUn (some (.ok x e)) f = ap1 f x e := nr rfl
def kOp (r : Option (Rs D)) (b : ME) (f : D → D → Option D) : Option (Rs D) := bnd r fun x e1 => bnd (b e1) fun y e2 => ap2 f x y e2
def kOp2 (r : Option (Rs D)) (x : D) (f : D → D → Option D) : Option (Rs D) := bnd r fun y e2 => ap2 f x y e2
theorem ev_op (f : D → D → Option D) (a b : ME) (e : Env) : mOp f a b e = kOp (a e) b f := nr rfl
theorem kOp_ok (x : D) (e : Env) (b : ME) (f : D → D → Option D) : kOp (some (.ok x e)) b f = kOp2 (b e) x f := nr rfl
theorem kOp_ex (x : Xc) (e : Env) (b : ME) (f : D → D → Option D) : kOp (some (.ex x e)) b f = some (.ex x e) := nr rfl
theorem kOp2_ok (x y : D) (e : Env) (f : D → D → Option D) : kOp2 (some (.ok y e)) x f = ap2 f x y e := nr rfl
theorem kOp2_ex (x : Xc) (y : D) (e : Env) (f : D → D → Option D) : kOp2 (some (.ex x e)) y f = some (.ex x e) := nr rfl
def kP (r : Option D) (e : Env) : Option (Rs D) := match r with | some d => some (.ok d e) | none => none
theorem kP_ok (d : D) (e : Env) : kP (some d) e = some (.ok d e) := nr rfl
def kA1 (r : Option D) (f : D → Option D) (e : Env) : Option (Rs D) := match r with | some d => kP (f d) e | none => none
theorem ev_ap1 (f : D → Option D) (x : D) (e : Env) : ap1 f x e = kA1 (res e x) f e := nr rfl
theorem kA1_ok (x : D) (f : D → Option D) (e : Env) : kA1 (some x) f e = kP (f x) e := nr rfl
def kA2 (r s : Option D) (f : D → D → Option D) (e : Env) : Option (Rs D) := match r with | some x => (match s with | some y => kP (f x y) e | none => none) | none => none
theorem ev_ap2 (f : D → D → Option D) (x y : D) (e : Env) : ap2 f x y e = kA2 (res e x) (res e y) f e := nr rfl
theorem kA2_ok (x y : D) (f : D → D → Option D) (e : Env) : kA2 (some x) (some y) f e = kP (f x y) e := nr rfl
def kCB (r : Option (Rs (List D))) (f : List D → Option D) : Option (Rs D) := bnd r fun xs e1 => apN f xs e1
theorem ev_cb (f : List D → Option D) (a : MA) (e : Env) : mCB f a e = kCB (a e) f := nr rfl
theorem kCB_ok (xs : List D) (e : Env) (f : List D → Option D) : kCB (some (.ok xs e)) f = apN f xs e := nr rfl
def kAN (r : Option (List D)) (f : List D → Option D) (e : Env) : Option (Rs D) := match r with | some ds => kP (f ds) e | none => none
theorem ev_apN (f : List D → Option D) (xs : List D) (e : Env) : apN f xs e = kAN (lend xs e) f e := nr rfl
theorem kAN_ok (ds : List D) (f : List D → Option D) (e : Env) : kAN (some ds) f e = kP (f ds) e := nr rfl
theorem ev_lnil (e : Env) : lend [] e = some [] := nr rfl
def kL (r : Option D) (s : Option (List D)) : Option (List D) := match r with | some d => (match s with | some ds => some (d :: ds) | none => none) | none => none
theorem ev_lcons (x : D) (xs : List D) (e : Env) : lend (x :: xs) e = kL (res e x) (lend xs e) := nr rfl
theorem kL_ok (d : D) (ds : List D) : kL (some d) (some ds) = some (d :: ds) := nr rfl
theorem ev_nil (e : Env) : mNil e = some (.ok [] e) := nr rfl
def kCons (r : Option (Rs D)) (b : MA) : Option (Rs (List D)) := bnd r fun x e1 => bnd (b e1) fun xs e2 => some (.ok (x :: xs) e2)
def kCons2 (r : Option (Rs (List D))) (x : D) : Option (Rs (List D)) := bnd r fun xs e2 => some (.ok (x :: xs) e2)
theorem ev_cons (a : ME) (b : MA) (e : Env) : mCons a b e = kCons (a e) b := nr rfl
theorem kCons_ok (x : D) (e : Env) (b : MA) : kCons (some (.ok x e)) b = kCons2 (b e) x := nr rfl
theorem kCons_ex (x : Xc) (e : Env) (b : MA) : kCons (some (.ex x e)) b = some (.ex x e) := nr rfl
theorem kCons2_ok (x : D) (xs : List D) (e : Env) : kCons2 (some (.ok xs e)) x = some (.ok (x :: xs) e) := nr rfl
def kTest (r : Option (Rs D)) : Option (Rs Bool) := bnd r fun x e1 => match x with
  | .bl b => some (.ok b e1)
  | _ => none
theorem ev_test (a : ME) (e : Env) : mTest a e = kTest (a e) := nr rfl
theorem kTest_ok (b : Bool) (e : Env) : kTest (some (.ok (.bl b) e)) = some (.ok b e) := nr rfl
theorem kTest_ex (x : Xc) (e : Env) : kTest (some (.ex x e)) = some (.ex x e) := nr rfl
def kTru (r : Option (Rs D)) : Option (Rs Bool) := bnd r fun x e1 => match res e1 x with
  | some d => (match truD d with | some b => some (.ok b e1) | none => none)
  | none => none
def kTr2 (r : Option D) (e : Env) : Option (Rs Bool) := match r with | some d => (match truD d with | some b => some (.ok b e) | none => none) | none => none
def kTr3 (r : Option Bool) (e : Env) : Option (Rs Bool) := match r with | some b => some (.ok b e) | none => none
theorem ev_tru (a : ME) (e : Env) : mTru a e = kTru (a e) := nr rfl
theorem kTru_ok (x : D) (e : Env) : kTru (some (.ok x e)) = kTr2 (res e x) e := nr rfl
theorem kTr2_ok (x : D) (e : Env) : kTr2 (some x) e = kTr3 (truD x) e := nr rfl
theorem kTr3_ok (b : Bool) (e : Env) : kTr3 (some b) e = some (.ok b e) := nr rfl
def kAnd (r : Option (Rs Bool)) (b : MT) : Option (Rs Bool) := bnd r fun c e1 => if c = true then b e1 else some (.ok false e1)
def kOr (r : Option (Rs Bool)) (b : MT) : Option (Rs Bool) := bnd r fun c e1 => if c = true then some (.ok true e1) else b e1
def kNot (r : Option (Rs Bool)) : Option (Rs Bool) := bnd r fun c e1 => some (.ok (!c) e1)
theorem ev_and (a b : MT) (e : Env) : mAnd a b e = kAnd (a e) b := nr rfl
theorem ev_or (a b : MT) (e : Env) : mOr a b e = kOr (a e) b := nr rfl
theorem ev_not (a : MT) (e : Env) : mNot a e = kNot (a e) := nr rfl
theorem kAnd_t (b : MT) (e : Env) : kAnd (some (.ok true e)) b = b e := nr rfl
theorem kAnd_f (b : MT) (e : Env) : kAnd (some (.ok false e)) b = some (.ok false e) := nr rfl
theorem kOr_t (b : MT) (e : Env) : kOr (some (.ok true e)) b = some (.ok true e) := nr rfl
theorem kOr_f (b : MT) (e : Env) : kOr (some (.ok false e)) b = b e := nr rfl
theorem kNot_ok (b : Bool) (e : Env) : kNot (some (.ok b e)) = some (.ok (!b) e) := nr rfl
def kAndV (r : Option (Rs D)) (b : ME) : Option (Rs D) := bnd r fun x e1 => match x with
  | .bl true => b e1
  | .bl false => some (.ok (.bl false) e1)
  | _ => none
def kOrV (r : Option (Rs D)) (b : ME) : Option (Rs D) := bnd r fun x e1 => match x with
  | .bl true => some (.ok (.bl true) e1)
  | .bl false => b e1
  | _ => none
def kNotV (r : Option (Rs D)) : Option (Rs D) := bnd r fun x e1 => match x with
  | .bl b => some (.ok (.bl (!b)) e1)
  | _ => none
theorem ev_andV (a b : ME) (e : Env) : mAndV a b e = kAndV (a e) b := nr rfl
theorem ev_orV (a b : ME) (e : Env) : mOrV a b e = kOrV (a e) b := nr rfl
theorem ev_notV (a : ME) (e : Env) : mNotV a e = kNotV (a e) := nr rfl
theorem kAndV_t (b : ME) (e : Env) : kAndV (some (.ok (.bl true) e)) b = b e := nr rfl
theorem kAndV_f (b : ME) (e : Env) : kAndV (some (.ok (.bl false) e)) b = some (.ok (.bl false) e) := nr rfl
theorem kOrV_t (b : ME) (e : Env) : kOrV (some (.ok (.bl true) e)) b = some (.ok (.bl true) e) := nr rfl
theorem kOrV_f (b : ME) (e : Env) : kOrV (some (.ok (.bl false) e)) b = b e := nr rfl
theorem kNotV_ok (b : Bool) (e : Env) : kNotV (some (.ok (.bl b) e)) = some (.ok (.bl (!b)) e) := nr rfl
def kLst (r : Option (Rs (List D))) (c : List D → D) : Option (Rs D) := bnd r fun xs e1 => match tkfA xs e1 with
  | some (ys, e2) => if ys.length ≤ 16777216 then some (.ok (c ys) e2) else none
  | none => none
def kLs2 (r : Option (List D × Env)) (c : List D → D) : Option (Rs D) := match r with
  | some (ys, e2) => if ys.length ≤ 16777216 then some (.ok (c ys) e2) else none
  | none => none
theorem ev_lst (a : MA) (e : Env) : mLst a e = kLst (a e) D.mls := nr rfl
theorem ev_tup (a : MA) (e : Env) : mTup a e = kLst (a e) D.tup := nr rfl
theorem kLst_ok (xs : List D) (e : Env) (c : List D → D) : kLst (some (.ok xs e)) c = kLs2 (tkfA xs e) c := nr rfl
theorem kLst_ex (x : Xc) (e : Env) (c : List D → D) : kLst (some (.ex x e)) c = some (.ex x e) := nr rfl
theorem kLs2_ok {ys : List D} {e : Env} {c : List D → D} (h : ys.length ≤ 16777216) : kLs2 (some (ys, e)) c = some (.ok (c ys) e) := by
  unfold kLs2; simp only [h, if_true]
theorem ev_tnil (e : Env) : tkfA [] e = some ([], e) := nr rfl
def kT (r : Option (D × Env)) (xs : List D) : Option (List D × Env) := match r with
    | some (y, e1) => (match tkfA xs e1 with
      | some (ys, e2) => some (y :: ys, e2)
      | none => none)
    | none => none
def kT2 (r : Option (List D × Env)) (y : D) : Option (List D × Env) := match r with | some (ys, e2) => some (y :: ys, e2) | none => none
theorem ev_tcons (x : D) (xs : List D) (e : Env) : tkfA (x :: xs) e = kT (tkf x e) xs := nr rfl
theorem kT_ok (y : D) (e : Env) (xs : List D) : kT (some (y, e)) xs = kT2 (tkfA xs e) y := nr rfl
theorem kT2_ok (y : D) (ys : List D) (e : Env) : kT2 (some (ys, e)) y = some (y :: ys, e) := nr rfl
theorem tkf_fz {d : D} {e : Env} (h : isFz d = true) : tkf d e = some (d, e) := by cases d <;> first | rfl | cases h
theorem tkf_mls (ds : List D) (e : Env) : tkf (.mls ds) e = some (.lst ds, e) := nr rfl
def kTk (r : Option (Option D)) (k : Nat) (e : Env) : Option (D × Env) := match r with
    | some (some d) => some (frz d, e.set k (some (frz d)))
    | _ => none
def kTkf (r : Option (D × Env)) : Option (D × Env) := match r with | some (d, e1) => some (frz d, e1) | none => none
theorem tkf_al (k : Nat) (e : Env) : tkf (.al k) e = kTkf (kTk e[k]? k e) := nr rfl
theorem kTkf_ok (d : D) (e : Env) : kTkf (some (d, e)) = some (frz d, e) := nr rfl
theorem tk_fz {d : D} {e : Env} (h : isFz d = true) : tk d e = some (d, e) := by cases d <;> first | rfl | cases h
theorem tk_mls (ds : List D) (e : Env) : tk (.mls ds) e = some (.mls ds, e) := nr rfl
theorem tk_al (k : Nat) (e : Env) : tk (.al k) e = kTk e[k]? k e := nr rfl
theorem kTk_ok (d : D) (k : Nat) (e : Env) : kTk (some (some d)) k e = some (frz d, e.set k (some (frz d))) := nr rfl
theorem frz_of {d : D} (h : isFz d = true) : frz d = d := by cases d <;> first | rfl | cases h
theorem frz_mls (ds : List D) : frz (.mls ds) = .lst ds := nr rfl
theorem res_fz {d : D} {e : Env} (h : isFz d = true) : res e d = some d := by cases d <;> first | rfl | cases h
theorem res_mls (ds : List D) (e : Env) : res e (.mls ds) = some (.mls ds) := nr rfl
theorem out_fz {np : Nat} {d : D} {e : Env} (h : isFz d = true) : out np d e = some (d, e) := by cases d <;> first | rfl | cases h
theorem out_mls (np : Nat) (ds : List D) (e : Env) : out np (.mls ds) e = some (.mls ds, e) := nr rfl
def kOut (r : Option (Option D)) (k : Nat) (e : Env) : Option (D × Env) := match r with
    | some (some d) => some (d, e.set k none)
    | _ => none
theorem out_al (np k : Nat) (e : Env) : out np (.al k) e = if k < np then kTk e[k]? k e else kOut e[k]? k e := nr rfl
theorem kOut_ok (d : D) (k : Nat) (e : Env) : kOut (some (some d)) k e = some (d, e.set k none) := nr rfl
def kPart (r : Option (Rs D)) : Option (Rs (Option Int)) := bnd r fun x e1 => match x with
  | .int i => some (.ok (some i) e1)
  | _ => none
theorem ev_nopart (e : Env) : mNoPart e = some (.ok none e) := nr rfl
theorem ev_part (a : ME) (e : Env) : mPart a e = kPart (a e) := nr rfl
theorem kPart_ok (i : Int) (e : Env) : kPart (some (.ok (.int i) e)) = some (.ok (some i) e) := nr rfl
def kSl (r : Option (Rs D)) (l h : MO) (f : D → Option Int → Option Int → Option D) : Option (Rs D) := bnd r fun x e1 => bnd (l e1) fun lo e2 => bnd (h e2) fun hi e3 => match res e3 x with
  | some x' => (match f x' lo hi with | some d => some (.ok d e3) | none => none)
  | none => none
def kSl2 (r : Option (Rs (Option Int))) (x : D) (h : MO) (f : D → Option Int → Option Int → Option D) : Option (Rs D) := bnd r fun lo e2 => bnd (h e2) fun hi e3 => match res e3 x with
  | some x' => (match f x' lo hi with | some d => some (.ok d e3) | none => none)
  | none => none
def kSl3 (r : Option (Rs (Option Int))) (x : D) (lo : Option Int) (f : D → Option Int → Option Int → Option D) : Option (Rs D) := bnd r fun hi e3 => match res e3 x with
  | some x' => (match f x' lo hi with | some d => some (.ok d e3) | none => none)
  | none => none
def kSl4 (r : Option D) (lo hi : Option Int) (f : D → Option Int → Option Int → Option D) (e : Env) : Option (Rs D) := match r with
  | some x' => kP (f x' lo hi) e
  | none => none
theorem ev_sl (f : D → Option Int → Option Int → Option D) (a : ME) (l h : MO) (e : Env) : mSl f a l h e = kSl (a e) l h f := nr rfl
theorem kSl_ok (x : D) (e : Env) (l h : MO) (f : D → Option Int → Option Int → Option D) : kSl (some (.ok x e)) l h f = kSl2 (l e) x h f := nr rfl
theorem kSl2_ok (lo : Option Int) (x : D) (e : Env) (h : MO) (f : D → Option Int → Option Int → Option D) : kSl2 (some (.ok lo e)) x h f = kSl3 (h e) x lo f := nr rfl
theorem kSl3_ok (lo hi : Option Int) (x : D) (e : Env) (f : D → Option Int → Option Int → Option D) : kSl3 (some (.ok hi e)) x lo f = kSl4 (res e x) lo hi f e := nr rfl
theorem kSl4_ok (lo hi : Option Int) (x : D) (e : Env) (f : D → Option Int → Option Int → Option D) : kSl4 (some x) lo hi f e = kP (f x lo hi) e := nr rfl
def kApp3 (r : Option (Option D)) (y : D) (n : Nat) (e : Env) : Option (Rs D) := match r with
      | some (some (.mls ds)) => if ds.length < 16777216 then some (.ok .non (e.set n (some (.mls (ds ++ [y]))))) else none
      | _ => none
def kApp2 (r : Option (D × Env)) (n : Nat) : Option (Rs D) := match r with
    | some (y, e2) => kApp3 e2[n]? y n e2
    | none => none
def kApp (r : Option (Rs D)) (n : Nat) : Option (Rs D) := bnd r fun x e1 => kApp2 (tkf x e1) n
def kApp0 (s : Option (Option D)) (r : Option (Rs D)) (n : Nat) : Option (Rs D) := match s with
  | some (some (.mls _)) => kApp r n
  | _ => none
theorem ev_app (n : Nat) (a : ME) (e : Env) : mApp n a e = kApp0 e[n]? (a e) n := nr rfl
theorem kApp0_ok (ds : List D) (r : Option (Rs D)) (n : Nat) : kApp0 (some (some (.mls ds))) r n = kApp r n := nr rfl
theorem kApp_ok (x : D) (e : Env) (n : Nat) : kApp (some (.ok x e)) n = kApp2 (tkf x e) n := nr rfl
theorem kApp_ex (x : Xc) (e : Env) (n : Nat) : kApp (some (.ex x e)) n = some (.ex x e) := nr rfl
theorem kApp2_ok (y : D) (e : Env) (n : Nat) : kApp2 (some (y, e)) n = kApp3 e[n]? y n e := nr rfl
theorem kApp3_ok {ds : List D} {y : D} {n : Nat} {e : Env} (h : ds.length < 16777216) : kApp3 (some (some (.mls ds))) y n e = some (.ok .non (e.set n (some (.mls (ds ++ [y]))))) := by
  unfold kApp3; simp only [h, if_true]
def kE2 (r : Option D) (s : Option (Option D)) (n : Nat) (e : Env) : Option (Rs D) := match r with
    | some y => (match s with
      | some (some (.mls ds)) => (match y with
        | .lst es => if ds.length + es.length ≤ 16777216 then some (.ok .non (e.set n (some (.mls (ds ++ es))))) else none
        | .mls es => if ds.length + es.length ≤ 16777216 then some (.ok .non (e.set n (some (.mls (ds ++ es))))) else none
        | .tup es => if ds.length + es.length ≤ 16777216 then some (.ok .non (e.set n (some (.mls (ds ++ es))))) else none
        | _ => none)
      | _ => none)
    | none => none
def kExt (r : Option (Rs D)) (n : Nat) : Option (Rs D) := bnd r fun x e1 => kE2 (res e1 x) e1[n]? n e1
def kExt0 (s : Option (Option D)) (r : Option (Rs D)) (n : Nat) : Option (Rs D) := match s with
  | some (some (.mls _)) => kExt r n
  | _ => none
theorem ev_ext (n : Nat) (a : ME) (e : Env) : mExt n a e = kExt0 e[n]? (a e) n := nr rfl
theorem kExt0_ok (ds : List D) (r : Option (Rs D)) (n : Nat) : kExt0 (some (some (.mls ds))) r n = kExt r n := nr rfl
theorem kExt_ok (x : D) (e : Env) (n : Nat) : kExt (some (.ok x e)) n = kE2 (res e x) e[n]? n e := nr rfl
theorem kE2_lst {es ds : List D} {n : Nat} {e : Env} (h : ds.length + es.length ≤ 16777216) : kE2 (some (.lst es)) (some (some (.mls ds))) n e = some (.ok .non (e.set n (some (.mls (ds ++ es))))) := by
  unfold kE2; simp only [h, if_true]
theorem kE2_mls {es ds : List D} {n : Nat} {e : Env} (h : ds.length + es.length ≤ 16777216) : kE2 (some (.mls es)) (some (some (.mls ds))) n e = some (.ok .non (e.set n (some (.mls (ds ++ es))))) := by
  unfold kE2; simp only [h, if_true]
theorem kE2_tup {es ds : List D} {n : Nat} {e : Env} (h : ds.length + es.length ≤ 16777216) : kE2 (some (.tup es)) (some (some (.mls ds))) n e = some (.ok .non (e.set n (some (.mls (ds ++ es))))) := by
  unfold kE2; simp only [h, if_true]
def kCall (r : Option (Rs (List D))) (f : MF) : Option (Rs D) := bnd r fun xs e1 => match lend xs e1 with
  | some ds => if alsOk xs = true then (match f ds with
    | some (.ok d ds') => if ds'.length = ds.length then some (.ok d (back xs ds' e1)) else none
    | some (.ex x ds') => if ds'.length = ds.length then some (.ex x (back xs ds' e1)) else none
    | none => none) else none
  | none => none
def kC2 (r : Option (List D)) (f : MF) (xs : List D) (e : Env) : Option (Rs D) := match r with
  | some ds => if alsOk xs = true then (match f ds with
    | some (.ok d ds') => if ds'.length = ds.length then some (.ok d (back xs ds' e)) else none
    | some (.ex x ds') => if ds'.length = ds.length then some (.ex x (back xs ds' e)) else none
    | none => none) else none
  | none => none
def kC3 (r : Option Rf) (n : Nat) (xs : List D) (e : Env) : Option (Rs D) := match r with
    | some (.ok d ds') => if ds'.length = n then some (.ok d (back xs ds' e)) else none
    | some (.ex x ds') => if ds'.length = n then some (.ex x (back xs ds' e)) else none
    | none => none
theorem ev_call (f : MF) (a : MA) (e : Env) : mCall f a e = kCall (a e) f := nr rfl
theorem kCall_ok (xs : List D) (e : Env) (f : MF) : kCall (some (.ok xs e)) f = kC2 (lend xs e) f xs e := nr rfl
theorem kC2_ok {ds : List D} {f : MF} {xs : List D} {e : Env} (h : alsOk xs = true) : kC2 (some ds) f xs e = kC3 (f ds) ds.length xs e := by
  unfold kC2 kC3; simp only [h, if_true]
theorem kC3_ok (d : D) (ds : List D) (n : Nat) (xs : List D) (e : Env) (h : ds.length = n) : kC3 (some (.ok d ds)) n xs e = some (.ok d (back xs ds e)) := by
  unfold kC3; simp only [h, if_true]
theorem kC3_ex (x : Xc) (ds : List D) (n : Nat) (xs : List D) (e : Env) (h : ds.length = n) : kC3 (some (.ex x ds)) n xs e = some (.ex x (back xs ds e)) := by
  unfold kC3; simp only [h, if_true]
def kFor (r : Option (Rs (List D))) (g : MG) (b : MS) : Option (Rs Fl) := bnd r fun xs e1 => mLoop g b xs e1
theorem ev_for (i : MI) (g : MG) (b : MS) (e : Env) : mFor i g b e = kFor (i e) g b := nr rfl
theorem kFor_ok (xs : List D) (e : Env) (g : MG) (b : MS) : kFor (some (.ok xs e)) g b = mLoop g b xs e := nr rfl
theorem loop_nil (g : MG) (b : MS) (e : Env) : mLoop g b [] e = some (.ok .nx e) := nr rfl
def kLp (r : Option (Rs Fl)) (g : MG) (b : MS) (xs : List D) : Option (Rs Fl) := bnd r fun f e2 => (match f with
      | .nx => mLoop g b xs e2
      | .ct => mLoop g b xs e2
      | .bk => some (.ok .nx e2)
      | .rt d => some (.ok (.rt d) e2))
def kLp0 (r : Option Env) (g : MG) (b : MS) (xs : List D) : Option (Rs Fl) := match r with
    | some e1 => kLp (b e1) g b xs
    | none => none
theorem loop_cons (g : MG) (b : MS) (x : D) (xs : List D) (e : Env) : mLoop g b (x :: xs) e = kLp0 (g x e) g b xs := nr rfl
theorem kLp0_ok (e : Env) (g : MG) (b : MS) (xs : List D) : kLp0 (some e) g b xs = kLp (b e) g b xs := nr rfl
theorem kLp_nx (e : Env) (g : MG) (b : MS) (xs : List D) : kLp (some (.ok .nx e)) g b xs = mLoop g b xs e := nr rfl
theorem kLp_ct (e : Env) (g : MG) (b : MS) (xs : List D) : kLp (some (.ok .ct e)) g b xs = mLoop g b xs e := nr rfl
theorem kLp_bk (e : Env) (g : MG) (b : MS) (xs : List D) : kLp (some (.ok .bk e)) g b xs = some (.ok .nx e) := nr rfl
theorem kLp_rt (d : D) (e : Env) (g : MG) (b : MS) (xs : List D) : kLp (some (.ok (.rt d) e)) g b xs = some (.ok (.rt d) e) := nr rfl
theorem kLp_ex (x : Xc) (e : Env) (g : MG) (b : MS) (xs : List D) : kLp (some (.ex x e)) g b xs = some (.ex x e) := nr rfl
def kSI (r : Option (Rs D)) : Option (Rs (List D)) := bnd r fun x e1 => match tkf x e1 with
  | some (y, e2) => (match seqD y with | some ds => some (.ok ds e2) | none => none)
  | none => none
def kSI2 (r : Option (D × Env)) : Option (Rs (List D)) := match r with
  | some (y, e2) => (match seqD y with | some ds => some (.ok ds e2) | none => none)
  | none => none
def kSI3 (r : Option (List D)) (e : Env) : Option (Rs (List D)) := match r with | some ds => some (.ok ds e) | none => none
theorem ev_si (a : ME) (e : Env) : mSeqI a e = kSI (a e) := nr rfl
theorem kSI_ok (x : D) (e : Env) : kSI (some (.ok x e)) = kSI2 (tkf x e) := nr rfl
theorem kSI2_ok (x : D) (e : Env) : kSI2 (some (x, e)) = kSI3 (seqD x) e := nr rfl
theorem kSI3_ok (ds : List D) (e : Env) : kSI3 (some ds) e = some (.ok ds e) := nr rfl
def kR1 (r : Option (Rs (List D))) : Option (Rs (List D)) := bnd r fun xs e1 => match xs with
  | [.int j] => if -4611686018427387904 ≤ j ∧ j < 4611686018427387904 then some (.ok (rngD 0 j.toNat) e1) else none
  | _ => none
theorem ev_r1 (a : MA) (e : Env) : mRng1 a e = kR1 (a e) := nr rfl
theorem kR1_ok {j : Int} {e : Env} (h : -4611686018427387904 ≤ j ∧ j < 4611686018427387904) : kR1 (some (.ok [.int j] e)) = some (.ok (rngD 0 j.toNat) e) := by
  show (if _ then _ else _) = _
  rw [if_pos h]
def kR2 (r : Option (Rs (List D))) : Option (Rs (List D)) := bnd r fun xs e1 => match xs with
  | [.int i, .int j] => if (-4611686018427387904 ≤ i ∧ i < 4611686018427387904) ∧ -4611686018427387904 ≤ j ∧ j < 4611686018427387904 then some (.ok (rngD i (j - i).toNat) e1) else none
  | _ => none
theorem ev_r2 (a : MA) (e : Env) : mRng2 a e = kR2 (a e) := nr rfl
def kV1 (r : Option (Rs D)) : Option (Rs (List D)) := bnd r fun x e1 => match x with
  | .int j => if -4611686018427387904 ≤ j ∧ j < 4611686018427387904 then some (.ok (rngC (j.toNat - 1) j.toNat) e1) else none
  | _ => none
theorem ev_v1 (a : ME) (e : Env) : mRev1 a e = kV1 (a e) := nr rfl
def kLc (r : Option (Rs (List D))) (g : MG) (t : MT) (el : ME) (own : List Nat) : Option (Rs D) := bnd r fun xs e1 => match mCl g t el own xs [] (wipeE e1 own) with
  | some (ys, e2) => some (.ok (.mls ys) e2)
  | none => none
def kLc2 (r : Option (List D × Env)) : Option (Rs D) := match r with
  | some (ys, e2) => some (.ok (.mls ys) e2)
  | none => none
theorem ev_lc (i : MI) (g : MG) (t : MT) (el : ME) (own : List Nat) (e : Env) : mLc i g t el own e = kLc (i e) g t el own := nr rfl
theorem kLc_ok (xs : List D) (e : Env) (g : MG) (t : MT) (el : ME) (own : List Nat) : kLc (some (.ok xs e)) g t el own = kLc2 (mCl g t el own xs [] (wipeE e own)) := nr rfl
theorem kLc2_ok (ys : List D) (e : Env) : kLc2 (some (ys, e)) = some (.ok (.mls ys) e) := nr rfl
theorem cl_nil (g : MG) (t : MT) (el : ME) (own : List Nat) (acc : List D) (e : Env) : mCl g t el own [] acc e = some (acc, e) := nr rfl
def kQ (r : Option Env) (g : MG) (t : MT) (el : ME) (own : List Nat) (xs acc : List D) : Option (List D × Env) := match r with
    | some e1 => (match t e1 with
      | some (.ok b e2) => if b = true then (match el e2 with
        | some (.ok y e3) => (match tkf y e3 with
          | some (y', e4) => if acc.length < 16777216 then mCl g t el own xs (acc ++ [y']) (wipeE e4 own) else none
          | none => none)
        | _ => none) else mCl g t el own xs acc (wipeE e2 own)
      | _ => none)
    | none => none
def kQ2 (r : Option (Rs Bool)) (g : MG) (t : MT) (el : ME) (own : List Nat) (xs acc : List D) : Option (List D × Env) := match r with
      | some (.ok b e2) => if b = true then (match el e2 with
        | some (.ok y e3) => (match tkf y e3 with
          | some (y', e4) => if acc.length < 16777216 then mCl g t el own xs (acc ++ [y']) (wipeE e4 own) else none
          | none => none)
        | _ => none) else mCl g t el own xs acc (wipeE e2 own)
      | _ => none
def kQ3 (r : Option (Rs D)) (g : MG) (t : MT) (el : ME) (own : List Nat) (xs acc : List D) : Option (List D × Env) := match r with
        | some (.ok y e3) => (match tkf y e3 with
          | some (y', e4) => if acc.length < 16777216 then mCl g t el own xs (acc ++ [y']) (wipeE e4 own) else none
          | none => none)
        | _ => none
def kQ4 (r : Option (D × Env)) (g : MG) (t : MT) (el : ME) (own : List Nat) (xs acc : List D) : Option (List D × Env) := match r with
          | some (y', e4) => if acc.length < 16777216 then mCl g t el own xs (acc ++ [y']) (wipeE e4 own) else none
          | none => none
theorem cl_cons (g : MG) (t : MT) (el : ME) (own : List Nat) (x : D) (xs acc : List D) (e : Env) : mCl g t el own (x :: xs) acc e = kQ (g x e) g t el own xs acc := nr rfl
theorem kQ_ok (e : Env) (g : MG) (t : MT) (el : ME) (own : List Nat) (xs acc : List D) : kQ (some e) g t el own xs acc = kQ2 (t e) g t el own xs acc := nr rfl
theorem kQ2_t (e : Env) (g : MG) (t : MT) (el : ME) (own : List Nat) (xs acc : List D) : kQ2 (some (.ok true e)) g t el own xs acc = kQ3 (el e) g t el own xs acc := nr rfl
theorem kQ2_f (e : Env) (g : MG) (t : MT) (el : ME) (own : List Nat) (xs acc : List D) : kQ2 (some (.ok false e)) g t el own xs acc = mCl g t el own xs acc (wipeE e own) := nr rfl
theorem kQ3_ok (y : D) (e : Env) (g : MG) (t : MT) (el : ME) (own : List Nat) (xs acc : List D) : kQ3 (some (.ok y e)) g t el own xs acc = kQ4 (tkf y e) g t el own xs acc := nr rfl
theorem kQ4_ok {y : D} {e : Env} {g : MG} {t : MT} {el : ME} {own : List Nat} {xs acc : List D} (h : acc.length < 16777216) : kQ4 (some (y, e)) g t el own xs acc = mCl g t el own xs (acc ++ [y]) (wipeE e own) := by
  unfold kQ4; simp only [h, if_true]
def kFun (r : Option (Rs Fl)) (ds : List D) : Option Rf := match r with
  | some (.ok (.rt d) e) => (match outA ds e with | some ds' => some (.ok d ds') | none => none)
  | some (.ok .nx e) => (match outA ds e with | some ds' => some (.ok .non ds') | none => none)
  | some (.ex x e) => (match outA ds e with | some ds' => some (.ex x ds') | none => none)
  | _ => none
theorem ev_fun {np nl : Nat} {asg : List Nat} {body : MS} {ds : List D} (h1 : ds.length = np) (h2 : asg.all (fun j => match ds[j]? with | some d => isFz d | none => true) = true) : mFun np nl asg body ds = kFun (body (ds.map some ++ List.replicate nl none)) ds := by
  unfold mFun kFun
  rw [if_pos ⟨h1, h2⟩]; first | done | rfl
def kF2 (r : Option (List D)) (d : D) : Option Rf := match r with | some ds' => some (.ok d ds') | none => none
def kF3 (r : Option (List D)) (x : Xc) : Option Rf := match r with | some ds' => some (.ex x ds') | none => none
theorem kFun_rt (d : D) (e : Env) (ds : List D) : kFun (some (.ok (.rt d) e)) ds = kF2 (outA ds e) d := nr rfl
theorem kFun_nx (e : Env) (ds : List D) : kFun (some (.ok .nx e)) ds = kF2 (outA ds e) .non := nr rfl
theorem kFun_ex (x : Xc) (e : Env) (ds : List D) : kFun (some (.ex x e)) ds = kF3 (outA ds e) x := nr rfl
theorem kF2_ok (ds : List D) (d : D) : kF2 (some ds) d = some (.ok d ds) := nr rfl
theorem kF3_ok (ds : List D) (x : Xc) : kF3 (some ds) x = some (.ex x ds) := nr rfl
def kO (r : Option D) (s : Option (List D)) : Option (List D) := match r with | some x => (match s with | some xs => some (x :: xs) | none => none) | none => none
theorem outA_nil (e : Env) : outA [] e = some [] := nr rfl
theorem outA_fz {d : D} {ds : List D} {o : Option D} {e : Env} (h : isFz d = true) : outA (d :: ds) (o :: e) = kO (some d) (outA ds e) := by
  show (match (if isFz d = true then some d else o) with | some x => _ | none => _) = _
  rw [if_pos h]; rfl
theorem outA_mls (ds0 ds : List D) (o : Option D) (e : Env) : outA (.mls ds0 :: ds) (o :: e) = kO o (outA ds e) := by cases o <;> rfl
theorem kO_ok (d : D) (ds : List D) : kO (some d) (some ds) = some (d :: ds) := nr rfl
theorem back_nil (ds : List D) (e : Env) : back [] ds e = e := nr rfl
theorem back_al (k : Nat) (xs : List D) (d : D) (ds : List D) (e : Env) : back (.al k :: xs) (d :: ds) e = back xs ds (e.set k (some d)) := nr rfl
theorem back_fz {x : D} {xs : List D} {d : D} {ds : List D} {e : Env} (h : isAl x = false) : back (x :: xs) (d :: ds) e = back xs ds e := by cases x <;> first | rfl | cases h
theorem als_nil : alsOk [] = true := nr rfl
theorem als_fz {x : D} {xs : List D} (h : isAl x = false) : alsOk (x :: xs) = alsOk xs := by cases x <;> first | rfl | cases h
theorem als_al (k : Nat) (xs : List D) : alsOk (.al k :: xs) = (!xs.any (isAlK k) && alsOk xs) := nr rfl
theorem isAl_fz {x : D} (h : isFz x = true) : isAl x = false := by cases x <;> first | rfl | cases h
theorem isAlK_fz {x : D} {k : Nat} (h : isFz x = true) : isAlK k x = false := by cases x <;> first | rfl | cases h
theorem isFz_non  : isFz D.non = true := nr rfl
theorem isAl_non  : isAl D.non = false := nr rfl
theorem isAlK_non (j : Nat)  : isAlK j D.non = false := nr rfl
theorem isFz_bl (b : Bool) : isFz (D.bl b) = true := nr rfl
theorem isAl_bl (b : Bool) : isAl (D.bl b) = false := nr rfl
theorem isAlK_bl (j : Nat) (b : Bool) : isAlK j (D.bl b) = false := nr rfl
theorem isFz_int (i : Int) : isFz (D.int i) = true := nr rfl
theorem isAl_int (i : Int) : isAl (D.int i) = false := nr rfl
theorem isAlK_int (j : Nat) (i : Int) : isAlK j (D.int i) = false := nr rfl
theorem isFz_str (s : Str) : isFz (D.str s) = true := nr rfl
theorem isAl_str (s : Str) : isAl (D.str s) = false := nr rfl
theorem isAlK_str (j : Nat) (s : Str) : isAlK j (D.str s) = false := nr rfl
theorem isFz_cst (v : V) : isFz (D.cst v) = true := nr rfl
theorem isAl_cst (v : V) : isAl (D.cst v) = false := nr rfl
theorem isAlK_cst (j : Nat) (v : V) : isAlK j (D.cst v) = false := nr rfl
theorem isFz_tup (ds : List D) : isFz (D.tup ds) = true := nr rfl
theorem isAl_tup (ds : List D) : isAl (D.tup ds) = false := nr rfl
theorem isAlK_tup (j : Nat) (ds : List D) : isAlK j (D.tup ds) = false := nr rfl
theorem isFz_lst (ds : List D) : isFz (D.lst ds) = true := nr rfl
theorem isAl_lst (ds : List D) : isAl (D.lst ds) = false := nr rfl
theorem isAlK_lst (j : Nat) (ds : List D) : isAlK j (D.lst ds) = false := nr rfl
theorem isFz_rol (ds : List D) : isFz (D.rol ds) = true := nr rfl
theorem isAl_rol (ds : List D) : isAl (D.rol ds) = false := nr rfl
theorem isAlK_rol (j : Nat) (ds : List D) : isAlK j (D.rol ds) = false := nr rfl
theorem isFz_mls (ds : List D) : isFz (D.mls ds) = false := nr rfl
theorem isAl_mls (ds : List D) : isAl (D.mls ds) = false := nr rfl
theorem isAlK_mls (j : Nat) (ds : List D) : isAlK j (D.mls ds) = false := nr rfl
theorem isFz_al (k : Nat) : isFz (D.al k) = false := nr rfl
theorem isAl_al (k : Nat) : isAl (D.al k) = true := nr rfl
theorem isAlK_al (j k : Nat) : isAlK j (D.al k) = (k == j) := nr rfl
theorem dIs_non  : dIs D.non .non = some (.bl true) := nr rfl
theorem dIsNot_non  : dIsNot D.non .non = some (.bl false) := nr rfl
theorem dIs_bl (b : Bool) : dIs (D.bl b) .non = some (.bl false) := nr rfl
theorem dIsNot_bl (b : Bool) : dIsNot (D.bl b) .non = some (.bl true) := nr rfl
theorem dIs_int (i : Int) : dIs (D.int i) .non = some (.bl false) := nr rfl
theorem dIsNot_int (i : Int) : dIsNot (D.int i) .non = some (.bl true) := nr rfl
theorem dIs_str (s : Str) : dIs (D.str s) .non = some (.bl false) := nr rfl
theorem dIsNot_str (s : Str) : dIsNot (D.str s) .non = some (.bl true) := nr rfl
theorem dIs_tup (ds : List D) : dIs (D.tup ds) .non = some (.bl false) := nr rfl
theorem dIsNot_tup (ds : List D) : dIsNot (D.tup ds) .non = some (.bl true) := nr rfl
theorem dIs_lst (ds : List D) : dIs (D.lst ds) .non = some (.bl false) := nr rfl
theorem dIsNot_lst (ds : List D) : dIsNot (D.lst ds) .non = some (.bl true) := nr rfl
theorem dIs_rol (ds : List D) : dIs (D.rol ds) .non = some (.bl false) := nr rfl
theorem dIsNot_rol (ds : List D) : dIsNot (D.rol ds) .non = some (.bl true) := nr rfl
theorem dIs_mls (ds : List D) : dIs (D.mls ds) .non = some (.bl false) := nr rfl
theorem dIsNot_mls (ds : List D) : dIsNot (D.mls ds) .non = some (.bl true) := nr rfl
theorem dIx_tup (ds : List D) (i : Int) : dIx (.tup ds) (.int i) = atI ds i := nr rfl
theorem dIx_lst (ds : List D) (i : Int) : dIx (.lst ds) (.int i) = atI ds i := nr rfl
theorem dIx_mls (ds : List D) (i : Int) : dIx (.mls ds) (.int i) = atI ds i := nr rfl
theorem dIx_rol (ds : List D) (i : Int) : dIx (.rol ds) (.int i) = atI ds i := nr rfl
theorem dLen_tup (ds : List D) : dLen [.tup ds] = some (.int ds.length) := nr rfl
theorem dLen_lst (ds : List D) : dLen [.lst ds] = some (.int ds.length) := nr rfl
theorem dLen_mls (ds : List D) : dLen [.mls ds] = some (.int ds.length) := nr rfl
theorem dLen_rol (ds : List D) : dLen [.rol ds] = some (.int ds.length) := nr rfl
theorem eqD_int (i j : Int) : dEq (.int i) (.int j) = some (.bl (decide (i = j))) := nr rfl
theorem eqD_str (i j : Str) : dEq (.str i) (.str j) = some (.bl (decide (i = j))) := nr rfl
theorem eqD_bl (i j : Bool) : dEq (.bl i) (.bl j) = some (.bl (decide (i = j))) := nr rfl
theorem eqD_non : dEq .non .non = some (.bl true) := nr rfl
theorem neD_int (i j : Int) : dNe (.int i) (.int j) = some (.bl (!decide (i = j))) := nr rfl
theorem neD_str (i j : Str) : dNe (.str i) (.str j) = some (.bl (!decide (i = j))) := nr rfl
theorem neD_bl (i j : Bool) : dNe (.bl i) (.bl j) = some (.bl (!decide (i = j))) := nr rfl
theorem neD_non : dNe .non .non = some (.bl false) := nr rfl
theorem atI_l0 {α : Type} (x0 : α) (l : List α) : atI (x0 :: l) 0 = some x0 := atI_nat (j := 0) rfl
theorem atI_l1 {α : Type} (x0 x1 : α) (l : List α) : atI (x0 :: x1 :: l) 1 = some x1 := atI_nat (j := 1) rfl
theorem atI_l2 {α : Type} (x0 x1 x2 : α) (l : List α) : atI (x0 :: x1 :: x2 :: l) 2 = some x2 := atI_nat (j := 2) rfl
theorem atI_l3 {α : Type} (x0 x1 x2 x3 : α) (l : List α) : atI (x0 :: x1 :: x2 :: x3 :: l) 3 = some x3 := atI_nat (j := 3) rfl
theorem atI_l4 {α : Type} (x0 x1 x2 x3 x4 : α) (l : List α) : atI (x0 :: x1 :: x2 :: x3 :: x4 :: l) 4 = some x4 := atI_nat (j := 4) rfl
theorem atI_l5 {α : Type} (x0 x1 x2 x3 x4 x5 : α) (l : List α) : atI (x0 :: x1 :: x2 :: x3 :: x4 :: x5 :: l) 5 = some x5 := atI_nat (j := 5) rfl
theorem atI_l6 {α : Type} (x0 x1 x2 x3 x4 x5 x6 : α) (l : List α) : atI (x0 :: x1 :: x2 :: x3 :: x4 :: x5 :: x6 :: l) 6 = some x6 := atI_nat (j := 6) rfl
theorem atI_l7 {α : Type} (x0 x1 x2 x3 x4 x5 x6 x7 : α) (l : List α) : atI (x0 :: x1 :: x2 :: x3 :: x4 :: x5 :: x6 :: x7 :: l) 7 = some x7 := atI_nat (j := 7) rfl
theorem atI_m1 {α : Type} (x0 : α) : atI [x0] (-1) = some x0 := nr rfl
theorem atI_m2 {α : Type} (x0 x1 : α) : atI [x0, x1] (-1) = some x1 := nr rfl
theorem atI_m3 {α : Type} (x0 x1 x2 : α) : atI [x0, x1, x2] (-1) = some x2 := nr rfl
theorem atI_m4 {α : Type} (x0 x1 x2 x3 : α) : atI [x0, x1, x2, x3] (-1) = some x3 := nr rfl
theorem atI_m5 {α : Type} (x0 x1 x2 x3 x4 : α) : atI [x0, x1, x2, x3, x4] (-1) = some x4 := nr rfl
/-! texts -/
theorem st_inj (a b : List Nat) : (st a = st b) = (a = b) := by
  apply propext
  constructor
  · intro h
    have := congrArg (fun s : Str => s.cps.toList) h
    simpa [st] using this
  · rintro rfl; rfl
theorem st_eta (s : Str) : s = st s.cps.toList := by
  obtain ⟨a⟩ := s
  simp [st]
theorem st_cps (a : List Nat) : (st a).cps.toList = a := by simp [st]
theorem st_len (a : List Nat) : (st a).length = a.length := by
  show (st a).cps.size = a.length
  simp [st]
theorem st_app (a b : List Nat) : st a ++ st b = st (a ++ b) := by
  rw [st_eta (st a ++ st b)]
  congr 1
  show ((st a).cps ++ (st b).cps).toList = a ++ b
  simp [st]
theorem dAdd_st (a b : List Nat) : dAdd (.str (st a)) (.str (st b)) = if a.length + b.length ≤ 16777216 then some (.str (st (a ++ b))) else none := by
  simp only [dAdd, st_len, st_app]
theorem dAdd_int (i j : Int) : dAdd (.int i) (.int j) = some (.int (i + j)) := nr rfl
theorem dAdd_tup (a b : List D) : dAdd (.tup a) (.tup b) = if a.length + b.length ≤ 16777216 then some (.tup (a ++ b)) else none := nr rfl
theorem dAdd_ll (a b : List D) : dAdd (.lst a) (.lst b) = if a.length + b.length ≤ 16777216 then some (.mls (a ++ b)) else none := nr rfl
theorem dAdd_lm (a b : List D) : dAdd (.lst a) (.mls b) = if a.length + b.length ≤ 16777216 then some (.mls (a ++ b)) else none := nr rfl
theorem dAdd_ml (a b : List D) : dAdd (.mls a) (.lst b) = if a.length + b.length ≤ 16777216 then some (.mls (a ++ b)) else none := nr rfl
theorem dAdd_mm (a b : List D) : dAdd (.mls a) (.mls b) = if a.length + b.length ≤ 16777216 then some (.mls (a ++ b)) else none := nr rfl
theorem dIx_st (a : List Nat) (i : Int) : dIx (.str (st a)) (.int i) = if a.length ≤ 16777216 then (match atI a i with | some c => some (.str (st [c])) | none => none) else none := by
  simp only [dIx, st_len, st_cps]
  rfl
def cutN (xs : List Nat) (lo hi : Option Int) : List Nat := (xs.drop (HT.sIx xs.length 0 lo)).take (HT.sIx xs.length xs.length hi - HT.sIx xs.length 0 lo)
theorem dSl_st (a : List Nat) (lo hi : Option Int) : dSl (.str (st a)) lo hi = if a.length ≤ 16777216 then some (.str (st (cutN a lo hi))) else none := by
  have : cutS (st a) lo hi = st (cutN a lo hi) := by
    unfold cutS
    simp only [st_len, st_cps]
    rfl
  simp only [dSl, st_len, this]
theorem dSl_tup (ds : List D) (lo hi : Option Int) : dSl (.tup ds) lo hi = some (.tup (cutD ds lo hi)) := nr rfl
theorem dSl_lst (ds : List D) (lo hi : Option Int) : dSl (.lst ds) lo hi = some (.mls (cutD ds lo hi)) := nr rfl
theorem dSl_mls (ds : List D) (lo hi : Option Int) : dSl (.mls ds) lo hi = some (.mls (cutD ds lo hi)) := nr rfl
theorem dLen_st (a : List Nat) : dLen [.str (st a)] = if a.length ≤ 16777216 then some (.int a.length) else none := by
  simp only [dLen, st_len]
theorem tru_st (a : List Nat) : truD (.str (st a)) = if a.length ≤ 16777216 then some ((a.length : Int) != 0) else none := by
  simp only [truD, st_len]
theorem tru_non : truD .non = some false := nr rfl
theorem tru_bl (b : Bool) : truD (.bl b) = some b := nr rfl
theorem tru_int (i : Int) : truD (.int i) = some (i != 0) := nr rfl
theorem tru_tup (ds : List D) : truD (.tup ds) = some (!ds.isEmpty) := nr rfl
theorem tru_lst (ds : List D) : truD (.lst ds) = some (!ds.isEmpty) := nr rfl
theorem tru_mls (ds : List D) : truD (.mls ds) = some (!ds.isEmpty) := nr rfl
theorem dIn_st (c : Nat) (z : List Nat) : dIn (.str (st [c])) (.str (st z)) = some (.bl (decide (c ∈ z))) := by
  simp only [dIn, inD, st_cps]; rfl
theorem dNotIn_st (c : Nat) (z : List Nat) : dNotIn (.str (st [c])) (.str (st z)) = some (.bl (!decide (c ∈ z))) := by
  simp only [dNotIn, inD, st_cps]; rfl
/-- x among flat items -/
def amongD (x : D) : List D → Bool
  | [] => false
  | d :: ds => eqV (toV d) (toV x) || amongD x ds
theorem among_any (x : D) : ∀ ds : List D, inV (toV x) (ds.map toV) = amongD x ds
  | [] => rfl
  | d :: ds => by
    have := among_any x ds
    unfold inV at this ⊢
    simp only [List.map_cons, List.any_cons, amongD, this]
theorem inD_sq {x y : D} {ds : List D} (hx : flatD x = true) (hs : seqD y = some ds) (hf : ds.all flatD = true) : inD x y = some (amongD x ds) := by
  have e : inD x y = (match seqD y with
    | some ds => if flatD x = true ∧ ds.all flatD = true then some (inV (toV x) (ds.map toV)) else none
    | none => none) := by
    cases y <;> first | rfl | cases hs
  rw [e, hs]
  simp only [hx, hf, and_self, if_true, among_any]
theorem dIn_sq {x y : D} {ds : List D} (hx : flatD x = true) (hs : seqD y = some ds) (hf : ds.all flatD = true) : dIn x y = some (.bl (amongD x ds)) := by
  unfold dIn; rw [inD_sq hx hs hf]; rfl
theorem dNotIn_sq {x y : D} {ds : List D} (hx : flatD x = true) (hs : seqD y = some ds) (hf : ds.all flatD = true) : dNotIn x y = some (.bl (!amongD x ds)) := by
  unfold dNotIn; rw [inD_sq hx hs hf]; rfl
theorem dIn_lst {x : D} {ds : List D} (hx : flatD x = true) (hf : ds.all flatD = true) : dIn x (.lst ds) = some (.bl (amongD x ds)) := dIn_sq hx rfl hf
theorem dIn_mls {x : D} {ds : List D} (hx : flatD x = true) (hf : ds.all flatD = true) : dIn x (.mls ds) = some (.bl (amongD x ds)) := dIn_sq hx rfl hf
theorem dIn_tup {x : D} {ds : List D} (hx : flatD x = true) (hf : ds.all flatD = true) : dIn x (.tup ds) = some (.bl (amongD x ds)) := dIn_sq hx rfl hf
theorem dNotIn_lst {x : D} {ds : List D} (hx : flatD x = true) (hf : ds.all flatD = true) : dNotIn x (.lst ds) = some (.bl (!amongD x ds)) := dNotIn_sq hx rfl hf
theorem dNotIn_mls {x : D} {ds : List D} (hx : flatD x = true) (hf : ds.all flatD = true) : dNotIn x (.mls ds) = some (.bl (!amongD x ds)) := dNotIn_sq hx rfl hf
theorem dNotIn_tup {x : D} {ds : List D} (hx : flatD x = true) (hf : ds.all flatD = true) : dNotIn x (.tup ds) = some (.bl (!amongD x ds)) := dNotIn_sq hx rfl hf
theorem among_nil (x : D) : amongD x [] = false := nr rfl
theorem among_ss (a b : Str) (ds : List D) : amongD (.str a) (.str b :: ds) = (decide (b = a) || amongD (.str a) ds) := by
  show ((b == a) || _) = _
  have : (b == a) = decide (b = a) := by rw [Bool.eq_iff_iff]; simp
  rw [this]
theorem among_ii (a b : Int) (ds : List D) : amongD (.int a) (.int b :: ds) = (decide (b = a) || amongD (.int a) ds) := by
  show ((b == a) || _) = _
  have : (b == a) = decide (b = a) := by rw [Bool.eq_iff_iff]; simp
  rw [this]
theorem flat_int (i : Int) : flatD (.int i) = true := nr rfl
theorem flat_str (i : Str) : flatD (.str i) = true := nr rfl
theorem flat_bl (i : Bool) : flatD (.bl i) = true := nr rfl
theorem flat_non : flatD .non = true := nr rfl
theorem flat_strs (l : List Str) : (l.map D.str).all flatD = true := by rw [List.all_eq_true]; intro d hd; obtain ⟨s, _, rfl⟩ := List.mem_map.mp hd; rfl
theorem flat_ints (l : List Int) : (l.map D.int).all flatD = true := by rw [List.all_eq_true]; intro d hd; obtain ⟨s, _, rfl⟩ := List.mem_map.mp hd; rfl
theorem dIsi_of {x : D} {U t : String} {b : Bool} (h1 : tyD x = some t) (h2 : kitB t U = some b) : dIsi [x, .cst (.ty U)] = some (.bl b) := by
  simp only [dIsi, h1, h2]
theorem isi_non_bool  : dIsi [D.non, .cst (.ty "bool")] = some (.bl false) := dIsi_of rfl (by decide +kernel)
theorem isi_bl_bool (b : Bool) : dIsi [(D.bl b), .cst (.ty "bool")] = some (.bl true) := dIsi_of rfl (by decide +kernel)
theorem isi_int_bool (i : Int) : dIsi [(D.int i), .cst (.ty "bool")] = some (.bl false) := dIsi_of rfl (by decide +kernel)
theorem isi_str_bool (s : Str) : dIsi [(D.str s), .cst (.ty "bool")] = some (.bl false) := dIsi_of rfl (by decide +kernel)
theorem isi_tup_bool (ds : List D) : dIsi [(D.tup ds), .cst (.ty "bool")] = some (.bl false) := dIsi_of rfl (by decide +kernel)
theorem isi_lst_bool (ds : List D) : dIsi [(D.lst ds), .cst (.ty "bool")] = some (.bl false) := dIsi_of rfl (by decide +kernel)
theorem isi_mls_bool (ds : List D) : dIsi [(D.mls ds), .cst (.ty "bool")] = some (.bl false) := dIsi_of rfl (by decide +kernel)
theorem isi_non_int  : dIsi [D.non, .cst (.ty "int")] = some (.bl false) := dIsi_of rfl (by decide +kernel)
theorem isi_bl_int (b : Bool) : dIsi [(D.bl b), .cst (.ty "int")] = some (.bl true) := dIsi_of rfl (by decide +kernel)
theorem isi_int_int (i : Int) : dIsi [(D.int i), .cst (.ty "int")] = some (.bl true) := dIsi_of rfl (by decide +kernel)
theorem isi_str_int (s : Str) : dIsi [(D.str s), .cst (.ty "int")] = some (.bl false) := dIsi_of rfl (by decide +kernel)
theorem isi_tup_int (ds : List D) : dIsi [(D.tup ds), .cst (.ty "int")] = some (.bl false) := dIsi_of rfl (by decide +kernel)
theorem isi_lst_int (ds : List D) : dIsi [(D.lst ds), .cst (.ty "int")] = some (.bl false) := dIsi_of rfl (by decide +kernel)
theorem isi_mls_int (ds : List D) : dIsi [(D.mls ds), .cst (.ty "int")] = some (.bl false) := dIsi_of rfl (by decide +kernel)
theorem isi_non_str  : dIsi [D.non, .cst (.ty "str")] = some (.bl false) := dIsi_of rfl (by decide +kernel)
theorem isi_bl_str (b : Bool) : dIsi [(D.bl b), .cst (.ty "str")] = some (.bl false) := dIsi_of rfl (by decide +kernel)
theorem isi_int_str (i : Int) : dIsi [(D.int i), .cst (.ty "str")] = some (.bl false) := dIsi_of rfl (by decide +kernel)
theorem isi_str_str (s : Str) : dIsi [(D.str s), .cst (.ty "str")] = some (.bl true) := dIsi_of rfl (by decide +kernel)
theorem isi_tup_str (ds : List D) : dIsi [(D.tup ds), .cst (.ty "str")] = some (.bl false) := dIsi_of rfl (by decide +kernel)
theorem isi_lst_str (ds : List D) : dIsi [(D.lst ds), .cst (.ty "str")] = some (.bl false) := dIsi_of rfl (by decide +kernel)
theorem isi_mls_str (ds : List D) : dIsi [(D.mls ds), .cst (.ty "str")] = some (.bl false) := dIsi_of rfl (by decide +kernel)
theorem isi_non_list  : dIsi [D.non, .cst (.ty "list")] = some (.bl false) := dIsi_of rfl (by decide +kernel)
theorem isi_bl_list (b : Bool) : dIsi [(D.bl b), .cst (.ty "list")] = some (.bl false) := dIsi_of rfl (by decide +kernel)
theorem isi_int_list (i : Int) : dIsi [(D.int i), .cst (.ty "list")] = some (.bl false) := dIsi_of rfl (by decide +kernel)
theorem isi_str_list (s : Str) : dIsi [(D.str s), .cst (.ty "list")] = some (.bl false) := dIsi_of rfl (by decide +kernel)
theorem isi_tup_list (ds : List D) : dIsi [(D.tup ds), .cst (.ty "list")] = some (.bl false) := dIsi_of rfl (by decide +kernel)
theorem isi_lst_list (ds : List D) : dIsi [(D.lst ds), .cst (.ty "list")] = some (.bl true) := dIsi_of rfl (by decide +kernel)
theorem isi_mls_list (ds : List D) : dIsi [(D.mls ds), .cst (.ty "list")] = some (.bl true) := dIsi_of rfl (by decide +kernel)
theorem isi_non_tuple  : dIsi [D.non, .cst (.ty "tuple")] = some (.bl false) := dIsi_of rfl (by decide +kernel)
theorem isi_bl_tuple (b : Bool) : dIsi [(D.bl b), .cst (.ty "tuple")] = some (.bl false) := dIsi_of rfl (by decide +kernel)
theorem isi_int_tuple (i : Int) : dIsi [(D.int i), .cst (.ty "tuple")] = some (.bl false) := dIsi_of rfl (by decide +kernel)
theorem isi_str_tuple (s : Str) : dIsi [(D.str s), .cst (.ty "tuple")] = some (.bl false) := dIsi_of rfl (by decide +kernel)
theorem isi_tup_tuple (ds : List D) : dIsi [(D.tup ds), .cst (.ty "tuple")] = some (.bl true) := dIsi_of rfl (by decide +kernel)
theorem isi_lst_tuple (ds : List D) : dIsi [(D.lst ds), .cst (.ty "tuple")] = some (.bl false) := dIsi_of rfl (by decide +kernel)
theorem isi_mls_tuple (ds : List D) : dIsi [(D.mls ds), .cst (.ty "tuple")] = some (.bl false) := dIsi_of rfl (by decide +kernel)
end Q


namespace Q
open PySem L2
/-! ### loops by invariants -/
/-- no turn leaves the loop -/
theorem loop_inv {g : MG} {b : MS} (I : Nat → Env → Prop) : ∀ (xs : List D) (n : Nat) (e : Env), I n e → (∀ (k : Nat) (x : D) e, xs[k]? = some x → I (n + k) e → ∃ e1 f e2, g x e = some e1 ∧ b e1 = some (.ok f e2) ∧ (f = .nx ∨ f = .ct) ∧ I (n + k + 1) e2) →
    ∃ e', mLoop g b xs e = some (.ok .nx e') ∧ I (n + xs.length) e'
  | [], n, e, h0, _ => ⟨e, rfl, h0⟩
  | x :: xs, n, e, h0, hs => by
    obtain ⟨e1, f, e2, h1, h2, h3, h4⟩ := hs 0 x e rfl h0
    obtain ⟨e', h5, h6⟩ := loop_inv I xs (n + 1) e2 h4 fun k y e hk hI => by
      have := hs (k + 1) y e (by simpa using hk) (by rw [show n + (k + 1) = n + 1 + k by omega]; exact hI)
      rw [show n + (k + 1) = n + 1 + k by omega] at this
      exact this
    refine ⟨e', ?_, by rw [List.length_cons, show n + (xs.length + 1) = n + 1 + xs.length by omega]; exact h6⟩
    rw [loop_cons, h1, kLp0_ok, h2]
    rcases h3 with rfl | rfl
    · exact h5
    · exact h5
/-- a turn may return; P tells what then holds -/
theorem loop_ret {g : MG} {b : MS} (I : Nat → Env → Prop) (P : D → Env → Prop) : ∀ (xs : List D) (n : Nat) (e : Env), I n e → (∀ (k : Nat) (x : D) e, xs[k]? = some x → I (n + k) e → ∃ e1 f e2, g x e = some e1 ∧ b e1 = some (.ok f e2) ∧ (((f = .nx ∨ f = .ct) ∧ I (n + k + 1) e2) ∨ ∃ d, f = .rt d ∧ P d e2)) →
    (∃ e', mLoop g b xs e = some (.ok .nx e') ∧ I (n + xs.length) e') ∨ ∃ d e', mLoop g b xs e = some (.ok (.rt d) e') ∧ P d e'
  | [], n, e, h0, _ => .inl ⟨e, rfl, h0⟩
  | x :: xs, n, e, h0, hs => by
    obtain ⟨e1, f, e2, h1, h2, h3⟩ := hs 0 x e rfl h0
    rcases h3 with ⟨h3, h4⟩ | ⟨d, rfl, hp⟩
    · have := loop_ret I P xs (n + 1) e2 h4 fun k y e hk hI => by
        have := hs (k + 1) y e (by simpa using hk) (by rw [show n + (k + 1) = n + 1 + k by omega]; exact hI)
        rw [show n + (k + 1) = n + 1 + k by omega] at this
        exact this
      have e0 : mLoop g b (x :: xs) e = mLoop g b xs e2 := by
        rw [loop_cons, h1, kLp0_ok, h2]
        rcases h3 with rfl | rfl <;> rfl
      rw [e0]
      rcases this with ⟨e', h5, h6⟩ | h
      · exact .inl ⟨e', h5, by rw [List.length_cons, show n + (xs.length + 1) = n + 1 + xs.length by omega]; exact h6⟩
      · exact .inr h
    · exact .inr ⟨d, e2, by rw [loop_cons, h1, kLp0_ok, h2]; rfl, hp⟩
theorem rngD_length (lo : Int) (n : Nat) : (rngD lo n).length = n := by simp [rngD]
/-- a comprehension by what it makes of an item -/
theorem cl_inv {g : MG} {t : MT} {el : ME} {own : List Nat} (I : Nat → List D → Env → Prop) : ∀ (xs : List D) (n : Nat) (acc : List D) (e : Env), I n acc e → (∀ (k : Nat) (x : D) acc e, xs[k]? = some x → I (n + k) acc e → ∃ e1 c e2, g x e = some e1 ∧ t e1 = some (.ok c e2) ∧
      ((c = false ∧ I (n + k + 1) acc (wipeE e2 own)) ∨ (c = true ∧ ∃ y e3 y' e4, el e2 = some (.ok y e3) ∧ tkf y e3 = some (y', e4) ∧ acc.length < 16777216 ∧ I (n + k + 1) (acc ++ [y']) (wipeE e4 own)))) →
    ∃ ys e', mCl g t el own xs acc e = some (ys, e') ∧ I (n + xs.length) ys e'
  | [], n, acc, e, h0, _ => ⟨acc, e, rfl, h0⟩
  | x :: xs, n, acc, e, h0, hs => by
    obtain ⟨e1, c, e2, h1, h2, h3⟩ := hs 0 x acc e rfl h0
    have st : ∀ acc' e', I (n + 1) acc' e' → ∃ ys e'', mCl g t el own xs acc' e' = some (ys, e'') ∧ I (n + (x :: xs).length) ys e'' := fun acc' e' hI => by
      obtain ⟨ys, e'', h5, h6⟩ := cl_inv I xs (n + 1) acc' e' hI fun k y acc e hk hI => by
        have := hs (k + 1) y acc e (by simpa using hk) (by rw [show n + (k + 1) = n + 1 + k by omega]; exact hI)
        rw [show n + (k + 1) = n + 1 + k by omega] at this
        exact this
      exact ⟨ys, e'', h5, by rw [List.length_cons, show n + (xs.length + 1) = n + 1 + xs.length by omega]; exact h6⟩
    rcases h3 with ⟨rfl, hI⟩ | ⟨rfl, y, e3, y', e4, h4, h5, h6, hI⟩
    · obtain ⟨ys, e'', h7, h8⟩ := st _ _ hI
      exact ⟨ys, e'', by rw [cl_cons, h1, kQ_ok, h2, kQ2_f]; exact h7, h8⟩
    · obtain ⟨ys, e'', h7, h8⟩ := st _ _ hI
      exact ⟨ys, e'', by rw [cl_cons, h1, kQ_ok, h2, kQ2_t, h4, kQ3_ok, h5, kQ4_ok h6]; exact h7, h8⟩
/-- a comprehension that filters and maps, without effect -/
theorem cl_map {g : MG} {t : MT} {el : ME} {own : List Nat} {e : Env} (f : D → Bool) (h : D → D) (xs : List D) (hl : xs.length < 16777216) (hs : ∀ x ∈ xs, ∃ e1 e2, g x e = some e1 ∧ t e1 = some (.ok (f x) e2) ∧ ((f x = false ∧ wipeE e2 own = e) ∨ (f x = true ∧ ∃ y e3 e4, el e2 = some (.ok y e3) ∧ tkf y e3 = some (h x, e4) ∧ wipeE e4 own = e))) :
    mCl g t el own xs [] e = some ((xs.filter f).map h, e) := by
  have aux : ∀ (xs acc : List D), acc.length + xs.length < 16777216 → (∀ x ∈ xs, ∃ e1 e2, g x e = some e1 ∧ t e1 = some (.ok (f x) e2) ∧ ((f x = false ∧ wipeE e2 own = e) ∨ (f x = true ∧ ∃ y e3 e4, el e2 = some (.ok y e3) ∧ tkf y e3 = some (h x, e4) ∧ wipeE e4 own = e))) → mCl g t el own xs acc e = some (acc ++ (xs.filter f).map h, e) := by
    intro xs
    induction xs with
    | nil => intro acc _ _; simp [cl_nil]
    | cons x xs ih =>
      intro acc hl hs
      rw [List.length_cons] at hl
      obtain ⟨e1, e2, h1, h2, h3⟩ := hs x (by simp)
      have hs' : ∀ x ∈ xs, _ := fun x hx => hs x (List.mem_cons_of_mem _ hx)
      rcases h3 with ⟨hf, h3⟩ | ⟨hf, y, e3, e4, h3, h4, h5⟩
      · rw [cl_cons, h1, kQ_ok, h2, hf, kQ2_f, h3, ih acc (by omega) hs', List.filter_cons, hf]; simp
      · rw [cl_cons, h1, kQ_ok, h2, hf, kQ2_t, h3, kQ3_ok, h4, kQ4_ok (by omega), h5, ih _ (by rw [List.length_append]; simp; omega) hs', List.filter_cons, hf]; simp
  simpa using aux xs [] (by simpa using hl) hs
theorem cutN_to {l : List Nat} {i : Int} (h : 0 ≤ i) : cutN l none (some i) = l.take i.toNat := by
  obtain ⟨n, rfl⟩ : ∃ n : Nat, i = (n : Int) := ⟨i.toNat, by omega⟩
  unfold cutN
  rw [HT.sIx_nat, HT.sIx_none, List.drop_zero, Int.toNat_natCast, Nat.sub_zero]
  apply List.ext_getElem?
  intro j
  rw [List.getElem?_take, List.getElem?_take]
  by_cases hj : j < l.length
  · by_cases hn : j < n
    · rw [if_pos (by omega), if_pos hn]
    · rw [if_neg (by omega), if_neg hn]
  · rw [List.getElem?_eq_none (by omega)]; simp
theorem cutN_from {l : List Nat} {i : Int} (h : 0 ≤ i) : cutN l (some i) none = l.drop i.toNat := by
  obtain ⟨n, rfl⟩ : ∃ n : Nat, i = (n : Int) := ⟨i.toNat, by omega⟩
  unfold cutN
  rw [HT.sIx_nat, HT.sIx_none, Int.toNat_natCast]
  by_cases hn : n ≤ l.length
  · rw [Nat.min_eq_left hn]
    apply List.take_of_length_le
    rw [List.length_drop]
    exact Nat.le_refl _
  · rw [Nat.min_eq_right (by omega), Nat.sub_self, List.take_zero, List.drop_of_length_le (by omega)]
theorem cutD_to {l : List D} {i : Int} (h : 0 ≤ i) : cutD l none (some i) = l.take i.toNat := by
  obtain ⟨n, rfl⟩ : ∃ n : Nat, i = (n : Int) := ⟨i.toNat, by omega⟩
  unfold cutD
  rw [HT.sIx_nat, HT.sIx_none, List.drop_zero, Int.toNat_natCast, Nat.sub_zero]
  apply List.ext_getElem?
  intro j
  rw [List.getElem?_take, List.getElem?_take]
  by_cases hj : j < l.length
  · by_cases hn : j < n
    · rw [if_pos (by omega), if_pos hn]
    · rw [if_neg (by omega), if_neg hn]
  · rw [List.getElem?_eq_none (by omega)]; simp
theorem cutD_from {l : List D} {i : Int} (h : 0 ≤ i) : cutD l (some i) none = l.drop i.toNat := by
  obtain ⟨n, rfl⟩ : ∃ n : Nat, i = (n : Int) := ⟨i.toNat, by omega⟩
  unfold cutD
  rw [HT.sIx_nat, HT.sIx_none, Int.toNat_natCast]
  by_cases hn : n ≤ l.length
  · rw [Nat.min_eq_left hn]
    apply List.take_of_length_le
    rw [List.length_drop]
    exact Nat.le_refl _
  · rw [Nat.min_eq_right (by omega), Nat.sub_self, List.take_zero, List.drop_of_length_le (by omega)]
end Q


namespace Q
open PySem L2
/-! ### reckoning: raise, try, an error's fields, written dicts -/
def kRaise (r : Option (Rs (List D))) (c : Nat) (fs : List Str) : Option (Rs Fl) := bnd r fun xs e1 => match tkfA xs e1 with
  | some (ys, e2) => if ys.length = fs.length then some (.ex ⟨c, fs.reverse, ys.reverse⟩ e2) else none
  | none => none
def kRaise2 (r : Option (List D × Env)) (c : Nat) (fs : List Str) : Option (Rs Fl) := match r with
  | some (ys, e2) => if ys.length = fs.length then some (.ex ⟨c, fs.reverse, ys.reverse⟩ e2) else none
  | none => none
theorem ev_raise (c : Nat) (fs : List Str) (a : MA) (e : Env) : mRaise c fs a e = kRaise (a e) c fs := nr rfl
theorem kRaise_ok (xs : List D) (e : Env) (c : Nat) (fs : List Str) : kRaise (some (.ok xs e)) c fs = kRaise2 (tkfA xs e) c fs := nr rfl
theorem kRaise_ex (x : Xc) (e : Env) (c : Nat) (fs : List Str) : kRaise (some (.ex x e)) c fs = some (.ex x e) := nr rfl
theorem kRaise2_1 (y : D) (f : Str) (e : Env) (c : Nat) : kRaise2 (some ([y], e)) c [f] = some (.ex ⟨c, [f], [y]⟩ e) := nr rfl
theorem kRaise2_2 (y z : D) (f g : Str) (e : Env) (c : Nat) : kRaise2 (some ([y, z], e)) c [f, g] = some (.ex ⟨c, [g, f], [z, y]⟩ e) := nr rfl
def kTry3 (r : Option (Rs Fl)) (i : Nat) : Option (Rs Fl) := match r with
  | some (.ok f e2) => some (.ok f (e2.set i none))
  | _ => none
def kTry2 (r : Option Bool) (x : Xc) (e1 : Env) (i : Nat) (su : Xc → MS) : Option (Rs Fl) := match r with
  | some true => if x.fs.isEmpty = true ∨ e1.length ≤ i then none else kTry3 (su x (e1.set i none)) i
  | some false => some (.ex x e1)
  | none => none
def kTry (r : Option (Rs Fl)) (sub : Nat → Option Bool) (i : Nat) (su : Xc → MS) : Option (Rs Fl) := match r with
  | some (.ex x e1) => kTry2 (sub x.cls) x e1 i su
  | r => r
theorem ev_try (sub : Nat → Option Bool) (i : Nat) (b : MS) (su : Xc → MS) (e : Env) : mTry sub i b su e = kTry (b e) sub i su := by
  unfold mTry kTry
  cases b e with
  | none => rfl
  | some r => cases r with
    | ok f e1 => rfl
    | ex x e1 => rfl
theorem kTry_ok (f : Fl) (e : Env) (sub : Nat → Option Bool) (i : Nat) (su : Xc → MS) : kTry (some (.ok f e)) sub i su = some (.ok f e) := nr rfl
theorem kTry_ex (x : Xc) (e : Env) (sub : Nat → Option Bool) (i : Nat) (su : Xc → MS) : kTry (some (.ex x e)) sub i su = kTry2 (sub x.cls) x e i su := nr rfl
theorem kTry2_t {x : Xc} {e : Env} {i : Nat} {su : Xc → MS} (h1 : x.fs.isEmpty = false) (h2 : i < e.length) : kTry2 (some true) x e i su = kTry3 (su x (e.set i none)) i := by
  unfold kTry2
  rw [if_neg]
  rintro (h | h)
  · rw [h1] at h; cases h
  · omega
theorem kTry2_f (x : Xc) (e : Env) (i : Nat) (su : Xc → MS) : kTry2 (some false) x e i su = some (.ex x e) := nr rfl
theorem kTry3_ok (f : Fl) (e : Env) (i : Nat) : kTry3 (some (.ok f e)) i = some (.ok f (e.set i none)) := nr rfl
def kXf (b : Bool) (r : Option D) (e : Env) : Option (Rs D) := if b = true then (match r with | some d => some (.ok d e) | none => none) else none
theorem ev_xf (cs : List Nat) (f : Str) (x : Xc) (e : Env) : mXf cs f x e = kXf (cs.contains x.cls) (findD x.fs x.ds f) e := nr rfl
theorem kXf_ok (d : D) (e : Env) : kXf true (some d) e = some (.ok d e) := nr rfl
def kIsX (r : Option Bool) (e : Env) : Option (Rs D) := match r with | some b => some (.ok (.bl b) e) | none => none
theorem ev_isx (tab : Nat → Option Bool) (x : Xc) (e : Env) : mIsX tab x e = kIsX (tab x.cls) e := nr rfl
theorem kIsX_ok (b : Bool) (e : Env) : kIsX (some b) e = some (.ok (.bl b) e) := nr rfl
theorem findD_hit (k : Str) (ks : List Str) (d : D) (ds : List D) : findD (k :: ks) (d :: ds) k = some d := by simp [findD]
theorem dKIn_str (ks : List Str) (z : Str) : dKIn ks (.str z) = some (.bl (hasK ks z)) := nr rfl
theorem dKNot_str (ks : List Str) (z : Str) : dKNot ks (.str z) = some (.bl (!hasK ks z)) := nr rfl
theorem dKIx_str (ks : List Str) (ds : List D) (z : Str) : dKIx ks ds (.str z) = findD ks ds z := nr rfl
end Q


namespace Q
open PySem L2
/-! ### a text walked sign by sign -/
def signsD (x : Str) : List D := x.cps.toList.map fun c => .str ⟨#[c]⟩
def mStrI (a : ME) : MI := fun e => bnd (a e) fun x e1 => match res e1 x with
  | some (.str z) => some (.ok (signsD z) e1)
  | _ => none
theorem yd_str {K : KC} {x : Str} : Yd K (Its x) [] (signsD x) := by
  intro ps H _ _ i
  refine ⟨fun d hd => ?_, fun hi => by
    have : x.cps.size ≤ i := by simpa [signsD] using hi
    exact this⟩
  unfold signsD at hd
  rw [List.getElem?_map] at hd
  cases e : x.cps.toList[i]? with
  | none => rw [e] at hd; cases hd
  | some c =>
    rw [e] at hd
    cases hd
    have hi : i < x.cps.toList.length := (List.getElem?_eq_some_iff.mp e).1
    rw [Array.length_toList] at hi
    refine ⟨hi, fun v H' y => ?_⟩
    obtain ⟨rfl, c', hc, rfl⟩ := y
    rw [Array.getElem?_toList] at e
    rw [e] at hc; cases hc
    exact ⟨.refl, .str _⟩
section
variable {C : Cn} {te ta tb tc : TE} {ma mb mc : ME} {tt tu : TT} {mt mu : MT} {tr : TA} {mr : MA} {t u : TS} {ms mv : MS}
theorem si_str (ha : SE C ta ma) : SI C (iStr ta) (mStrI ma) := by
  intro B σ0 σ H env ts R z hm Q hq
  rcases bnd_inv hm with ⟨x, e, h1, rfl⟩ | ⟨x, e1, h1, h2⟩
  · exact ha B σ0 σ H env ts R _ h1 _ hq
  · refine ha B σ0 σ H env ts R _ h1 _ fun v H1 ⟨S, g⟩ => ?_
    split at h2
    · rename_i z hz
      cases h2
      have px : Peek C.K (pset B S) H1 v (.str z) := g.look (j := ts.length) (v := v) (d := x) (by simp) hz
      have R1 : Rep C B σ0 H1 σ e1 ts := Rep.pop (ts1 := [(v, x)]) ⟨S, g⟩
      exact ⟨z, px.str, hq _ _ [] yd_str (by simp) (by simpa using R1)⟩
    · cases h2
/-! ### text methods -/
def rLoS : V → List V → Hp → VK → Prop := fun x xs H Q => ∃ a, x = .str a ∧ xs = [] ∧ a.length ≤ 5592405 ∧ Q (.str (Txt.lower a)) H
def dLower : D → Option D | .str z => if z.length ≤ 5592405 then some (.str (Txt.lower z)) else none | _ => none
theorem p_lower {K : KC} : P1 K (fun x H Q => (∃ a, x = .str a) ∧ rLoS x [] H Q) dLower := by
  intro ps H x d e Q ht px hf hq
  unfold dLower at hf
  split at hf
  · rename_i z
    split at hf
    · rename_i hz
      cases hf
      exact ⟨⟨z, px.str⟩, z, px.str, rfl, hz, hq _ _ (Post.dt (.str _))⟩
    · cases hf
  · cases hf
def strsD : List D → Option (List Str)
  | [] => some []
  | .str x :: ds => (match strsD ds with | some ys => some (x :: ys) | none => none)
  | _ => none
theorem strsD_eq : ∀ {ds : List D} {ys : List Str}, strsD ds = some ys → ds = ys.map D.str
  | [], ys, h => by cases h; rfl
  | d :: ds, ys, h => by
    unfold strsD at h
    split at h
    · rename_i h0; cases h0
    · rename_i x ds' h0
      cases h0
      split at h
      · rename_i zs hz
        cases h
        rw [strsD_eq hz]; rfl
      · cases h
    · cases h
theorem DtA.strs_eq {K : KC} {ps : Addr → Prop} {H : Hp} : ∀ {xs : List V} {ns : List Str}, DtA K ps H xs (ns.map D.str) → xs = ns.map V.str
  | [], [], _ => rfl
  | [], n :: ns, h => by have := h.1; simp at this
  | x :: xs, [], h => by have := h.1; simp at this
  | x :: xs, n :: ns, h => by
    have h1 := h.2 0 x (.str n) rfl rfl
    have h2 : DtA K ps H xs (ns.map D.str) := ⟨by have := h.1; simpa using this, fun i y f e1 e2 => h.2 (i + 1) y f (by simpa using e1) (by simpa using e2)⟩
    cases h1
    rw [DtA.strs_eq h2]; rfl
def dJoin (a : Str) : D → Option D := fun y => match seqD y with
  | some ds => (match strsD ds with
    | some ys => if (ys.map (·.length)).sum + ys.length * a.length ≤ 16777216 then some (.str (Txt.join a ys)) else none
    | none => none)
  | none => none
abbrev rJoS (K : PySem.W.Frag) : V → List V → Hp → VK → Prop := fun x xs H Q => ∃ a p, ∃ ys : List Str, x = .str a ∧ xs = [.ref p] ∧ (SqL K H p (ys.map V.str) ∨ SqT K H p (ys.map V.str)) ∧ (ys.map (·.length)).sum + ys.length * a.length ≤ 16777216 ∧ Q (.str (Txt.join a ys)) H
theorem p_join {K : KC} (a : Str) : P1 K (fun y H Q => rJoS K (.str a) [y] H Q) (dJoin a) := by
  intro ps H x d e Q ht px hf hq
  unfold dJoin at hf
  split at hf
  · rename_i ds hds
    split at hf
    · rename_i ys hys
      split at hf
      · rename_i hl
        cases hf
        obtain ⟨p, xs, rfl, hs, hA⟩ := px.seq hds
        rw [strsD_eq hys] at hA
        have := hA.strs_eq
        subst this
        refine ⟨a, p, ys, rfl, rfl, ?_, hl, hq _ _ (Post.dt (.str _))⟩
        first
          | exact hs
          | exact hs.imp (fun h => h.1) (fun h => h.1)
      · cases hf
    · cases hf
  · cases hf
theorem se_join {a b : Str} (h : a = b) (hb : SE C tb mb) : SE C (tM1 (rJoS C.K) (tC (.str a)) tb) (mUn (dJoin b) mb) := by
  subst h
  intro B σ0 σ H env ts R z hm Q hq
  exact ⟨⟨a, rfl⟩, se_un (p_join a) hb B σ0 σ H env ts R z hm Q hq⟩
/-! ### f-strings -/
def rFmt : V → Hp → VK → Prop := fun x H1 Q => (∃ y : Str, x = .str y ∧ y.length ≤ sizeLine ∧ Q (.str y) H1) ∨ ∃ i : Int, x = .int i ∧ i.natAbs.log2 < 1920 ∧ Q (.str (toString i)) H1
def dFmt : D → Option D
  | .str y => if y.length ≤ 16777216 then some (.str y) else none
  | .int i => if i.natAbs.log2 < 1920 then some (.str (toString i)) else none
  | _ => none
theorem p_fmt {K : KC} : P1 K rFmt dFmt := by
  intro ps H x d e Q ht px hf hq
  unfold dFmt at hf
  split at hf
  · rename_i y
    split at hf
    · rename_i hl
      cases hf
      exact .inl ⟨y, px.str, by rw [sizeLine_eq]; exact hl, hq _ _ (Post.dt (.str _))⟩
    · cases hf
  · rename_i i
    split at hf
    · rename_i hl
      cases hf
      exact .inr ⟨i, px.int, hl, hq _ _ (Post.dt (.str _))⟩
    · cases hf
  · cases hf
theorem se_fmt (ha : SE C ta ma) : SE C (tFmt ta) (mUn dFmt ma) := se_un (r := rFmt) p_fmt ha
def mJs : List ME → Str → ME
  | [], acc, e => some (.ok (.str acc) e)
  | m :: ms, acc, e => bnd (m e) fun x e1 => match x with
    | .str y => if (acc ++ y).length ≤ 16777216 then mJs ms (acc ++ y) e1 else none
    | _ => none
def mFs (ms : List ME) : ME := mJs ms Str.empty
def SJs (C : Cn) : List TE → List ME → Prop
  | [], [] => True
  | t :: ts, m :: ms => SE C t m ∧ SJs C ts ms
  | _, _ => False
theorem se_js : ∀ {ts : List TE} {ms : List ME}, SJs C ts ms → ∀ acc, SE C (fun σ H Q => tJs ts acc σ H fun out H1 => Q (.str out) H1) (mJs ms acc)
  | [], [], _, acc => by
    rintro B σ0 σ H env ts ⟨S, g⟩ r hm Q hq
    cases hm
    exact hq (.str acc) H (Good.prim (ts1 := []) (by rw [List.append_nil]; exact g) (Post.dt (.str acc)))
  | t :: tts, m :: mms, h, acc => by
    intro B σ0 σ H env ts R z hm Q hq
    rcases bnd_inv hm with ⟨x, e, h1, rfl⟩ | ⟨x, e1, h1, h2⟩
    · exact h.1 B σ0 σ H env ts R _ h1 _ hq
    · refine h.1 B σ0 σ H env ts R _ h1 _ fun v H1 R1 => ?_
      split at h2
      · rename_i y
        split at h2
        · rename_i hl
          obtain ⟨S, g⟩ := R1
          have hv : v = .str y := by
            rcases g.tmp ts.length v (.str y) (by simp) with ⟨k, e, _⟩ | ho
            · cases e
            · exact (ho.dt rfl).inv_str
          subst hv
          exact ⟨y, rfl, by rw [sizeLine_eq]; exact hl, se_js h.2 (acc ++ y) B σ0 σ H1 e1 ts (Rep.pop (ts1 := [(.str y, .str y)]) ⟨S, g⟩) _ h2 _ hq⟩
        · cases h2
      · cases h2
  | [], _ :: _, h, _ => h.elim
  | _ :: _, [], h, _ => h.elim
theorem se_fs {ts : List TE} {ms : List ME} (h : SJs C ts ms) : SE C (fun σ H Q => tJs ts Str.empty σ H fun out H1 => Q (.str out) H1) (mFs ms) := se_js h Str.empty
end
/-! ### defs with defaults -/
theorem se_callSD {C : Cn} {tr tr' : TA} {mr : MA} {mf : MF} {dvs : List V} (h : ∀ σ H R, tr σ H (fun vs H1 => R (vs ++ dvs) H1) = tr' σ H R) (ha : SA C tr' mr) : SE C (tCallSD (spM C.K mf) dvs (fun σ c o H => C.W c o σ H) tr) (mCall mf mr) := by
  intro B σ0 σ H env ts R z hm Q hq
  have := se_callS (mf := mf) ha B σ0 σ H env ts R z hm Q hq
  show tr σ H fun vs H1 => spM C.K mf (vs ++ dvs) H1 Q fun c o H => C.W c o σ H
  rw [h σ H fun vs H1 => spM C.K mf vs H1 Q fun c o H => C.W c o σ H]
  exact this
structure FunW (K : PySem.W.Frag) (x qual : Str) (st : Stmt) (dvs : List V) (f : Addr) (fd : FuncData) : Prop where
  ex : FunD K x qual (defArgs st) (defBody st) (defScope st) dvs [] f fd
  kp : PySem.W.keepIn K (.ref f) = true
section
open PySem.Spec PyProof.Rows
variable {P : Program} {w : World} {K : PySem.W.Frag} {mg : Str → Option Value} {base : Heap}
theorem FunW.okN {CX : CXT} {x qual : Str} {st : Stmt} {dvs : List V} {f : Addr} {fd : FuncData} {N ps : List Str} {k : Nat} {sp : Sp} (F : FunW K x qual st dvs f fd) (S : FnScope N ps (defScope st)) (len : ∀ vs H Q E, sp vs H Q E → vs.length = ps.length)
    (hbody : ∀ (cdv : Value) (A : Around) (outer : List PySem.Env) (s : Shared) (H : Hp) (vs : List V) (Q : VK) (E : XK), Room k (A.deeper (envOfC qual (defScope st) s.heap.objs.size f cdv)) → sp vs H Q E →
      ∃ t, PSs (cxOf CX P w K mg base N qual (defScope st) f cdv A outer s H E) (defBody st) t ∧ t { nx := fun _ H' => Q .non H', rt := Q } (start N vs) H) : FnOk P w K mg base CX (k + 1) f fd ps sp :=
  F.ex.ok S len hbody
end
end Q


namespace Q
open PySem L2
/-! ### reckoning: chains, texts -/
def kCh (r : Option (Rs D)) (f f' : D → D → Option D) (b c : ME) : Option (Rs D) := bnd r fun x e1 => bnd (b e1) fun y e2 => bnd (ap2 f x y e2) fun k e3 => match k with
  | .bl true => bnd (c e3) fun w e4 => ap2 f' y w e4
  | .bl false => some (.ok (.bl false) e3)
  | _ => none
def kCh2 (r : Option (Rs D)) (x : D) (f f' : D → D → Option D) (c : ME) : Option (Rs D) := bnd r fun y e2 => bnd (ap2 f x y e2) fun k e3 => match k with
  | .bl true => bnd (c e3) fun w e4 => ap2 f' y w e4
  | .bl false => some (.ok (.bl false) e3)
  | _ => none
def kCh3 (r : Option (Rs D)) (y : D) (f' : D → D → Option D) (c : ME) : Option (Rs D) := bnd r fun k e3 => match k with
  | .bl true => bnd (c e3) fun w e4 => ap2 f' y w e4
  | .bl false => some (.ok (.bl false) e3)
  | _ => none
theorem ev_chain (f f' : D → D → Option D) (a b c : ME) (e : Env) : mChain f f' a b c e = kCh (a e) f f' b c := nr rfl
theorem kCh_ok (x : D) (e : Env) (f f' : D → D → Option D) (b c : ME) : kCh (some (.ok x e)) f f' b c = kCh2 (b e) x f f' c := nr rfl
theorem kCh2_ok (x y : D) (e : Env) (f f' : D → D → Option D) (c : ME) : kCh2 (some (.ok y e)) x f f' c = kCh3 (ap2 f x y e) y f' c := nr rfl
theorem kCh3_t (y : D) (e : Env) (f' : D → D → Option D) (c : ME) : kCh3 (some (.ok (.bl true) e)) y f' c = kOp2 (c e) y f' := nr rfl
theorem kCh3_f (y : D) (e : Env) (f' : D → D → Option D) (c : ME) : kCh3 (some (.ok (.bl false) e)) y f' c = some (.ok (.bl false) e) := nr rfl
def kSt (r : Option (Rs D)) : Option (Rs (List D)) := bnd r fun x e1 => match res e1 x with
  | some (.str z) => some (.ok (signsD z) e1)
  | _ => none
theorem ev_sti (a : ME) (e : Env) : mStrI a e = kSt (a e) := nr rfl
theorem kSt_ok (z : Str) (e : Env) : kSt (some (.ok (.str z) e)) = some (.ok (signsD z) e) := nr rfl
theorem signs_st (l : List Nat) : signsD (st l) = l.map fun c => .str (st [c]) := by
  unfold signsD
  have : (st l).cps.toList = l := by simp [st]
  rw [this]
  rfl
theorem ev_fs (ms : List ME) (e : Env) : mFs ms e = mJs ms (st []) e := nr rfl
theorem ev_jnil (acc : Str) (e : Env) : mJs [] acc e = some (.ok (.str acc) e) := nr rfl
def kJs (r : Option (Rs D)) (acc : Str) (ms : List ME) : Option (Rs D) := bnd r fun x e1 => match x with
    | .str y => if (acc ++ y).length ≤ 16777216 then mJs ms (acc ++ y) e1 else none
    | _ => none
theorem ev_jcons (m : ME) (ms : List ME) (acc : Str) (e : Env) : mJs (m :: ms) acc e = kJs (m e) acc ms := nr rfl
theorem kJs_st {l m : List Nat} {e : Env} {ms : List ME} (h : (l ++ m).length ≤ 16777216) : kJs (some (.ok (.str (st m)) e)) (st l) ms = mJs ms (st (l ++ m)) e := by
  show (if (st l ++ st m).length ≤ 16777216 then mJs ms (st l ++ st m) e else none) = _
  rw [st_app, st_len, if_pos h]
theorem dFmt_st (l : List Nat) : dFmt (.str (st l)) = if l.length ≤ 16777216 then some (.str (st l)) else none := by
  simp only [dFmt, st_len]
theorem kR2_ok {i j : Int} {e : Env} (h : (-4611686018427387904 ≤ i ∧ i < 4611686018427387904) ∧ -4611686018427387904 ≤ j ∧ j < 4611686018427387904) : kR2 (some (.ok [.int i, .int j] e)) = some (.ok (rngD i (j - i).toNat) e) := by
  show (if _ then _ else _) = _
  rw [if_pos h]
/-- the signs of a text, asked one by one -/
theorem cl_signs {k : Nat} {el : ME} {e : Env} (f : Nat → Bool) (l : List Nat) (hl : l.length < 16777216) (hs : ∀ c ∈ l, ∃ e', el (e.set k (some (.str (st [c])))) = some (.ok (.bl (f c)) e') ∧ wipeE e' [k] = e) :
    mCl (gNm k) (fun e => some (.ok true e)) el [k] (l.map fun c => .str (st [c])) [] e = some (l.map (fun c => D.bl (f c)), e) := by
  have aux : ∀ (l : List Nat) (acc : List D), acc.length + l.length < 16777216 → (∀ c ∈ l, ∃ e', el (e.set k (some (.str (st [c])))) = some (.ok (.bl (f c)) e') ∧ wipeE e' [k] = e) →
      mCl (gNm k) (fun e => some (.ok true e)) el [k] (l.map fun c => .str (st [c])) acc e = some (acc ++ l.map (fun c => D.bl (f c)), e) := by
    intro l
    induction l with
    | nil => intro acc _ _; simp [cl_nil]
    | cons c l ih =>
      intro acc hl hs
      rw [List.length_cons] at hl
      obtain ⟨e', h1, h2⟩ := hs c (by simp)
      rw [List.map_cons, cl_cons, ev_nm, kQ_ok, kQ2_t, h1, kQ3_ok, tkf_fz (d := .bl (f c)) rfl, kQ4_ok (by omega), h2, ih _ (by rw [List.length_append]; simp; omega) fun x hx => hs x (List.mem_cons_of_mem _ hx)]
      simp
  simpa using aux l [] (by simpa using hl) hs
theorem dAll_bls (f : Nat → Bool) (l : List Nat) : dAll [.mls (l.map fun c => D.bl (f c))] = some (.bl (l.all f)) := by
  have h : (l.map fun c => D.bl (f c)).all isBl = true := by simp [isBl]
  simp only [dAll, lsD, h, if_true]
  congr 2
  induction l with
  | nil => rfl
  | cons c l ih => simp only [List.map_cons, List.all_cons, unBl]; rw [ih (by simp [isBl])]
end Q


namespace Q
open PySem L2 PySem.W PySem.Calls
/-! ### sorted(xs) of alike data -/
abbrev ltPair (p q : V × PyData) : Bool := dataLe false Prod.snd p q
def rSortX (K : PySem.W.Frag) : List V → Hp → VK → Prop := fun vs H Q => ∃ (a : Addr) (xs : List V) (ps : List PyData), vs = [.ref a] ∧ SqL K H a xs ∧ DpAll K H xs ps ∧ AllAlike ps ∧ Sortable ps ∧ (∀ d ∈ ps, d.depth ≤ 16) ∧
  ∀ p, H p = none → Q (.ref p) (upd H p (.lst (((xs.zip ps).mergeSort (dataLe false Prod.snd)).map Prod.fst)))
theorem each_zip {X : Cx} {pins : List (Addr × Obj)} {s : Shared} {σ : St} {H : Hp} (I : Inv X pins σ H s) : ∀ {xs : List V} {its : List Value} {ps : List PyData}, Vals xs its → DpAll X.K H xs ps →
    EachIs (fun v (b : V × PyData) => RelV b.1 v) its (xs.zip ps) ∧ EachIs (fun v (b : V × PyData) => ∃ as, Reads s.heap v b.2 as) its (xs.zip ps)
  | _, _, _, .nil, .nil => ⟨.nil, .nil⟩
  | _, _, _, .cons r1 r, .cons d1 d => by
    obtain ⟨h1, h2⟩ := each_zip I r d
    exact ⟨.cons r1 h1, .cons (Dp.reads I _ _ _ d1 r1) h2⟩
theorem each_vals : ∀ {out : List Value} {bs : List (V × PyData)}, EachIs (fun v (b : V × PyData) => RelV b.1 v) out bs → Vals (bs.map Prod.fst) out
  | _, _, .nil => .nil
  | _, _, .cons h t => .cons h (each_vals t)
theorem dpAll_len {K : PySem.W.Frag} {H : Hp} : ∀ {xs : List V} {ps : List PyData}, DpAll K H xs ps → xs.length = ps.length
  | _, _, .nil => rfl
  | _, _, .cons _ t => congrArg Nat.succ (dpAll_len t)
theorem snd_zip {α β : Type} : ∀ {xs : List α} {ps : List β}, xs.length = ps.length → (xs.zip ps).map Prod.snd = ps
  | [], [], _ => rfl
  | [], _ :: _, h => by cases h
  | _ :: _, [], h => by cases h
  | x :: xs, p :: ps, h => by simp only [List.zip_cons_cons, List.map_cons]; rw [snd_zip (Nat.succ.inj h)]
theorem cr_sortX {X : Cx} (hu : X.A.units + 64 < cLine) : CallR X (.builtin "sorted") (rSortX X.K) := by
  intro pins s σ H vs us Q I r h
  obtain ⟨a, xs, ps, rfl, hs, hd, hal, hso, hdep, q⟩ := h
  obtain ⟨its, rv, hl, hz⟩ := I.list hs
  rw [Vals.ref1 r]
  obtain ⟨e1, e2⟩ := each_zip I rv hd
  have hlen := dpAll_len hd
  have hsnd := snd_zip hlen
  have hzl : (xs.zip ps).length = xs.length := by rw [List.length_zip, ← hlen, Nat.min_self]
  refine sorted_data (bs := xs.zip ps) (enc := Prod.snd) hl.isList e1 e2 (by rw [hsnd]; exact hal) (by rw [hsnd]; exact hso) (by rw [hzl]; exact hz) (fun b hb => ?_) fun out hol heo => ?_
  · have hm : b.2 ∈ ps := by rw [← hsnd]; exact List.mem_map.mpr ⟨b, hb, rfl⟩
    have := hdep _ hm
    omega
  · obtain ⟨ep, he'⟩ := PyProof.Rows.sortedAll_at s.heap its out.toArray
    have hv := each_vals heo
    have hl2 : (((xs.zip ps).mergeSort (dataLe false Prod.snd)).map Prod.fst).length ≤ sizeLine := by
      rw [List.length_map, List.length_mergeSort, hzl]; exact hz
    exact ⟨.ref _, upd H (s.heap.objs.size + 1) (.lst (((xs.zip ps).mergeSort (dataLe false Prod.snd)).map Prod.fst)), I.laid (t' := s.toks) (fun _ _ => PyProof.Rows.sortedAll_old) (Nat.le_succ _) ⟨hl2, out, ep, hv, he'⟩, rfl, q _ (I.hok.fresh (Nat.le_succ _))⟩
/-! its mirror -/
def isTupP : PyData → Bool | .tuple (_ :: _) => true | _ => false
def noTupP : PyData → Bool | .none => false | .tuple _ => false | _ => true
def leD (d d' : D) : Bool := dataLe false D.toP d d'
def sortOk (ds : List D) : Bool := D.okPs ds && ((D.toPs ds).all fun p => (D.toPs ds).all fun q => alike p q) && ((D.toPs ds).all isTupP || (D.toPs ds).all noTupP) && (D.toPs ds).all (fun p => decide (p.depth ≤ 16))
def dSorted : List D → Option D
  | [x] => (match lsD x with | some ds => if sortOk ds = true then some (.mls (ds.mergeSort leD)) else none | none => none)
  | _ => none
theorem toPs_map : ∀ ds : List D, D.toPs ds = ds.map D.toP
  | [] => rfl
  | d :: ds => by rw [D.toPs, toPs_map ds]; rfl
theorem zip_map_sort (xs : List V) (ds : List D) : ((xs.zip (ds.map D.toP)).mergeSort (dataLe false Prod.snd)).map Prod.fst = ((xs.zip ds).mergeSort (fun p q => leD p.2 q.2)).map Prod.fst := by
  have e : xs.zip (ds.map D.toP) = (xs.zip ds).map fun p => (p.1, p.2.toP) := by
    rw [List.zip_map_right]; rfl
  rw [e, ← List.map_mergeSort (r := fun p q : V × D => leD p.2 q.2) (s := dataLe false Prod.snd) (f := fun p : V × D => (p.1, p.2.toP)) (fun a _ b _ => rfl), List.map_map]
  rfl
theorem snd_sort {xs : List V} {ds : List D} (h : xs.length = ds.length) : ((xs.zip ds).mergeSort (fun p q => leD p.2 q.2)).map Prod.snd = ds.mergeSort leD := by
  rw [List.map_mergeSort (s := leD) (fun a _ b _ => rfl), snd_zip h]
theorem DtA.of_pairs {K : KC} {ps : Addr → Prop} {H : Hp} {zs : List (V × D)} (h : ∀ p ∈ zs, Dt K ps H p.1 p.2) : DtA K ps H (zs.map Prod.fst) (zs.map Prod.snd) := by
  refine ⟨by simp, fun i x d e1 e2 => ?_⟩
  rw [List.getElem?_map] at e1 e2
  cases e : zs[i]? with
  | none => rw [e] at e1; cases e1
  | some p =>
    rw [e] at e1 e2
    cases e1; cases e2
    exact h p (List.mem_of_getElem? e)
theorem DtA.sort {K : KC} {ps : Addr → Prop} {H : Hp} {xs : List V} {ds : List D} (h : DtA K ps H xs ds) : DtA K ps H (((xs.zip (ds.map D.toP)).mergeSort (dataLe false Prod.snd)).map Prod.fst) (ds.mergeSort leD) := by
  rw [zip_map_sort, ← snd_sort h.1]
  refine DtA.of_pairs fun p hp => ?_
  have hp : p ∈ xs.zip ds := List.mem_mergeSort.mp hp
  obtain ⟨i, hi⟩ := List.mem_iff_getElem?.mp hp
  rw [List.getElem?_zip_eq_some] at hi
  exact h.2 i _ _ hi.1 hi.2
theorem p_sorted {K : KC} : PN K (rSortX K) dSorted := by
  intro ps H xs ds e Q ht p h hq
  unfold dSorted at h
  split at h
  · split at h
    · rename_i ds' hds
      split at h
      · rename_i hb
        cases h
        obtain ⟨x, rfl, px⟩ := p.one
        obtain ⟨a, xs, rfl, hs, hA⟩ := px.ls hds
        unfold sortOk at hb
        simp only [Bool.and_eq_true, Bool.or_eq_true, List.all_eq_true, decide_eq_true_eq] at hb
        obtain ⟨⟨⟨h1, h2⟩, h3⟩, h4⟩ := hb
        refine ⟨a, xs, D.toPs ds', rfl, hs, hA.dp h1, fun d hd d' hd' => h2 d hd d' hd', ?_, h4, fun p hp => hq _ _ ?_⟩
        · rcases h3 with h3 | h3
          · refine .inl fun d hd => ?_
            have := h3 d hd
            unfold isTupP at this
            split at this
            · exact ⟨_, _, rfl⟩
            · cases this
          · refine .inr fun d hd => ?_
            have := h3 d hd
            refine ⟨fun z => ?_, fun ys z => ?_⟩ <;> (subst z; cases this)
        · rw [toPs_map]
          exact Post.lst hp hA.sort
      · cases h
    · cases h
  · cases h
end Q


/-! if and for in a generator -/
namespace Q
open PySem PySem.Spec PyProof.Rows L2 GenW
section
variable {M : Model} {A : Around} {R : GenEnd} {Y : Protocol} {n : Nat} {s₀ : Shared} {c : Code} {fs : List Frame} {s : Shared} {env : PySem.Env}
  {K : Flow → Sem PySem.Fin} {H : Value → Sem PySem.Fin} {gd : Bool → Bool} {lv : List Value → List Value}
theorem seg_If {test : Expr} {body orelse : List Stmt} {pos : Pos}
    (h : wpAny M (A.over c fs) (isTrue test env (eval test env)) (fun b s' => if b = true then Seg M A R Y n s₀ c ((execs body env).wrap K H gd lv) fs s' else Seg M A R Y n s₀ c ((execs orelse env).wrap K H gd lv) fs s')
      (fun x s' => Seg M A R Y n s₀ c (H x) fs s') s) : Seg M A R Y n s₀ c ((exec (.If test body orelse pos) env).wrap K H gd lv) fs s := by
  rw [exec_If]
  show Seg M A R Y n s₀ c (.at pos fun _ => ((isTrue test env (eval test env)) >>= fun b => if b = true then execs body env else execs orelse env).wrap K H gd lv) fs s
  refine seg_at ?_
  rw [Sem.bind_eq_wrap', Sem.wrap_wrap]
  refine seg_wrap (wpAny_mono h (fun b s' h' => ?_) fun _ _ x => x)
  cases b with
  | true => rw [if_pos rfl] at h' ⊢; exact h'
  | false => rw [if_neg Bool.false_ne_true] at h' ⊢; exact h'
theorem seg_For {tg iter : Expr} {body orelse : List Stmt} {pos : Pos} (hs : ∀ x, foldedSetIterable iter env x = pure x)
    (h : wpAny M (A.over c fs) (eval iter env) (fun v s1 => wpAny M (A.over c fs) (pyIter v) (fun it s2 => ∀ p, Seg M A R Y n s₀ (.forLoop tg it body orelse env) (M.den (.forLoop tg it body orelse env))
      (.ret (fun r => ((match r with | .ok f => (.pure f : Sem Flow) | .error e => .raise e).onRaise (cameBack env)).wrap K H gd lv) none (gd false) (lv []) c p [] :: fs) s2)
      (fun x s' => Seg M A R Y n s₀ c (H x) fs s') s1) (fun x s' => Seg M A R Y n s₀ c (H x) fs s') s) :
    Seg M A R Y n s₀ c ((exec (.For tg iter body orelse pos) env).wrap K H gd lv) fs s := by
  rw [exec_For]
  show Seg M A R Y n s₀ c (.at pos fun _ => ((eval iter env) >>= fun x0 => foldedSetIterable iter env x0 >>= fun x => standAt iter.pos >>= fun _ => holding [x] (pyIter x) >>= fun it => runOwn (.forLoop tg it body orelse env) env).wrap K H gd lv) fs s
  refine seg_at ?_
  rw [Sem.bind_eq_wrap', Sem.wrap_wrap]
  refine seg_wrap (wpAny_mono h (fun v s1 h1 => ?_) fun _ _ x => x)
  rw [hs v]
  show Seg M A R Y n s₀ c (.at iter.pos fun _ => (holding [v] (pyIter v) >>= fun it => runOwn (.forLoop tg it body orelse env) env).wrap K H gd lv) fs s1
  refine seg_at ?_
  rw [Sem.bind_eq_wrap', Sem.wrap_wrap]
  refine seg_wrap (wpAny_holding (wpAny_mono h1 (fun it s2 h2 => ?_) fun _ _ x => x))
  exact seg_call h2
end
section
variable {prog : Program} {w : World} {A : Around} {R : GenEnd} {Y : Protocol} {n : Nat} {s₀ : Shared} {fs : List Frame} {s : Shared} {env : PySem.Env}
theorem seg_forLoop {tg : Expr} {it : Value} {body : List Stmt} {E : Value → Shared → Prop}
    (hE : ∀ x s', E x s' → Seg (model prog w) A R Y n s₀ (.forLoop tg it body [] env) ((do noteFrame x env; theTreesLotGoes x : Sem Unit).wrap (fun _ => .raise x) .raise id id) fs s')
    (h : wpAny (model prog w) (A.over (.forLoop tg it body [] env) fs) (pyNext it) (fun r s₁ => match r with
      | none => Seg (model prog w) A R Y n s₀ (.forLoop tg it body [] env) (.pure (.again (.block [] env))) fs s₁
      | some v => wpAny (model prog w) (A.over (.forLoop tg it body [] env) fs) (letOwnedTupleGo tg it v) (fun _ s₁' =>
          wpAny (model prog w) (A.over (.forLoop tg it body [] env) fs) (assign tg env v) (fun _ s₂ =>
            Seg (model prog w) A R Y n s₀ (.forLoop tg it body [] env) ((execs body env).wrap (fun f => match f with
              | .next | .cont => .pure (.again (.forLoop tg it body [] env))
              | .brk => .pure (.done .next)
              | .ret v => .pure (.done (.ret v))) (fun e => (do noteFrame e env; theTreesLotGoes e : Sem Unit).wrap (fun _ => .raise e) .raise id id) id id) fs s₂) E s₁') E s₁) E s) :
    Seg (model prog w) A R Y n s₀ (.forLoop tg it body [] env) ((model prog w).den (.forLoop tg it body [] env)) fs s := by
  show Seg _ A R Y n s₀ _ ((forTurn tg it body [] env).onRaise (fun x => do noteFrame x env; theTreesLotGoes x)) fs s
  have hE' : ∀ x s', E x s' → Seg (model prog w) A R Y n s₀ (.forLoop tg it body [] env) ((do noteFrame x env; theTreesLotGoes x : Sem Unit).bind fun _ => .raise x) fs s' := fun x s' hx => by
    rw [Sem.bind_eq_wrap]; exact hE x s' hx
  rw [Sem.onRaise_eq_wrap]
  unfold forTurn
  show Seg _ A R Y n s₀ _ (.at tg.pos fun _ => (((pyNext it).onRaise (fun _ => standAt { tg.pos with line := 0 })) >>= fun r => match r with
    | none => again (.block [] env)
    | some v => letOwnedTupleGo tg it v >>= fun _ => assign tg env v >>= fun _ => execs body env >>= fun f => match f with
      | .next | .cont => again (.forLoop tg it body [] env)
      | .brk => pure (.done .next)
      | .ret v => pure (.done (.ret v))).wrap _ _ _ _) fs s
  refine seg_at ?_
  rw [Sem.bind_eq_wrap', Sem.wrap_wrap]
  refine seg_wrap (wpAny_onRaise (wpAny_mono h (fun r s₁ h₁ => ?_) fun x s' hx => wpAny_standAt (hE' x s' hx)))
  cases r with
  | none => exact h₁
  | some v =>
    show Seg _ A R Y n s₀ _ ((letOwnedTupleGo tg it v >>= fun _ => assign tg env v >>= fun _ => execs body env >>= fun f => match f with
      | .next | .cont => again (.forLoop tg it body [] env)
      | .brk => pure (.done .next)
      | .ret v => pure (.done (.ret v))).wrap _ _ _ _) fs s₁
    rw [Sem.bind_eq_wrap', Sem.wrap_wrap]
    refine seg_wrap (wpAny_mono h₁ (fun _ s₁' h₁' => ?_) fun x s' hx => hE' x s' hx)
    rw [Sem.bind_eq_wrap', Sem.wrap_wrap]
    refine seg_wrap (wpAny_mono h₁' (fun _ s₂ h₂ => ?_) fun x s' hx => hE' x s' hx)
    rw [Sem.bind_eq_wrap', Sem.wrap_wrap]
    rw [Sem.wrap_congr (execs body env) _ _ (K' := fun f => match f with
            | .next | .cont => .pure (.again (.forLoop tg it body [] env))
            | .brk => .pure (.done .next)
            | .ret v => .pure (.done (.ret v))) (H' := (fun e => (do noteFrame e env; theTreesLotGoes e : Sem Unit).wrap (fun _ => .raise e) .raise id id))
        (fun f => by cases f <;> rfl)
        (fun e => by first | exact Sem.bind_eq_wrap _ _ | (show (do noteFrame e env; theTreesLotGoes e : Sem Unit).bind (fun _ => .raise e) = _; rw [Sem.bind_eq_wrap]))]
    exact h₂
theorem seg_block0 (h : Seg (model prog w) A R Y n s₀ (.block [] env) (.pure (.done .next)) fs s) : Seg (model prog w) A R Y n s₀ (.block [] env) ((model prog w).den (.block [] env)) fs s := h
end
section
variable {X : Cx}
def tGIf (c : TT) (t u : TGn) : TGn := fun D ys σ H => c σ H fun b H1 => if b = true then t D ys σ H1 else u D ys σ H1
theorem gs_if {test : Expr} {body orelse : List Stmt} {pos : Pos} {tc : TT} {t u : TGn} (hc : PT X test tc) (ht : GSs X body t) (hu : GSs X orelse u) : GS X (.If test body orelse pos) (tGIf tc t u) := by
  refine ⟨fun A S ip R n ys s₀ c fs K J gd lv s σ H D g hn k hI hq => ?_⟩
  refine seg_If ?_
  rw [g.over]
  obtain ⟨acc, cc, r, I⟩ := hI
  refine wpAny_mono (hc.run _ s σ H _ I hq) (fun b s' hb => ?_) fun x s' hx => k.exc n s₀ x s' hx
  obtain ⟨H2, I2, q2⟩ := hb
  cases b with
  | true =>
    rw [if_pos rfl] at q2 ⊢
    exact ht.run A S ip R n ys s₀ c fs K J gd lv s' σ H2 D g hn k ⟨acc, cc, r, I2⟩ q2
  | false =>
    rw [if_neg Bool.false_ne_true] at q2 ⊢
    exact hu.run A S ip R n ys s₀ c fs K J gd lv s' σ H2 D g hn k ⟨acc, cc, r, I2⟩ q2
def tGFor (wi : TI) (g : TG) (tb : TGn) : TGn := fun D ys σ H => wi σ H fun J H1 => ∃ W : Nat → Nat → List V → L2.St → Hp → Prop, (∃ m, W 0 m ys σ H1) ∧ ∀ i m ys σ H, W i m ys σ H →
  (J.stop i H ∧ D.nx ys σ H) ∨ (J.go i H ∧ ∃ N : List V → L2.St → Hp → Prop, (∀ ys' σ' H', N ys' σ' H' → ∃ m', m' < m ∧ W (i + 1) m' ys' σ' H') ∧ ∀ x H', J.yld i H x H' → g x σ H' fun σ2 H2 => tb { D with nx := N, ct := N, bk := D.nx } ys σ2 H2)
theorem gs_for {tg iter : Expr} {body : List Stmt} {wi : TI} {g : TG} {tb : TGn} {pos : Pos} (hp : PassesOwn (model X.prog X.w) X.A X.env X.xe) (hcm : X.calm = true) (hi : PI X tg iter wi) (hg : PG X tg g) (hb : GSs X body tb)
    (hs : ∀ x, foldedSetIterable iter X.env x = pure x := by intro _; rfl) : GS X (.For tg iter body [] pos) (tGFor wi g tb) := by
  refine ⟨fun A S ip R n ys s₀ c fs K J gd lv s σ H D gc hn k hI hq => ?_⟩
  refine seg_For hs ?_
  rw [gc.over]
  obtain ⟨acc, cc, r, I⟩ := hI
  refine wpAny_mono (hi.run _ s σ H _ I hq) (fun v s1 h1 => ?_) fun x s' hx => k.exc n s₀ x s' hx
  refine wpAny_mono h1 (fun itv s2 h2 => ?_) fun x s' hx => k.exc n s₀ x s' hx
  obtain ⟨it, fp, tn, Jt, H2, e, I2, T, st2, f2, W, ⟨m0, w0⟩, turn⟩ := h2
  subst e
  intro p
  have hSf : ∀ b ∈ fp, S ≠ b := fun b hb' => (f2 b hb').2.2.2.2.2 (S, lstObj acc cc) (List.mem_append_right _ List.mem_cons_self)
  have stat : ∀ {H' : Hp} {acc' : Array Value} {cc' : Nat}, (∀ b ∈ fp, H' b = none) → ∀ b ∈ fp, FpOk X ((S, lstObj acc' cc') :: ip) H' b := fun {H' acc' cc'} hn b hb' => by
    obtain ⟨_, z2, z3, z4, z5, z6⟩ := f2 b hb'
    refine ⟨hn b hb', z2, z3, z4, z5, fun q hq => ?_⟩
    rcases List.mem_append.mp hq with hq | hq
    · exact z6 q (List.mem_append_left _ hq)
    · rcases List.mem_cons.mp hq with rfl | hq
      · exact hSf b hb'
      · exact z6 q (List.mem_append_right _ (List.mem_cons_of_mem _ hq))
  have gl := fun (kk : Result → Sem PySem.Fin) => gc_loop (k := kk) (c' := .forLoop tg (.ref it) body [] X.env) (l := lv []) (kp := []) (p := p) gc rfl rfl
  have loop : ∀ (m i n : Nat) (ys : List V) (s₀ s : Shared) (σ : L2.St) (H : Hp), n + ys.length = sizeLine → W i m ys σ H → GI X S ip ys σ H s → tn i s.heap → (∀ b ∈ fp, H b = none) →
      Seg (model X.prog X.w) A R (GY X S) n s₀ (.forLoop tg (.ref it) body [] X.env) ((model X.prog X.w).den (.forLoop tg (.ref it) body [] X.env))
        (.ret (fun r => ((match r with | .ok f => (.pure f : Sem Flow) | .error e => .raise e).onRaise (cameBack X.env)).wrap K J gd lv) none (gd false) (lv []) c p [] :: fs) s := by
    intro m
    induction m using Nat.strongRecOn with
    | ind m ih =>
      intro i n ys s₀ s σ H hn w hI st3 fr3
      have ee : ∀ (n : Nat) (s₀ : Shared) (x : Value) (s' : Shared), X.xe x s' → Seg (model X.prog X.w) A R (GY X S) n s₀ (.forLoop tg (.ref it) body [] X.env)
          ((do noteFrame x X.env; theTreesLotGoes x : Sem Unit).wrap (fun _ => .raise x) .raise id id)
          (.ret (fun r => ((match r with | .ok f => (.pure f : Sem Flow) | .error e => .raise e).onRaise (cameBack X.env)).wrap K J gd lv) none (gd false) (lv []) c p [] :: fs) s' := fun n s₀ x s' hx => by
        refine seg_wrap ?_
        rw [(gl _).over]
        refine wpAny_bind (wpAny_mono (hp x s' hx) (fun _ s'' hcb => wpAny_theTreesLotGoes ?_) fun y s'' hcb => ?_)
        · exact seg_leaf (.error x) (seg_cameBack gc k hcb)
        · exact seg_leaf (.error y) (seg_cameBack gc k hcb)
      refine seg_forLoop (E := X.xe) (fun x s' hx => ee n s₀ x s' hx) ?_
      rw [(gl _).over]
      obtain ⟨acc, cc, r, I3⟩ := hI
      rcases turn i m ys σ H w with ⟨stop, qn⟩ | ⟨go, N, hN, step⟩
      · refine wpAny_mono (T.done X rfl rfl rfl hcm i _ s σ H X.xe I3 (stat fr3) st3 stop) (fun r' s4 h4 => ?_) fun x s' hx => hx
        obtain ⟨hr, I4⟩ := h4
        subst hr
        refine seg_again rfl (seg_block0 ?_)
        exact seg_leaf (.ok .next) (k.ok n ys s₀ s4 .next hn ⟨σ, H, ⟨acc, cc, r, I4⟩, qn⟩)
      · refine wpAny_mono (T.item X rfl rfl rfl hcm i _ s σ H X.xe I3 (stat fr3) st3 go) (fun r' s4 h4 => ?_) fun x s' hx => hx
        obtain ⟨u, hr, h4⟩ := h4
        subst hr
        refine wpAny_mono h4 (fun _ s5 h5 => ?_) fun x s' hx => hx
        obtain ⟨x, H5, I5, r5, y5, st5, fr5⟩ := h5
        have I5' := I5.pinned (stat fr5) (T.obj _ _ st5)
        refine wpAny_mono (hg.run _ s5 σ H5 x u _ I5' r5 (step x H5 y5)) (fun _ s6 h6 => ?_) fun x s' hx => hx
        obtain ⟨σ6, H6, I6, q6⟩ := h6
        have gc' : GC X S (ip ++ pinsAt fp s5.heap) A (.forLoop tg (.ref it) body [] X.env) (.ret (fun r => ((match r with | .ok f => (.pure f : Sem Flow) | .error e => .raise e).onRaise (cameBack X.env)).wrap K J gd lv) none (gd false) (lv []) c p [] :: fs) id := by
          have g0 := gl (fun r => ((match r with | .ok f => (.pure f : Sem Flow) | .error e => .raise e).onRaise (cameBack X.env)).wrap K J gd lv)
          refine ⟨g0.pn, fun q hq => ?_, g0.apart, g0.over, g0.split, g0.guard, g0.gd⟩
          rcases List.mem_append.mp hq with hq | hq
          · exact g0.ip q hq
          · exact (hSf q.1 (of_pinsAt hq).1).symm
        refine hb.run A S (ip ++ pinsAt fp s5.heap) R n ys s₀ _ _ _ _ id id s6 σ6 H6 { D with nx := N, ct := N, bk := D.nx } gc' hn ⟨fun n' ys' s₀' s7 f hn' hs' => ?_, fun n' s₀' x s7 hx => ee n' s₀' x s7 hx⟩ ⟨acc, cc, r, by simpa using I6⟩ q6
        have back : ∀ {σ7 : L2.St} {H7 : Hp}, GI X S (ip ++ pinsAt fp s5.heap) ys' σ7 H7 s7 → GI X S ip ys' σ7 H7 s7 ∧ tn (i + 1) s7.heap ∧ ∀ b ∈ fp, H7 b = none := fun {σ7 H7} hI7 => by
          obtain ⟨acc7, c7, r7, I7⟩ := hI7
          have I7' : Inv X (((S, lstObj acc7 c7) :: ip) ++ pinsAt fp s5.heap) σ7 H7 s7 := by simpa using I7
          refine ⟨⟨acc7, c7, r7, I7'.unpinned⟩, T.keep _ _ _ st5 fun b hb' o e => (I7'.pin (b, o) (List.mem_append_right _ (List.mem_append_right _ (mem_pinsAt hb' e)))).1, fun b hb' => ?_⟩
          obtain ⟨o, e, d⟩ := T.obj _ _ st5 b hb'
          exact (I7'.pin (b, o) (List.mem_append_right _ (List.mem_append_right _ (mem_pinsAt hb' e)))).2.1
        cases f with
        | next =>
          obtain ⟨σ7, H7, I7, n7⟩ := hs'
          obtain ⟨b1, b2, b3⟩ := back I7
          obtain ⟨m', hm, w7⟩ := hN ys' σ7 H7 n7
          exact seg_again rfl (ih m' hm (i + 1) n' ys' s₀' s7 σ7 H7 hn' w7 b1 b2 b3)
        | cont =>
          obtain ⟨σ7, H7, I7, n7⟩ := hs'
          obtain ⟨b1, b2, b3⟩ := back I7
          obtain ⟨m', hm, w7⟩ := hN ys' σ7 H7 n7
          exact seg_again rfl (ih m' hm (i + 1) n' ys' s₀' s7 σ7 H7 hn' w7 b1 b2 b3)
        | brk =>
          obtain ⟨σ7, H7, I7, q7⟩ := hs'
          exact seg_leaf (.ok .next) (k.ok n' ys' s₀' s7 .next hn' ⟨σ7, H7, (back I7).1, q7⟩)
        | ret v =>
          obtain ⟨x7, σ7, H7, I7, r7, q7⟩ := hs'
          exact seg_leaf (.ok (.ret v)) (k.ok n' ys' s₀' s7 (.ret v) hn' ⟨x7, σ7, H7, (back I7).1, r7, q7⟩)
  exact loop m0 0 n ys s₀ s2 σ H2 hn w0 ⟨acc, cc, r, I2⟩ st2 fun b hb' => (f2 b hb').1
end
end Q


namespace Q
open PySem L2
/-! ### generators: what they hand out -/
abbrev MY := Env → List D → Option (Fl × Env × List D)
def y0 : MY := fun e ds => some (.nx, e, ds)
def ySeq (a b : MY) : MY := fun e ds => match a e ds with
  | some (.nx, e1, d1) => b e1 d1
  | r => r
def yPlain (m : MS) : MY := fun e ds => match m e with
  | some (.ok .nx e1) => some (.nx, e1, ds)
  | some (.ok .bk e1) => some (.bk, e1, ds)
  | some (.ok .ct e1) => some (.ct, e1, ds)
  | some (.ok (.rt .non) e1) => some (.rt .non, e1, ds)
  | _ => none
def yIf (c : MT) (a b : MY) : MY := fun e ds => match c e with
  | some (.ok true e1) => a e1 ds
  | some (.ok false e1) => b e1 ds
  | _ => none
def yYield (a : ME) : MY := fun e ds => match a e with
  | some (.ok x e1) => (match tkf x e1 with
    | some (y, e2) => if ds.length < 16777216 then some (.nx, e2, ds ++ [y]) else none
    | none => none)
  | _ => none
def yLoop (g : MG) (b : MY) : List D → Env → List D → Option (Fl × Env × List D)
  | [], e, ds => some (.nx, e, ds)
  | x :: xs, e, ds => match g x e with
    | some e1 => (match b e1 ds with
      | some (.nx, e2, d2) => yLoop g b xs e2 d2
      | some (.ct, e2, d2) => yLoop g b xs e2 d2
      | some (.bk, e2, d2) => some (.nx, e2, d2)
      | some (.rt d, e2, d2) => some (.rt d, e2, d2)
      | none => none)
    | none => none
def yFor (i : MI) (g : MG) (b : MY) : MY := fun e ds => match i e with
  | some (.ok xs e1) => yLoop g b xs e1 ds
  | _ => none
def FrZ (fr : List (V × D)) : Prop := ∀ p ∈ fr, isFz p.2 = true
theorem FrZ.noAl {fr : List (V × D)} (h : FrZ fr) : NoAl fr := fun p hp => by
  have := h p hp
  obtain ⟨v, d⟩ := p
  cases d <;> first | rfl | cases this
section
variable {C : Cn} {B : Bs} {σ0 σ : St} {H H1 : Hp} {env env1 : Env} {ts ts1 : List (V × D)} {S : Ix → Addr → Prop} {v : V} {d : D}
/-- temporaries that are all data, in any order -/
theorem Rep.frz (r : Rep C B σ0 H σ env ts) (hz : FrZ ts) (hs : ∀ p ∈ ts1, p ∈ ts) : Rep C B σ0 H σ env ts1 := by
  obtain ⟨S, g⟩ := r
  let U : Ix → Addr → Prop := fun i a => S i a ∧ ∃ j, i = .inl j
  have hU : ∀ a, pset B U a → pset B S a := by
    rintro a (h | ⟨i, h, _⟩)
    · exact .inl h
    · exact .inr ⟨i, h⟩
  refine ⟨U, g.kp, g.fr, fun i a h => g.sub i a h.1, fun i a h => g.trk i a h.1, fun i j a h1 h2 => g.dis i j a h1.1 h2.1, g.len, g.keep, fun i d e => ?_, fun j v d e => ?_, fun p hp => (g.hld p hp).move .refl fun a z => .inl (hU a z), g.fx⟩
  · obtain ⟨v, h1, h2⟩ := g.slot i d e
    exact ⟨v, h1, (h2.move .refl (fun a z => .inl (hU a z)) fun a _ => rfl).iff fun b => ⟨fun z => z.1, fun z => ⟨z, i, rfl⟩⟩⟩
  · have hm := hs _ (List.mem_of_getElem? e)
    obtain ⟨k, hk⟩ := List.mem_iff_getElem?.mp hm
    have hf := hz _ hm
    rcases g.tmp k v d hk with ⟨i, rfl, _⟩ | ho
    · cases hf
    · exact .inr (.fz ((ho.dt hf).move .refl fun a z => .inl (hU a z)) fun b z => by obtain ⟨_, i, z⟩ := z; cases z)
end
def YOk (C : Cn) (B : Bs) (σ0 : St) (fr : List (V × D)) (E : GEnds) : Fl × Env × List D → Prop
  | (.nx, e, ds) => (∀ d ∈ ds, isFz d = true) → ∀ vs σ' H', vs.length = ds.length → Rep C B σ0 H' σ' e (fr ++ vs.zip ds) → E.nx vs σ' H'
  | (.bk, e, ds) => (∀ d ∈ ds, isFz d = true) → ∀ vs σ' H', vs.length = ds.length → Rep C B σ0 H' σ' e (fr ++ vs.zip ds) → E.bk vs σ' H'
  | (.ct, e, ds) => (∀ d ∈ ds, isFz d = true) → ∀ vs σ' H', vs.length = ds.length → Rep C B σ0 H' σ' e (fr ++ vs.zip ds) → E.ct vs σ' H'
  | (.rt _, e, ds) => (∀ d ∈ ds, isFz d = true) → ∀ vs σ' H', vs.length = ds.length → Rep C B σ0 H' σ' e (fr ++ vs.zip ds) → E.rt vs .non H'
def SY (C : Cn) (t : TGn) (m : MY) : Prop := ∀ B σ0 σ H env fr vs ds, FrZ fr → (∀ d ∈ ds, isFz d = true) → vs.length = ds.length → Rep C B σ0 H σ env (fr ++ vs.zip ds) → ∀ r, m env ds = some r → ∀ E, YOk C B σ0 fr E r → t E vs σ H
theorem zip_frz {vs : List V} {ds : List D} (h : ∀ d ∈ ds, isFz d = true) : FrZ (vs.zip ds) := fun p hp => h p.2 (List.of_mem_zip hp).2
theorem FrZ.app {a b : List (V × D)} (h : FrZ a) (k : FrZ b) : FrZ (a ++ b) := fun p hp => by
  rcases List.mem_append.mp hp with hp | hp
  · exact h p hp
  · exact k p hp
section
variable {C : Cn} {te ta tb tc : TE} {ma mb mc : ME} {tt tu : TT} {mt mu : MT} {tr : TA} {mr : MA} {t u : TS} {ms mv : MS} {ty tz : TGn} {my mz : MY}
theorem sy_0 : SY C tG0 y0 := by
  intro B σ0 σ H env fr vs ds hf hd hl R r hm E hE
  cases hm
  exact hE hd vs σ H hl R
theorem sy_plain (h : SS C t ms) : SY C (tPlain t) (yPlain ms) := by
  intro B σ0 σ H env fr vs ds hf hd hl R r hm E hE
  have hna := (hf.app (zip_frz (vs := vs) hd)).noAl
  unfold yPlain at hm
  split at hm
  · rename_i e1 h1; cases hm
    exact h B σ0 σ H env _ R hna _ h1 _ fun σ' H' R' => hE hd vs σ' H' hl R'
  · rename_i e1 h1; cases hm
    exact h B σ0 σ H env _ R hna _ h1 _ fun σ' H' R' => hE hd vs σ' H' hl R'
  · rename_i e1 h1; cases hm
    exact h B σ0 σ H env _ R hna _ h1 _ fun σ' H' R' => hE hd vs σ' H' hl R'
  · rename_i e1 h1; cases hm
    refine h B σ0 σ H env _ R hna _ h1 _ fun v σ' H' ha R' => ?_
    have hv : v = .non := by
      obtain ⟨S, g⟩ := R'
      rcases g.tmp (fr ++ vs.zip ds).length v .non (by simp) with ⟨k, e, _⟩ | ho
      · cases e
      · exact (ho.dt rfl).inv_non
    subst hv
    exact hE hd vs σ' H' hl R'.pop
  · cases hm
theorem sy_seq (ha : SY C ty my) (hb : SY C tz mz) : SY C (tGThen ty tz) (ySeq my mz) := by
  intro B σ0 σ H env fr vs ds hf hd hl R r hm E hE
  unfold ySeq at hm
  split at hm
  · rename_i e1 d1 h1
    exact ha B σ0 σ H env fr vs ds hf hd hl R _ h1 _ fun hd1 vs' σ' H' hl' R' => hb B σ0 σ' H' e1 fr vs' d1 hf hd1 hl' R' _ hm E hE
  · rename_i hne
    refine ha B σ0 σ H env fr vs ds hf hd hl R r hm _ ?_
    obtain ⟨f, e, d'⟩ := r
    cases f with
    | nx => exact absurd hm (hne e d')
    | bk => exact hE
    | ct => exact hE
    | rt d => exact hE
theorem sy_if (hc : ST C tt mt) (ha : SY C ty my) (hb : SY C tz mz) : SY C (tGIf tt ty tz) (yIf mt my mz) := by
  intro B σ0 σ H env fr vs ds hf hd hl R r hm E hE
  unfold yIf at hm
  split at hm
  · rename_i e1 h1
    refine hc B σ0 σ H env _ R _ h1 _ fun H1 R1 => ?_
    rw [if_pos rfl]
    exact ha B σ0 σ H1 e1 fr vs ds hf hd hl R1 _ hm E hE
  · rename_i e1 h1
    refine hc B σ0 σ H env _ R _ h1 _ fun H1 R1 => ?_
    rw [if_neg Bool.false_ne_true]
    exact hb B σ0 σ H1 e1 fr vs ds hf hd hl R1 _ hm E hE
  · cases hm
theorem zip_snoc {vs : List V} {ds : List D} {v : V} {d : D} (h : vs.length = ds.length) : (vs ++ [v]).zip (ds ++ [d]) = vs.zip ds ++ [(v, d)] := by
  rw [List.zip_append h]; rfl
theorem sy_yield (ha : SE C ta ma) : SY C (tGYield ta) (yYield ma) := by
  intro B σ0 σ H env fr vs ds hf hd hl R r hm E hE
  unfold yYield at hm
  split at hm
  · rename_i x e1 h1
    split at hm
    · rename_i y e2 h2
      split at hm
      · rename_i hz
        cases hm
        refine ⟨by rw [hl, sizeLine_eq]; exact hz, ha B σ0 σ H env _ R _ h1 _ fun v H1 ⟨S, g⟩ => ?_⟩
        obtain ⟨S1, g1, hy⟩ := g.takenF (ts1 := []) h2
        have hyf : isFz y = true := by cases hy <;> rfl
        refine hE (fun d hd' => ?_) (vs ++ [v]) σ H1 (by simp [hl]) ?_
        · rcases List.mem_append.mp hd' with h | h
          · exact hd d h
          · simp at h; subst h; exact hyf
        · rw [zip_snoc hl, ← List.append_assoc]
          exact ⟨S1, g1⟩
      · cases hm
    · cases hm
  · cases hm
theorem sy_for {wi : TI} {mi : MI} {g : TG} {mg : MG} (hi : SI C wi mi) (hg : SG C g mg) (hb : SY C ty my) : SY C (tGFor wi g ty) (yFor mi mg my) := by
  intro B σ0 σ H env fr vs ds hf hd hl R z hm E hE
  unfold yFor at hm
  split at hm
  case h_2 => cases hm
  rename_i xs e1 h1
  refine hi B σ0 σ H env _ R _ h1 _ fun J H1 fr2 yd hfr2 R1 => ?_
  have hf2 : FrZ fr2 := hfr2
  have hff : FrZ (fr ++ fr2) := hf.app hf2
  have R1' : Rep C B σ0 H1 σ e1 ((fr ++ fr2) ++ vs.zip ds) := R1.frz ((hf.app (zip_frz hd)).app hf2) fun p hp => by
    simp only [List.mem_append] at hp ⊢
    rcases hp with (h | h) | h
    · exact .inl (.inl h)
    · exact .inr h
    · exact .inl (.inr h)
  refine ⟨fun i m vs' σ' H' => m = xs.length - i ∧ i ≤ xs.length ∧ ∃ e' ds', (∀ d ∈ ds', isFz d = true) ∧ vs'.length = ds'.length ∧ Rep C B σ0 H' σ' e' ((fr ++ fr2) ++ vs'.zip ds') ∧ yLoop mg my (xs.drop i) e' ds' = some z, ⟨xs.length, rfl, Nat.zero_le _, e1, ds, hd, hl, R1', hm⟩, ?_⟩
  rintro i m vs' σ' H' ⟨rfl, hil, e', ds', hd', hl', R', hz⟩
  obtain ⟨S, g'⟩ := R'
  have hdt : ∀ p ∈ fr2, Dt C.K (pset B S) H' p.1 p.2 := fun p hp => by
    have hm' : p ∈ (fr ++ fr2) ++ vs'.zip ds' := List.mem_append_left _ (List.mem_append_right _ hp)
    obtain ⟨k, hk⟩ := List.mem_iff_getElem?.mp hm'
    rcases g'.tmp k p.1 p.2 hk with ⟨i, e3, _⟩ | h
    · have := hf2 p hp; rw [e3] at this; cases this
    · exact h.dt (hf2 p hp)
  obtain ⟨y1, y2⟩ := yd (pset B S) H' (fun a z => g'.ptrk z) hdt i
  have out : ∀ {vs3 : List V} {ds3 : List D} {σ3 : St} {H3 : Hp} {e3 : Env}, (∀ d ∈ ds3, isFz d = true) → Rep C B σ0 H3 σ3 e3 ((fr ++ fr2) ++ vs3.zip ds3) → Rep C B σ0 H3 σ3 e3 (fr ++ vs3.zip ds3) := fun hd3 R3 => R3.frz (hff.app (zip_frz hd3)) fun p hp => by
    simp only [List.mem_append] at hp ⊢
    rcases hp with h | h
    · exact .inl (.inl h)
    · exact .inr h
  by_cases hlt : i < xs.length
  · obtain ⟨d, hdx⟩ : ∃ d, xs[i]? = some d := ⟨xs[i], by simp [hlt]⟩
    obtain ⟨hgo, hy⟩ := y1 d hdx
    have hdr : xs.drop i = d :: xs.drop (i + 1) := by
      have := List.drop_eq_getElem_cons hlt
      rw [this]
      congr 1
      have e9 : xs[i]? = some xs[i] := by simp [hlt]
      rw [hdx] at e9; cases e9; rfl
    rw [hdr] at hz
    simp only [yLoop] at hz
    split at hz
    · rename_i e2 h3
      refine .inr ⟨hgo, fun vs2 σ2 H2 => ∃ e3 ds3, (∀ d ∈ ds3, isFz d = true) ∧ vs2.length = ds3.length ∧ Rep C B σ0 H2 σ2 e3 ((fr ++ fr2) ++ vs2.zip ds3) ∧ yLoop mg my (xs.drop (i + 1)) e3 ds3 = some z, fun vs2 σ2 H2 ⟨e3, ds3, q0, q1, q2, q3⟩ => ⟨xs.length - (i + 1), by omega, rfl, hlt, e3, ds3, q0, q1, q2, q3⟩, fun v H2 yy => ?_⟩
      obtain ⟨k2, d2⟩ := hy v H2 yy
      have R2 : Rep C B σ0 H2 σ' e' ((fr ++ fr2) ++ vs'.zip ds' ++ [(v, d)]) := Good.prim (ts1 := []) (by rw [List.append_nil]; exact g') ⟨k2, fun _ => False, fun _ h => h.elim, .fz (d2.move .refl fun a z => .inl (z.resolve_right id)) fun _ h => h⟩
      have hda : isAl d = false := by cases d2 <;> rfl
      refine hg B σ0 σ' H2 e' _ v d e2 R2 hda (hff.app (zip_frz hd')).noAl h3 _ fun σ3 H3 R3 => ?_
      split at hz
      · rename_i e3 d3 h4
        exact hb B σ0 σ3 H3 e2 (fr ++ fr2) vs' ds' hff hd' hl' R3 _ h4 _ fun hd4 vs4 σ4 H4 hl4 R4 => ⟨e3, d3, hd4, hl4, R4, hz⟩
      · rename_i e3 d3 h4
        exact hb B σ0 σ3 H3 e2 (fr ++ fr2) vs' ds' hff hd' hl' R3 _ h4 _ fun hd4 vs4 σ4 H4 hl4 R4 => ⟨e3, d3, hd4, hl4, R4, hz⟩
      · rename_i e3 d3 h4
        cases hz
        exact hb B σ0 σ3 H3 e2 (fr ++ fr2) vs' ds' hff hd' hl' R3 _ h4 _ fun hd4 vs4 σ4 H4 hl4 R4 => hE hd4 vs4 σ4 H4 hl4 (out hd4 R4)
      · rename_i dd e3 d3 h4
        cases hz
        exact hb B σ0 σ3 H3 e2 (fr ++ fr2) vs' ds' hff hd' hl' R3 _ h4 _ fun hd4 vs4 σ4 H4 hl4 R4 => hE hd4 vs4 σ4 H4 hl4 (out hd4 R4)
      · cases hz
    · cases hz
  · have : i = xs.length := by omega
    subst this
    rw [List.drop_length] at hz
    cases hz
    exact .inl ⟨y2 (Nat.le_refl _), hE hd' vs' σ' H' hl' (out hd' ⟨S, g'⟩)⟩
end
/-! ### a generator def, and list(g(..)) -/
abbrev MYF := List D → Option (List D)
def spY (K : KC) (my : MYF) : SpG := fun vs H Q _ => ∃ (ps : Addr → Prop) (ds out : List D), vs.length = ds.length ∧ (∀ a, ps a → H a ≠ none) ∧ DtA K ps H vs ds ∧ my ds = some out ∧ ∀ ys H', Kp (fun _ => False) H H' → DtA K ps H' ys out → Q ys H'
def mGen (np nl : Nat) (body : MY) : MYF := fun ds => if ds.length = np ∧ ds.all isFz = true then (match body (ds.map some ++ List.replicate nl none) [] with
  | some (.nx, _, out) => some out
  | some (.rt _, _, out) => some out
  | _ => none) else none
theorem spY_len {K : KC} {np nl : Nat} {body : MY} (vs : List V) (H : Hp) (Q : List V → Hp → Prop) (E : XK) (h : spY K (mGen np nl body) vs H Q E) : vs.length = np := by
  obtain ⟨ps, ds, out, hl, _, _, hm, _⟩ := h
  unfold mGen at hm
  split at hm
  · rename_i hc; omega
  · cases hm
theorem body_gen {K : KC} {np nl : Nat} {asg : List Nat} {W : WX} {body : MY} {t : TGn} {N : List Str} {vs : List V} {H : Hp} {Q : List V → Hp → Prop} {E : XK} (hN : N.length = np + nl)
    (hb : SY (bC K W np asg) t body) (h : spY K (mGen np nl body) vs H Q E) : t { nx := fun ys _ H' => Q ys H', rt := fun ys v H' => v = .non ∧ Q ys H' } [] (L2.start N vs) H := by
  obtain ⟨ps, ds, out, hl, hps, hA, hm, hq⟩ := h
  unfold mGen at hm
  split at hm
  case isFalse => cases hm
  rename_i hc
  obtain ⟨hnp, hfz⟩ := hc
  have hvl : vs.length = np := by omega
  have hst : L2.start N vs = vs.map some ++ List.replicate nl none := by
    unfold L2.start
    rw [hN, hvl, Nat.add_sub_cancel_left]
  rw [hst]
  let B1 : Bs := ⟨ps, H, fun _ => False⟩
  have g1 : Good (bC K W np asg) B1 (vs.map some ++ List.replicate nl none) H (vs.map some ++ List.replicate nl none) (ds.map some ++ List.replicate nl none) [] (fun _ _ => False) := by
    refine ⟨.refl, fun a h => ⟨hps a h, fun z => z⟩, fun i a h => h.elim, fun i a h => h.elim, fun i j a h => h.elim, by simp [hl], ⟨fun _ _ => rfl, rfl⟩, fun i d e => ?_, fun j v d e => by simp at e, fun p hp => (nomatch hp), trivial⟩
    by_cases hi : i < np
    · rw [List.getElem?_append_left (by simp; omega), List.getElem?_map] at e
      cases e2 : ds[i]? with
      | none => rw [e2] at e; cases e
      | some d2 =>
        rw [e2] at e; cases e
        obtain ⟨x, hx, hdx⟩ := hA.get e2
        refine ⟨x, by rw [List.getElem?_append_left (by simp; omega), List.getElem?_map, hx]; rfl, .fz (hdx.move .refl fun a z => ?_) fun b z => z⟩
        rcases z with z | ⟨_, z⟩
        · exact .inl z
        · exact z.elim
    · rw [List.getElem?_append_right (by simp; omega), List.getElem?_replicate] at e
      split at e <;> cases e
  have fin : ∀ {vs' : List V} {σ' : St} {H' : Hp} {e' : Env}, vs'.length = out.length → (∀ d ∈ out, isFz d = true) → Rep (bC K W np asg) B1 (vs.map some ++ List.replicate nl none) H' σ' e' ([] ++ vs'.zip out) → Q vs' H' := by
    rintro vs' σ' H' e' hl' hf' ⟨S', g'⟩
    refine hq vs' H' g'.kp ⟨hl', fun i x d e1 e2 => ?_⟩
    have e3 : (vs'.zip out)[i]? = some (x, d) := by rw [List.getElem?_zip_eq_some]; exact ⟨e1, e2⟩
    rcases g'.tmp i x d (by simpa using e3) with ⟨k, e, _⟩ | ho
    · have := hf' d (List.mem_of_getElem? e2); rw [e] at this; cases this
    · exact (ho.dt (hf' d (List.mem_of_getElem? e2))).move .refl fun a z => .inl (.inl z)
  split at hm
  · rename_i e o h1
    cases hm
    exact hb B1 _ _ H _ [] [] [] (fun p hp => nomatch hp) (fun d hd => nomatch hd) rfl ⟨_, g1⟩ _ h1 _ fun hf vs' σ' H' hl' R' => fin hl' hf R'
  · rename_i d e o h1
    cases hm
    exact hb B1 _ _ H _ [] [] [] (fun p hp => nomatch hp) (fun d hd => nomatch hd) rfl ⟨_, g1⟩ _ h1 _ fun hf vs' σ' H' hl' R' => ⟨rfl, fin hl' hf R'⟩
  · cases hm
theorem Post.lst' {K : KC} {ps : Addr → Prop} {H H2 : Hp} {p : Addr} {xs : List V} {ds : List D} (k : Kp (fun _ => False) H H2) (hp : H2 p = none) (h : DtA K ps H2 xs ds) : Post K ps H (upd H2 p (.lst xs)) (.ref p) (.mls ds) :=
  ⟨k.trans (.new hp), fun a => a = p, fun a e => by subst e; exact ⟨k.dom _ hp, by rw [upd_same]; simp⟩, .mls upd_same (h.move (.new hp) fun a z => z.elim .inl fun e => .inr (by rw [e]; exact hp)) fun _ => Iff.rfl⟩
def mListG (my : MYF) (a : MA) : ME := fun e => bnd (a e) fun xs e1 => match tkfA xs e1 with
  | some (ys, e2) => (match my ys with | some out => some (.ok (.mls out) e2) | none => none)
  | none => none
section
variable {C : Cn} {tr : TA} {mr : MA}
theorem se_listG {my : MYF} (ha : SA C tr mr) : SE C (tListG (tCallG (spY C.K my) [] (fun _ _ _ => False) tr)) (mListG my mr) := by
  intro B σ0 σ H env ts R z hm Q hq
  rcases bnd_inv hm with ⟨x, e, h1, rfl⟩ | ⟨xs, e1, h1, h2⟩
  · exact ha B σ0 σ H env ts R _ h1 _ hq
  · refine ha B σ0 σ H env ts R _ h1 _ fun vs H1 hl ⟨S, g⟩ => ?_
    split at h2
    · rename_i ys e2 h3
      split at h2
      · rename_i out h4
        cases h2
        obtain ⟨S1, g1, hl1, hf⟩ := g.takenA hl h3
        have hA := g1.dtA hl1 hf
        refine ⟨pset B S1, ys, out, by rw [List.append_nil]; exact hl1, fun a z => g1.ptrk z, by rw [List.append_nil]; exact hA, h4, fun zs H' k hz p hp => ?_⟩
        exact hq _ _ (g1.prim (Post.lst' k hp hz))
      · cases h2
    · cases h2
end
section
open PySem.Spec PyProof.Rows
theorem passes0 {X : Cx} : Passes (CX X.prog X.w) X (fun _ _ _ => False) := fun _ _ _ _ _ _ _ h => by
  obtain ⟨_, _, _, _, _, _, _, _, _, _, _, _, z⟩ := h
  exact z.elim
theorem noStop0 {K : PySem.W.Frag} : NoStop K (fun _ _ _ => False) := fun _ _ _ h => h.elim
end
end Q


namespace Q
open PySem PySem.Spec PyProof.Rows L2
section
variable {P : Program} {w : World} {K : PySem.W.Frag} {mg : Str → Option Value} {base : Heap}
theorem Fun.genN {x qual : Str} {st : Stmt} {f : Addr} {fd : FuncData} {N ps : List Str} {k : Nat} {sp : SpG} (F : Fun K x qual st f fd) (S : GScope N ps (defScope st)) (len : ∀ vs H Q E, sp vs H Q E → vs.length = ps.length)
    (hbody : ∀ (cdv : Value) (A : Around) (outer : List PySem.Env) (s : Shared) (H : Hp) (vs : List V) (Q : List V → Hp → Prop) (E : XK) (pn : List (Addr × Obj)), Room k (A.deeper (envOfC qual (defScope st) s.heap.objs.size f cdv)) → sp vs H Q E →
      ∃ t, GSs (gcxOf P w K mg base N qual (defScope st) f cdv A outer s H E pn) (defBody st) t ∧ t { nx := fun ys _ H' => Q ys H', rt := fun ys v H' => v = .non ∧ Q ys H' } [] (start N vs) H) : GFn P w K mg base (k + 1) f fd ps sp := by
  obtain ⟨oc, od, kV, doc, pm, an, cdv, ct, osl, rfl, lk, hcd⟩ := F.ex
  exact gfn_of lk hcd S len fun A outer s H vs Q E pn hr hsp => hbody cdv A outer s H vs Q E pn hr hsp
end
/-! reckoning -/
theorem ev_y0 (e : Q.Env) (ds : List D) : y0 e ds = some (.nx, e, ds) := nr rfl
def kYs (r : Option (Fl × Q.Env × List D)) (b : MY) : Option (Fl × Q.Env × List D) := match r with
  | some (.nx, e1, d1) => b e1 d1
  | r => r
theorem ev_yseq (a b : MY) (e : Q.Env) (ds : List D) : ySeq a b e ds = kYs (a e ds) b := nr rfl
theorem kYs_nx (e : Q.Env) (ds : List D) (b : MY) : kYs (some (.nx, e, ds)) b = b e ds := nr rfl
def kYi (r : Option (Rs Bool)) (a b : MY) (ds : List D) : Option (Fl × Q.Env × List D) := match r with
  | some (.ok true e1) => a e1 ds
  | some (.ok false e1) => b e1 ds
  | _ => none
theorem ev_yif (c : MT) (a b : MY) (e : Q.Env) (ds : List D) : yIf c a b e ds = kYi (c e) a b ds := nr rfl
theorem kYi_t (e : Q.Env) (a b : MY) (ds : List D) : kYi (some (.ok true e)) a b ds = a e ds := nr rfl
theorem kYi_f (e : Q.Env) (a b : MY) (ds : List D) : kYi (some (.ok false e)) a b ds = b e ds := nr rfl
def kYy2 (r : Option (D × Q.Env)) (ds : List D) : Option (Fl × Q.Env × List D) := match r with
    | some (y, e2) => if ds.length < 16777216 then some (.nx, e2, ds ++ [y]) else none
    | none => none
def kYy (r : Option (Rs D)) (ds : List D) : Option (Fl × Q.Env × List D) := match r with
  | some (.ok x e1) => kYy2 (tkf x e1) ds
  | _ => none
theorem ev_yy (a : ME) (e : Q.Env) (ds : List D) : yYield a e ds = kYy (a e) ds := nr rfl
theorem kYy_ok (x : D) (e : Q.Env) (ds : List D) : kYy (some (.ok x e)) ds = kYy2 (tkf x e) ds := nr rfl
theorem kYy2_ok {y : D} {e : Q.Env} {ds : List D} (h : ds.length < 16777216) : kYy2 (some (y, e)) ds = some (.nx, e, ds ++ [y]) := by
  unfold kYy2; simp only [h, if_true]
def kYf (r : Option (Rs (List D))) (g : MG) (b : MY) (ds : List D) : Option (Fl × Q.Env × List D) := match r with
  | some (.ok xs e1) => yLoop g b xs e1 ds
  | _ => none
theorem ev_yfor (i : MI) (g : MG) (b : MY) (e : Q.Env) (ds : List D) : yFor i g b e ds = kYf (i e) g b ds := nr rfl
theorem kYf_ok (xs : List D) (e : Q.Env) (g : MG) (b : MY) (ds : List D) : kYf (some (.ok xs e)) g b ds = yLoop g b xs e ds := nr rfl
def kLg (r : Option (Rs (List D))) (my : MYF) : Option (Rs D) := bnd r fun xs e1 => match tkfA xs e1 with
  | some (ys, e2) => (match my ys with | some out => some (.ok (.mls out) e2) | none => none)
  | none => none
def kLg2 (r : Option (List D × Q.Env)) (my : MYF) : Option (Rs D) := match r with
  | some (ys, e2) => (match my ys with | some out => some (.ok (.mls out) e2) | none => none)
  | none => none
def kLg3 (r : Option (List D)) (e : Q.Env) : Option (Rs D) := match r with | some out => some (.ok (.mls out) e) | none => none
theorem ev_lg (my : MYF) (a : MA) (e : Q.Env) : mListG my a e = kLg (a e) my := nr rfl
theorem kLg_ok (xs : List D) (e : Q.Env) (my : MYF) : kLg (some (.ok xs e)) my = kLg2 (tkfA xs e) my := nr rfl
theorem kLg2_ok (ys : List D) (e : Q.Env) (my : MYF) : kLg2 (some (ys, e)) my = kLg3 (my ys) e := nr rfl
theorem kLg3_ok (out : List D) (e : Q.Env) : kLg3 (some out) e = some (.ok (.mls out) e) := nr rfl
/-- a generator's loop by an invariant -/
theorem yloop_inv {g : MG} {b : MY} (I : Nat → List D → Q.Env → Prop) : ∀ (xs : List D) (n : Nat) (e : Q.Env) (ds : List D), I n ds e → (∀ (k : Nat) (x : D) e ds, xs[k]? = some x → I (n + k) ds e → ∃ e1 f e2 ds2, g x e = some e1 ∧ b e1 ds = some (f, e2, ds2) ∧ (f = .nx ∨ f = .ct) ∧ I (n + k + 1) ds2 e2) →
    ∃ e' ds', yLoop g b xs e ds = some (.nx, e', ds') ∧ I (n + xs.length) ds' e'
  | [], n, e, ds, h0, _ => ⟨e, ds, rfl, h0⟩
  | x :: xs, n, e, ds, h0, hs => by
    obtain ⟨e1, f, e2, ds2, h1, h2, h3, h4⟩ := hs 0 x e ds rfl h0
    obtain ⟨e', ds', h5, h6⟩ := yloop_inv I xs (n + 1) e2 ds2 h4 fun k y e ds hk hI => by
      have := hs (k + 1) y e ds (by simpa using hk) (by rw [show n + (k + 1) = n + 1 + k by omega]; exact hI)
      rw [show n + (k + 1) = n + 1 + k by omega] at this
      exact this
    refine ⟨e', ds', ?_, by rw [List.length_cons, show n + (xs.length + 1) = n + 1 + xs.length by omega]; exact h6⟩
    simp only [yLoop, h1, h2]
    rcases h3 with rfl | rfl <;> exact h5
end Q


namespace Q
open PySem L2
def topS (i : Nat) : Stmt := PySem.Challenge.pw_quickways_k26_free_events_exchange.main.body.getD i (.Pass ⟨0, 0, 0, 0⟩)
abbrev s_l_pool : Stmt := topS 6
def nm_l_pool : List Str := ["_law_script"]
theorem sc_l_pool : FnScope nm_l_pool ["_law_script"] (defScope s_l_pool) := ⟨rfl, rfl, rfl, by decide +kernel, rfl, by decide +kernel, by decide +kernel⟩
abbrev s_l_mixed : Stmt := topS 7
def nm_l_mixed : List Str := ["_law_cell", "_law_turn", "_law_limit", "_law_first", "_law_second", "_law_third"]
theorem sc_l_mixed : FnScope nm_l_mixed ["_law_cell", "_law_turn", "_law_limit"] (defScope s_l_mixed) := ⟨rfl, rfl, rfl, by decide +kernel, rfl, by decide +kernel, by decide +kernel⟩
abbrev s_l_draw : Stmt := topS 8
def nm_l_draw : List Str := ["_law_pool_here", "_law_limit", "_law_digit", "_law_cell"]
theorem sc_l_draw : FnScope nm_l_draw ["_law_pool_here", "_law_limit"] (defScope s_l_draw) := ⟨rfl, rfl, rfl, by decide +kernel, rfl, by decide +kernel, by decide +kernel⟩
abbrev s_l_task : Stmt := topS 14
def nm_l_task : List Str := ["_law_pool_here", "_law_text", "_law_k", "_law_birth"]
theorem sc_l_task : FnScope nm_l_task ["_law_pool_here"] (defScope s_l_task) := ⟨rfl, rfl, rfl, by decide +kernel, rfl, by decide +kernel, by decide +kernel⟩
abbrev s_l_word : Stmt := topS 10
def nm_l_word : List Str := ["_law_pool_here", "_law_first", "_law_signs", "_law_more", "_law_word_here", "_law_k"]
theorem sc_l_word : FnScope nm_l_word ["_law_pool_here", "_law_first", "_law_signs", "_law_more"] (defScope s_l_word) := ⟨rfl, rfl, rfl, by decide +kernel, rfl, by decide +kernel, by decide +kernel⟩
abbrev s_l_kinds : Stmt := topS 9
def nm_l_kinds : List Str := []
theorem sc_l_kinds : FnScope nm_l_kinds [] (defScope s_l_kinds) := ⟨rfl, rfl, rfl, by decide +kernel, rfl, by decide +kernel, by decide +kernel⟩
abbrev s_l_fresh : Stmt := topS 11
def nm_l_fresh : List Str := ["_law_pool_here", "_law_used", "_law_letters", "_law_more", "_law_name", "_law_k"]
theorem sc_l_fresh : FnScope nm_l_fresh ["_law_pool_here", "_law_used"] (defScope s_l_fresh) := ⟨rfl, rfl, rfl, by decide +kernel, rfl, by decide +kernel, by decide +kernel⟩
abbrev s_l_cell_text : Stmt := topS 15
def nm_l_cell_text : List Str := ["_law_pool_here", "_law_choice"]
theorem sc_l_cell_text : FnScope nm_l_cell_text ["_law_pool_here"] (defScope s_l_cell_text) := ⟨rfl, rfl, rfl, by decide +kernel, rfl, by decide +kernel, by decide +kernel⟩
abbrev s_l_trace : Stmt := topS 16
def nm_l_trace : List Str := ["_law_pool_here", "_law_bound_here", "_law_tasks", "_law_k", "_law_spots", "_law_spot", "_law_own", "_law_trace_here", "_law_task_here", "_law_reads", "_law_writes", "_law_choice"]
theorem sc_l_trace : FnScope nm_l_trace ["_law_pool_here", "_law_bound_here"] (defScope s_l_trace) := ⟨rfl, rfl, rfl, by decide +kernel, rfl, by decide +kernel, by decide +kernel⟩
abbrev s_l_is_int : Stmt := topS 12
def nm_l_is_int : List Str := ["_law_thing"]
theorem sc_l_is_int : FnScope nm_l_is_int ["_law_thing"] (defScope s_l_is_int) := ⟨rfl, rfl, rfl, by decide +kernel, rfl, by decide +kernel, by decide +kernel⟩
abbrev s_l_same : Stmt := topS 13
def nm_l_same : List Str := ["_law_mine", "_law_due", "_law_k"]
theorem sc_l_same : FnScope nm_l_same ["_law_mine", "_law_due"] (defScope s_l_same) := ⟨rfl, rfl, rfl, by decide +kernel, rfl, by decide +kernel, by decide +kernel⟩
abbrev s_l_bound : Stmt := topS 17
def nm_l_bound : List Str := ["_law_one", "_law_other", "_law_spot"]
theorem sc_l_bound : FnScope nm_l_bound ["_law_one", "_law_other"] (defScope s_l_bound) := ⟨rfl, rfl, rfl, by decide +kernel, rfl, by decide +kernel, by decide +kernel⟩
abbrev s_free : Stmt := topS 2
def nm_free : List Str := ["one", "other", "cell"]
theorem sc_free : FnScope nm_free ["one", "other"] (defScope s_free) := ⟨rfl, rfl, rfl, by decide +kernel, rfl, by decide +kernel, by decide +kernel⟩
abbrev s_l_exchanged : Stmt := topS 19
def nm_l_exchanged : List Str := ["_law_trace_here", "_law_found", "_law_at"]
theorem sc_l_exchanged : FnScope nm_l_exchanged ["_law_trace_here"] (defScope s_l_exchanged) := ⟨rfl, rfl, rfl, by decide +kernel, rfl, by decide +kernel, by decide +kernel⟩
abbrev s_l_records : Stmt := topS 18
def nm_l_records : List Str := ["_law_pool_here", "_law_trace_here", "_law_records_here", "_law_event", "_law_action", "_law_failed", "_law_name"]
theorem sc_l_records : FnScope nm_l_records ["_law_pool_here", "_law_trace_here"] (defScope s_l_records) := ⟨rfl, rfl, rfl, by decide +kernel, rfl, by decide +kernel, by decide +kernel⟩
abbrev s_trace_of : Stmt := topS 1
def nm_trace_of : List Str := ["records", "record"]
theorem sc_trace_of : FnScope nm_trace_of ["records"] (defScope s_trace_of) := ⟨rfl, rfl, rfl, by decide +kernel, rfl, by decide +kernel, by decide +kernel⟩
abbrev s_exchanged : Stmt := topS 3
def nm_exchanged : List Str := ["trace", "at"]
theorem sc_exchanged : FnScope nm_exchanged ["trace", "at"] (defScope s_exchanged) := ⟨rfl, rfl, rfl, by decide +kernel, rfl, by decide +kernel, by decide +kernel⟩
abbrev s_exchanges : Stmt := topS 4
def nm_exchanges : List Str := ["trace", "at"]
theorem sc_exchanges : GScope nm_exchanges ["trace"] (defScope s_exchanges) := ⟨rfl, rfl, rfl, by decide +kernel, rfl, by decide +kernel, by decide +kernel⟩
abbrev s_law : Stmt := topS 20
def nm_law : List Str := ["_law_script", "_law_pool_here", "_law_traces", "_law_events", "_law_first", "_law_second", "_law_k", "_law_trace_here", "_law_records_here", "_law_given"]
theorem sc_law : FnScope nm_law ["_law_script"] (defScope s_law) := ⟨rfl, rfl, rfl, by decide +kernel, rfl, by decide +kernel, by decide +kernel⟩
/-! classes -/
/-! the mirrors -/
def mb_l_pool : MS :=
    (mRet 1 (mLst (mCons (mCB dList (mCons (mVar 0) mNil)) (mCons (mC (.int 0)) (mCons (mC (.int 0)) (mCons (mC (.int 0)) (mCons (mC (.int 0)) mNil)))))))
def m_l_pool : MF := mFun 1 0 [] mb_l_pool
def mb_l_mixed : MS :=
    (mSeq (mAsg (mOp dMod (mCB dInt (mCons (mOp dAdd (mOp dAdd (mOp dMul (mVar 0) (mC (.int 48271))) (mOp dMul (mVar 1) (mC (.int 69621)))) (mC (.int 11))) mNil)) (mC (.int 2147483647))) (gNm 3))
    (mSeq (mAsg (mOp dMod (mCB dInt (mCons (mOp dAdd (mOp dAdd (mOp dMul (mVar 3) (mC (.int 40692))) (mOp dMul (mVar 0) (mC (.int 16807)))) (mOp dMul (mVar 1) (mC (.int 30269)))) mNil)) (mC (.int 2147483399))) (gNm 4))
    (mSeq (mAsg (mOp dMod (mCB dInt (mCons (mOp dAdd (mOp dMul (mVar 4) (mC (.int 39373))) (mOp dDiv (mVar 3) (mC (.int 7)))) mNil)) (mC (.int 1000000007))) (gNm 5))
    (mRet 3 (mOp dMod (mCB dInt (mCons (mVar 5) mNil)) (mVar 2))))))
def m_l_mixed : MF := mFun 3 3 [] mb_l_mixed
def mb_l_draw : MS :=
    (mSeq (mIfS (mTest (mOp dGt (mOp dIx (mVar 0) (mC (.int 2))) (mC (.int 0)))) (mSeq (mAsg (mOp dMod (mCB dInt (mCons (mOp dIx (mVar 0) (mC (.int 2))) mNil)) (mVar 1)) (gNm 2))
    (mSeq (mAsg (mOp dDiv (mOp dIx (mVar 0) (mC (.int 2))) (mVar 1)) (gIx 0 (mC (.int 2))))
    (mRet 2 (mVar 2)))) mNext)
    (mSeq (mIfS (mTest (mOp dGt (mOp dIx (mVar 0) (mC (.int 4))) (mC (.int 0)))) (mSeq (mAsg (mOp dSub (mOp dIx (mVar 0) (mC (.int 4))) (mC (.int 1))) (gIx 0 (mC (.int 4))))
    (mRet 2 (mCall m_l_mixed (mCons (mOp dIx (mVar 0) (mC (.int 3))) (mCons (mOp dIx (mVar 0) (mC (.int 4))) (mCons (mVar 1) mNil)))))) mNext)
    (mSeq (mIfS (mTest (mOp dGe (mOp dIx (mVar 0) (mC (.int 1))) (mCB dLen (mCons (mOp dIx (mVar 0) (mC (.int 0))) mNil)))) (mRet 2 (mC (.int 0))) mNext)
    (mSeq (mAsg (mOp dIx (mOp dIx (mVar 0) (mC (.int 0))) (mOp dIx (mVar 0) (mC (.int 1)))) (gNm 3))
    (mSeq (mAsg (mOp dAdd (mOp dIx (mVar 0) (mC (.int 1))) (mC (.int 1))) (gIx 0 (mC (.int 1))))
    (mSeq (mIfS (mTest (mOp dLt (mVar 3) (mC (.int 0)))) (mAsg (mOp dSub (mUn dNeg (mC (.int 1))) (mVar 3)) (gNm 3)) mNext)
    (mSeq (mIfS (mTest (mOp dGe (mVar 3) (mOp dPow (mC (.int 10)) (mC (.int 18))))) (mSeq (mAsg (mOp dDiv (mVar 3) (mVar 1)) (gIx 0 (mC (.int 2))))
    (mRet 2 (mOp dMod (mCB dInt (mCons (mVar 3) mNil)) (mVar 1)))) mNext)
    (mSeq (mAsg (mVar 3) (gIx 0 (mC (.int 3))))
    (mSeq (mAsg (mC (.int 7)) (gIx 0 (mC (.int 4))))
    (mRet 2 (mCall m_l_mixed (mCons (mVar 3) (mCons (mC (.int 7)) (mCons (mVar 1) mNil))))))))))))))
def m_l_draw : MF := mFun 2 2 [] mb_l_draw
def lb_l_task_1 : MS :=
    (mSeq (mAsg (mOp dAdd (mC (.int 1)) (mCall m_l_draw (mCons (mVar 0) (mCons (mC (.int 3)) mNil)))) (gNm 3))
    (mSeq (mIfS (mTest (mOp dEq (mCall m_l_draw (mCons (mVar 0) (mCons (mC (.int 5)) mNil))) (mC (.int 4)))) (mAsg (mOp dAdd (mC (.int 1)) (mCall m_l_draw (mCons (mVar 0) (mCons (mC (.int 120)) mNil)))) (gNm 3)) mNext)
    (mAsg (mOp dAdd (mOp dAdd (mVar 1) (mC (.str (st [46])))) (mCB dStr (mCons (mVar 3) mNil))) (gNm 1))))
def mb_l_task : MS :=
    (mSeq (mAsg (mC (.str (st [48]))) (gNm 1))
    (mSeq (mFor (mRng1 (mCons (mCall m_l_draw (mCons (mVar 0) (mCons (mC (.int 4)) mNil))) mNil)) (gNm 2) lb_l_task_1)
    (mRet 1 (mVar 1))))
def m_l_task : MF := mFun 1 3 [] mb_l_task
def lb_l_word_1 : MS :=
    (mAsg (mOp dAdd (mVar 4) (mOp dIx (mVar 2) (mCall m_l_draw (mCons (mVar 0) (mCons (mCB dLen (mCons (mVar 2) mNil)) mNil))))) (gNm 4))
def mb_l_word : MS :=
    (mSeq (mAsg (mOp dIx (mVar 1) (mCall m_l_draw (mCons (mVar 0) (mCons (mCB dLen (mCons (mVar 1) mNil)) mNil)))) (gNm 4))
    (mSeq (mFor (mRng1 (mCons (mVar 3) mNil)) (gNm 5) lb_l_word_1)
    (mRet 4 (mVar 4))))
def m_l_word : MF := mFun 4 2 [] mb_l_word
def mb_l_kinds : MS :=
    (mRet 0 (mLst (mCons (mC (.str (st [97, 110, 121]))) (mCons (mC (.str (st [110, 117, 109]))) (mCons (mC (.str (st [110, 97, 116]))) (mCons (mC (.str (st [115, 109, 97, 108, 108]))) (mCons (mC (.str (st [100, 105, 103, 105, 116]))) (mCons (mC (.str (st [98, 105, 116]))) (mCons (mC (.str (st [119, 111, 114, 100]))) mNil)))))))))
def m_l_kinds : MF := mFun 0 0 [] mb_l_kinds
def lb_l_fresh_1 : MS :=
    (mSeq (mIfS (mAnd (mTest (mOp dNotIn (mVar 4) (mVar 1))) (mAnd (mTest (mOp dNotIn (mVar 4) (mCall m_l_kinds mNil))) (mTest (mOp dNotIn (mVar 4) (mLst (mCons (mC (.str (st [108, 101, 110, 116]))) (mCons (mC (.str (st [109, 97, 105, 110]))) mNil))))))) (mRet 2 (mVar 4)) mNext)
    (mAsg (mOp dAdd (mSl dSl (mVar 4) mNoPart (mPart (mC (.int 4)))) (mCB dStr (mCons (mVar 5) mNil))) (gNm 4)))
def mb_l_fresh : MS :=
    (mSeq (mAsg (mC (.str (st [97, 98, 99, 100, 101, 102, 103, 104, 105, 106, 107, 108, 109, 110, 111, 112, 113, 114, 115, 116, 117, 118, 119, 120, 121, 122]))) (gNm 2))
    (mSeq (mAsg (mCall m_l_draw (mCons (mVar 0) (mCons (mC (.int 3)) mNil))) (gNm 3))
    (mSeq (mIfS (mTest (mOp dEq (mVar 3) (mC (.int 2)))) (mAsg (mCall m_l_draw (mCons (mVar 0) (mCons (mC (.int 6)) mNil))) (gNm 3)) mNext)
    (mSeq (mAsg (mCall m_l_word (mCons (mVar 0) (mCons (mVar 2) (mCons (mOp dAdd (mVar 2) (mC (.str (st [48, 49, 50, 51, 52, 53, 54, 55, 56, 57])))) (mCons (mVar 3) mNil))))) (gNm 4))
    (mSeq (mFor (mRng1 (mCons (mC (.int 60)) mNil)) (gNm 5) lb_l_fresh_1)
    (mRet 2 (mVar 4)))))))
def m_l_fresh : MF := mFun 2 4 [] mb_l_fresh
def mb_l_cell_text : MS :=
    (mSeq (mAsg (mCall m_l_draw (mCons (mVar 0) (mCons (mC (.int 4)) mNil))) (gNm 1))
    (mSeq (mIfS (mTest (mOp dEq (mVar 1) (mC (.int 0)))) (mRet 1 (mC (.str (st [97, 110, 115, 119, 101, 114, 115])))) mNext)
    (mSeq (mIfS (mTest (mOp dEq (mVar 1) (mC (.int 1)))) (mRet 1 (mOp dAdd (mC (.str (st [116, 97, 115, 107, 32]))) (mCall m_l_task (mCons (mVar 0) mNil)))) mNext)
    (mRet 1 (mCall m_l_fresh (mCons (mVar 0) (mCons (mLst mNil) mNil)))))))
def m_l_cell_text : MF := mFun 1 1 [] mb_l_cell_text
def lb_l_trace_1 : MS :=
    (mDrop (mApp 2 (mCall m_l_task (mCons (mVar 0) mNil))))
def lb_l_trace_2 : MS :=
    (mSeq (mAsg (mCall m_l_cell_text (mCons (mVar 0) mNil)) (gNm 5))
    (mIfS (mTest (mOp dNotIn (mVar 5) (mVar 4))) (mDrop (mApp 4 (mVar 5))) mNext))
def lb_l_trace_3 : MS :=
    (mSeq (mAsg (mCall m_l_draw (mCons (mVar 0) (mCons (mC (.int 7)) mNil))) (gNm 11))
    (mSeq (mIfS (mOr (mTest (mOp dEq (mVar 11) (mC (.int 1)))) (mTest (mOp dEq (mVar 11) (mC (.int 2))))) (mDrop (mApp 9 (mVar 5))) mNext)
    (mIfS (mAnd (mOr (mTest (mOp dEq (mVar 11) (mC (.int 2)))) (mTest (mOp dEq (mVar 11) (mC (.int 3))))) (mTest (mOp dNotIn (mVar 5) (mVar 10)))) (mDrop (mApp 10 (mVar 5))) mNext)))
def lb_l_trace_4 : MS :=
    (mSeq (mAsg (mOp dIx (mVar 2) (mCall m_l_draw (mCons (mVar 0) (mCons (mCB dLen (mCons (mVar 2) mNil)) mNil)))) (gNm 8))
    (mSeq (mAsg (mLst mNil) (gNm 9))
    (mSeq (mAsg (mLst mNil) (gNm 10))
    (mSeq (mIfS (mTest (mOp dEq (mVar 6) (mC (.int 1)))) (mDrop (mApp 10 (mOp dAdd (mC (.str (st [116, 97, 115, 107, 32]))) (mVar 8)))) mNext)
    (mSeq (mFor (mSeqI (mVar 4)) (gNm 5) lb_l_trace_3)
    (mDrop (mApp 7 (mTup (mCons (mVar 8) (mCons (mCB dTuple (mCons (mCB dSorted (mCons (mVar 9) mNil)) mNil)) (mCons (mCB dTuple (mCons (mCB dSorted (mCons (mVar 10) mNil)) mNil)) mNil)))))))))))
def mb_l_trace : MS :=
    (mSeq (mAsg (mLst mNil) (gNm 2))
    (mSeq (mFor (mRng1 (mCons (mOp dAdd (mC (.int 1)) (mCall m_l_draw (mCons (mVar 0) (mCons (mC (.int 4)) mNil)))) mNil)) (gNm 3) lb_l_trace_1)
    (mSeq (mAsg (mLst mNil) (gNm 4))
    (mSeq (mFor (mRng1 (mCons (mOp dAdd (mC (.int 1)) (mCall m_l_draw (mCons (mVar 0) (mCons (mC (.int 5)) mNil)))) mNil)) (gNm 3) lb_l_trace_2)
    (mSeq (mAsg (mCall m_l_draw (mCons (mVar 0) (mCons (mC (.int 2)) mNil))) (gNm 6))
    (mSeq (mAsg (mLst mNil) (gNm 7))
    (mSeq (mFor (mRng1 (mCons (mCall m_l_draw (mCons (mVar 0) (mCons (mOp dAdd (mVar 1) (mC (.int 1))) mNil))) mNil)) (gNm 3) lb_l_trace_4)
    (mRet 2 (mCB dTuple (mCons (mVar 7) mNil))))))))))
def m_l_trace : MF := mFun 2 10 [] mb_l_trace
def mb_l_is_int : MS :=
    (mRet 1 (mAndV (mCB dIsi (mCons (mVar 0) (mCons (mC (.cst (.ty "int"))) mNil))) (mNotV (mCB dIsi (mCons (mVar 0) (mCons (mC (.cst (.ty "bool"))) mNil))))))
def m_l_is_int : MF := mFun 1 0 [] mb_l_is_int
def lb_l_same_1 (mrec : MF) : MS :=
    (mIfS (mNot (mTru (mCall mrec (mCons (mOp dIx (mVar 0) (mVar 2)) (mCons (mOp dIx (mVar 1) (mVar 2)) mNil))))) (mRet 2 (mC (.bl false))) mNext)
def mb_l_same (mrec : MF) : MS :=
    (mSeq (mIfS (mTest (mOp dIs (mVar 1) (mC .non))) (mRet 2 (mOp dIs (mVar 0) (mC .non))) mNext)
    (mSeq (mIfS (mTru (mCB dIsi (mCons (mVar 1) (mCons (mC (.cst (.ty "bool"))) mNil)))) (mRet 2 (mAndV (mCB dIsi (mCons (mVar 0) (mCons (mC (.cst (.ty "bool"))) mNil))) (mOp dEq (mVar 0) (mVar 1)))) mNext)
    (mSeq (mIfS (mTru (mCB dIsi (mCons (mVar 1) (mCons (mC (.cst (.ty "int"))) mNil)))) (mRet 2 (mAndV (mCall m_l_is_int (mCons (mVar 0) mNil)) (mOp dEq (mVar 0) (mVar 1)))) mNext)
    (mSeq (mIfS (mTru (mCB dIsi (mCons (mVar 1) (mCons (mC (.cst (.ty "str"))) mNil)))) (mRet 2 (mAndV (mCB dIsi (mCons (mVar 0) (mCons (mC (.cst (.ty "str"))) mNil))) (mOp dEq (mVar 0) (mVar 1)))) mNext)
    (mSeq (mIfS (mAnd (mTru (mCB dIsi (mCons (mVar 1) (mCons (mC (.cst (.ty "list"))) mNil)))) (mNot (mTru (mCB dIsi (mCons (mVar 0) (mCons (mC (.cst (.ty "list"))) mNil)))))) (mRet 2 (mC (.bl false))) mNext)
    (mSeq (mIfS (mAnd (mTru (mCB dIsi (mCons (mVar 1) (mCons (mC (.cst (.ty "tuple"))) mNil)))) (mNot (mTru (mCB dIsi (mCons (mVar 0) (mCons (mC (.cst (.ty "tuple"))) mNil)))))) (mRet 2 (mC (.bl false))) mNext)
    (mSeq (mIfS (mTest (mOp dNe (mCB dLen (mCons (mVar 0) mNil)) (mCB dLen (mCons (mVar 1) mNil)))) (mRet 2 (mC (.bl false))) mNext)
    (mSeq (mFor (mRng1 (mCons (mCB dLen (mCons (mVar 1) mNil)) mNil)) (gNm 2) (lb_l_same_1 mrec))
    (mRet 2 (mC (.bl true)))))))))))
def m_l_same : Nat → MF
  | 0 => fun _ => none
  | n + 1 => mFun 2 1 [] (mb_l_same (m_l_same n))
def lb_l_bound_1 : MS :=
    (mIfS (mOr (mTest (mOp dIn (mVar 2) (mOp dIx (mVar 1) (mC (.int 1))))) (mTest (mOp dIn (mVar 2) (mOp dIx (mVar 1) (mC (.int 2)))))) (mRet 2 (mC (.bl true))) mNext)
def lb_l_bound_2 : MS :=
    (mIfS (mTest (mOp dIn (mVar 2) (mOp dIx (mVar 0) (mC (.int 1))))) (mRet 2 (mC (.bl true))) mNext)
def mb_l_bound : MS :=
    (mSeq (mIfS (mTest (mOp dEq (mOp dIx (mVar 0) (mC (.int 0))) (mOp dIx (mVar 1) (mC (.int 0))))) (mRet 2 (mC (.bl true))) mNext)
    (mSeq (mFor (mSeqI (mOp dIx (mVar 0) (mC (.int 2)))) (gNm 2) lb_l_bound_1)
    (mSeq (mFor (mSeqI (mOp dIx (mVar 1) (mC (.int 2)))) (gNm 2) lb_l_bound_2)
    (mRet 2 (mC (.bl false))))))
def m_l_bound : MF := mFun 2 1 [] mb_l_bound
def lb_free_1 : MS :=
    (mIfS (mOr (mTest (mOp dIn (mVar 2) (mOp dIx (mVar 1) (mC (.int 1))))) (mTest (mOp dIn (mVar 2) (mOp dIx (mVar 1) (mC (.int 2)))))) (mRet 2 (mC (.bl false))) mNext)
def lb_free_2 : MS :=
    (mIfS (mTest (mOp dIn (mVar 2) (mOp dIx (mVar 0) (mC (.int 1))))) (mRet 2 (mC (.bl false))) mNext)
def mb_free : MS :=
    (mSeq (mIfS (mTest (mOp dEq (mOp dIx (mVar 0) (mC (.int 0))) (mOp dIx (mVar 1) (mC (.int 0))))) (mRet 2 (mC (.bl false))) mNext)
    (mSeq (mFor (mSeqI (mOp dIx (mVar 0) (mC (.int 2)))) (gNm 2) lb_free_1)
    (mSeq (mFor (mSeqI (mOp dIx (mVar 1) (mC (.int 2)))) (gNm 2) lb_free_2)
    (mRet 2 (mC (.bl true))))))
def m_free : MF := mFun 2 1 [] mb_free
def lb_l_exchanged_1 : MS :=
    (mIfS (mNot (mTru (mCall m_l_bound (mCons (mOp dIx (mVar 0) (mVar 2)) (mCons (mOp dIx (mVar 0) (mOp dAdd (mVar 2) (mC (.int 1)))) mNil))))) (mDrop (mApp 1 (mOp dAdd (mOp dAdd (mSl dSl (mVar 0) mNoPart (mPart (mVar 2))) (mTup (mCons (mOp dIx (mVar 0) (mOp dAdd (mVar 2) (mC (.int 1)))) (mCons (mOp dIx (mVar 0) (mVar 2)) mNil)))) (mSl dSl (mVar 0) (mPart (mOp dAdd (mVar 2) (mC (.int 2)))) mNoPart)))) mNext)
def mb_l_exchanged : MS :=
    (mSeq (mAsg (mLst mNil) (gNm 1))
    (mSeq (mFor (mRng1 (mCons (mOp dSub (mCB dLen (mCons (mVar 0) mNil)) (mC (.int 1))) mNil)) (gNm 2) lb_l_exchanged_1)
    (mRet 1 (mVar 1))))
def m_l_exchanged : MF := mFun 1 2 [] mb_l_exchanged
def lb_l_records_1 : MS :=
    (mSeq (mAsg (mOp dIx (mLst (mCons (mC (.str (st [114, 111, 119]))) (mCons (mC (.str (st [103, 97, 116, 104, 101, 114]))) (mCons (mC (.str (st [100, 101, 101, 100]))) (mCons (mC (.str (st [101, 110, 100]))) mNil))))) (mCall m_l_draw (mCons (mVar 0) (mCons (mC (.int 4)) mNil)))) (gNm 4))
    (mSeq (mAsg (mOp dIx (mLst (mCons (mC (.str (st []))) (mCons (mC (.str (st [102, 46, 51]))) (mCons (mC (.str (st [109, 97, 105, 110, 46, 49, 50, 43]))) mNil)))) (mCall m_l_draw (mCons (mVar 0) (mCons (mC (.int 3)) mNil)))) (gNm 5))
    (mSeq (mAsg (mCall m_l_fresh (mCons (mVar 0) (mCons (mLst mNil) mNil))) (gNm 6))
    (mDrop (mApp 2 (mTup (mCons (mOp dIx (mVar 3) (mC (.int 0))) (mCons (mVar 4) (mCons (mVar 6) (mCons (mCall m_l_draw (mCons (mVar 0) (mCons (mC (.int 17)) mNil))) (mCons (mVar 5) (mCons (mOp dIx (mVar 3) (mC (.int 1))) (mCons (mOp dIx (mVar 3) (mC (.int 2))) mNil)))))))))))))
def mb_l_records : MS :=
    (mSeq (mAsg (mLst mNil) (gNm 2))
    (mSeq (mFor (mSeqI (mVar 1)) (gNm 3) lb_l_records_1)
    (mRet 2 (mVar 2))))
def m_l_records : MF := mFun 2 5 [] mb_l_records
def le_trace_of_1 : ME :=
    (mTup (mCons (mOp dIx (mVar 1) (mC (.int 0))) (mCons (mOp dIx (mVar 1) (mC (.int 5))) (mCons (mOp dIx (mVar 1) (mC (.int 6))) mNil))))
def mb_trace_of : MS :=
    (mRet 1 (mCB dTuple (mCons (mLc (mSeqI (mVar 0)) (gNm 1) (fun e => some (.ok true e)) le_trace_of_1 [1]) mNil)))
def m_trace_of : MF := mFun 1 1 [] mb_trace_of
def mb_exchanged : MS :=
    (mRet 2 (mOp dAdd (mOp dAdd (mSl dSl (mVar 0) mNoPart (mPart (mVar 1))) (mTup (mCons (mOp dIx (mVar 0) (mOp dAdd (mVar 1) (mC (.int 1)))) (mCons (mOp dIx (mVar 0) (mVar 1)) mNil)))) (mSl dSl (mVar 0) (mPart (mOp dAdd (mVar 1) (mC (.int 2)))) mNoPart)))
def m_exchanged : MF := mFun 2 0 [] mb_exchanged
def lb_exchanges_1 : MY :=
    (ySeq (yIf (mTru (mCall m_free (mCons (mOp dIx (mVar 0) (mVar 1)) (mCons (mOp dIx (mVar 0) (mOp dAdd (mVar 1) (mC (.int 1)))) mNil)))) (ySeq (yYield (mCall m_exchanged (mCons (mVar 0) (mCons (mVar 1) mNil))))
    y0) y0)
    y0)
def mb_exchanges : MY :=
    (ySeq (yFor (mRng1 (mCons (mOp dSub (mCB dLen (mCons (mVar 0) mNil)) (mC (.int 1))) mNil)) (gNm 1) lb_exchanges_1)
    y0)
def m_exchanges : MYF := mGen 1 1 mb_exchanges
def lb_law_1 : MS :=
    (mIfS (mNot (mTru (mCall (m_l_same 8) (mCons (mCall m_free (mCons (mVar 4) (mCons (mVar 5) mNil))) (mCons (mNotV (mCall m_l_bound (mCons (mVar 4) (mCons (mVar 5) mNil)))) mNil))))) (mRet 1 (mC (.bl false))) mNext)
def lb_law_2 : MS :=
    (mFor (mSeqI (mVar 3)) (gNm 5) lb_law_1)
def lb_law_3 : MS :=
    (mIfS (mNot (mTru (mCall (m_l_same 8) (mCons (mListG m_exchanges (mCons (mOp dIx (mVar 2) (mVar 6)) mNil)) (mCons (mCall m_l_exchanged (mCons (mOp dIx (mVar 2) (mVar 6)) mNil)) mNil))))) (mRet 1 (mC (.bl false))) mNext)
def lb_law_4 : MS :=
    (mSeq (mAsg (mCall m_l_records (mCons (mVar 1) (mCons (mVar 7) mNil))) (gNm 8))
    (mSeq (mAsg (mCB dList (mCons (mVar 8) mNil)) (gNm 9))
    (mSeq (mIfS (mOr (mNot (mTru (mCall (m_l_same 8) (mCons (mCall m_trace_of (mCons (mVar 9) mNil)) (mCons (mVar 7) mNil))))) (mNot (mTru (mCall (m_l_same 8) (mCons (mCall m_trace_of (mCons (mCB dTuple (mCons (mVar 8) mNil)) mNil)) (mCons (mVar 7) mNil)))))) (mRet 1 (mC (.bl false))) mNext)
    (mIfS (mTest (mOp dNe (mVar 9) (mVar 8))) (mRet 1 (mC (.bl false))) mNext))))
def mb_law : MS :=
    (mSeq (mAsg (mCall m_l_pool (mCons (mVar 0) mNil)) (gNm 1))
    (mSeq (mAsg (mLst (mCons (mCall m_l_trace (mCons (mVar 1) (mCons (mC (.int 9)) mNil))) (mCons (mCall m_l_trace (mCons (mVar 1) (mCons (mC (.int 9)) mNil))) mNil))) (gNm 2))
    (mSeq (mAsg (mOp dAdd (mOp dIx (mVar 2) (mC (.int 0))) (mOp dIx (mVar 2) (mC (.int 1)))) (gNm 3))
    (mSeq (mFor (mSeqI (mVar 3)) (gNm 4) lb_law_2)
    (mSeq (mFor (mSeqI (mLst (mCons (mC (.int 0)) (mCons (mC (.int 1)) (mCons (mC (.int 0)) mNil))))) (gNm 6) lb_law_3)
    (mSeq (mFor (mSeqI (mVar 2)) (gNm 7) lb_law_4)
    (mRet 1 (mC (.bl true)))))))))
def m_law : MF := mFun 1 9 [] mb_law
/-- what the top has written -/
structure Txt (P : Program) (w : World) (K : PySem.W.Frag) (mg : Str → Option Value) where
  f_l_pool : Addr
  d_l_pool : FuncData
  F_l_pool : Fun K "_law_pool" "_law_pool" s_l_pool f_l_pool d_l_pool
  g_l_pool : mg "_law_pool" = some (.ref f_l_pool)
  b_l_pool : Binds K d_l_pool ["_law_script"] []
  f_l_mixed : Addr
  d_l_mixed : FuncData
  F_l_mixed : Fun K "_law_mixed" "_law_mixed" s_l_mixed f_l_mixed d_l_mixed
  g_l_mixed : mg "_law_mixed" = some (.ref f_l_mixed)
  b_l_mixed : Binds K d_l_mixed ["_law_cell", "_law_turn", "_law_limit"] []
  f_l_draw : Addr
  d_l_draw : FuncData
  F_l_draw : Fun K "_law_draw" "_law_draw" s_l_draw f_l_draw d_l_draw
  g_l_draw : mg "_law_draw" = some (.ref f_l_draw)
  b_l_draw : Binds K d_l_draw ["_law_pool_here", "_law_limit"] []
  f_l_task : Addr
  d_l_task : FuncData
  F_l_task : Fun K "_law_task" "_law_task" s_l_task f_l_task d_l_task
  g_l_task : mg "_law_task" = some (.ref f_l_task)
  b_l_task : Binds K d_l_task ["_law_pool_here"] []
  f_l_word : Addr
  d_l_word : FuncData
  F_l_word : Fun K "_law_word" "_law_word" s_l_word f_l_word d_l_word
  g_l_word : mg "_law_word" = some (.ref f_l_word)
  b_l_word : Binds K d_l_word ["_law_pool_here", "_law_first", "_law_signs", "_law_more"] []
  f_l_kinds : Addr
  d_l_kinds : FuncData
  F_l_kinds : Fun K "_law_kinds" "_law_kinds" s_l_kinds f_l_kinds d_l_kinds
  g_l_kinds : mg "_law_kinds" = some (.ref f_l_kinds)
  b_l_kinds : Binds K d_l_kinds [] []
  f_l_fresh : Addr
  d_l_fresh : FuncData
  F_l_fresh : Fun K "_law_fresh" "_law_fresh" s_l_fresh f_l_fresh d_l_fresh
  g_l_fresh : mg "_law_fresh" = some (.ref f_l_fresh)
  b_l_fresh : Binds K d_l_fresh ["_law_pool_here", "_law_used"] []
  f_l_cell_text : Addr
  d_l_cell_text : FuncData
  F_l_cell_text : Fun K "_law_cell_text" "_law_cell_text" s_l_cell_text f_l_cell_text d_l_cell_text
  g_l_cell_text : mg "_law_cell_text" = some (.ref f_l_cell_text)
  b_l_cell_text : Binds K d_l_cell_text ["_law_pool_here"] []
  f_l_trace : Addr
  d_l_trace : FuncData
  F_l_trace : Fun K "_law_trace" "_law_trace" s_l_trace f_l_trace d_l_trace
  g_l_trace : mg "_law_trace" = some (.ref f_l_trace)
  b_l_trace : Binds K d_l_trace ["_law_pool_here", "_law_bound_here"] []
  f_l_is_int : Addr
  d_l_is_int : FuncData
  F_l_is_int : Fun K "_law_is_int" "_law_is_int" s_l_is_int f_l_is_int d_l_is_int
  g_l_is_int : mg "_law_is_int" = some (.ref f_l_is_int)
  b_l_is_int : Binds K d_l_is_int ["_law_thing"] []
  f_l_same : Addr
  d_l_same : FuncData
  F_l_same : Fun K "_law_same" "_law_same" s_l_same f_l_same d_l_same
  g_l_same : mg "_law_same" = some (.ref f_l_same)
  b_l_same : Binds K d_l_same ["_law_mine", "_law_due"] []
  f_l_bound : Addr
  d_l_bound : FuncData
  F_l_bound : Fun K "_law_bound" "_law_bound" s_l_bound f_l_bound d_l_bound
  g_l_bound : mg "_law_bound" = some (.ref f_l_bound)
  b_l_bound : Binds K d_l_bound ["_law_one", "_law_other"] []
  f_free : Addr
  d_free : FuncData
  F_free : Fun K "free" "free" s_free f_free d_free
  g_free : mg "free" = some (.ref f_free)
  b_free : Binds K d_free ["one", "other"] []
  f_l_exchanged : Addr
  d_l_exchanged : FuncData
  F_l_exchanged : Fun K "_law_exchanged" "_law_exchanged" s_l_exchanged f_l_exchanged d_l_exchanged
  g_l_exchanged : mg "_law_exchanged" = some (.ref f_l_exchanged)
  b_l_exchanged : Binds K d_l_exchanged ["_law_trace_here"] []
  f_l_records : Addr
  d_l_records : FuncData
  F_l_records : Fun K "_law_records" "_law_records" s_l_records f_l_records d_l_records
  g_l_records : mg "_law_records" = some (.ref f_l_records)
  b_l_records : Binds K d_l_records ["_law_pool_here", "_law_trace_here"] []
  f_trace_of : Addr
  d_trace_of : FuncData
  F_trace_of : Fun K "trace_of" "trace_of" s_trace_of f_trace_of d_trace_of
  g_trace_of : mg "trace_of" = some (.ref f_trace_of)
  b_trace_of : Binds K d_trace_of ["records"] []
  f_exchanged : Addr
  d_exchanged : FuncData
  F_exchanged : Fun K "exchanged" "exchanged" s_exchanged f_exchanged d_exchanged
  g_exchanged : mg "exchanged" = some (.ref f_exchanged)
  b_exchanged : Binds K d_exchanged ["trace", "at"] []
  f_exchanges : Addr
  d_exchanges : FuncData
  F_exchanges : Fun K "exchanges" "exchanges" s_exchanges f_exchanges d_exchanges
  g_exchanges : mg "exchanges" = some (.ref f_exchanges)
  b_exchanges : Binds K d_exchanges ["trace"] []
  f_law : Addr
  d_law : FuncData
  F_law : Fun K "law" "law" s_law f_law d_law
  g_law : mg "law" = some (.ref f_law)
  b_law : Binds K d_law ["_law_script"] []
  b_list : mg "list" = none
  b_tuple : mg "tuple" = none
  b_range : mg "range" = none
  b_len : mg "len" = none
  b_sorted : mg "sorted" = none
  b_int : mg "int" = none
  b_str : mg "str" = none
  b_isinstance : mg "isinstance" = none
  b_bool : mg "bool" = none
section
variable {P : Program} {w : World} {K : PySem.W.Frag} {mg : Str → Option Value} {base : Heap}
def cvT (T : Txt P w K mg) : Nat → Value
  | _ => .none
def rd_l_pool (T : Txt P w K mg) (W : WX) : TS :=
    (tRet (tLst (tCons (tCB (rListD K) (tCons (tVar 0) tNil)) (tCons (tC (.int 0)) (tCons (tC (.int 0)) (tCons (tC (.int 0)) (tCons (tC (.int 0)) tNil)))))))
theorem sim_l_pool (T : Txt P w K mg) (W : WX) : SS (bC ⟨K, cvT T⟩ W 1 []) (rd_l_pool T W) (mb_l_pool) := by
  unfold rd_l_pool mb_l_pool
  exact (ss_ret (se_lst (sa_cons (se_cb p_list (sa_cons (se_var 0) sa_nil)) (sa_cons (se_c (.int 0)) (sa_cons (se_c (.int 0)) (sa_cons (se_c (.int 0)) (sa_cons (se_c (.int 0)) sa_nil)))))))
theorem fn_l_pool (T : Txt P w K mg) {k : Nat} : FnOk P w K mg base (L2N.CX P w) (k + 1) T.f_l_pool T.d_l_pool ["_law_script"] (spM ⟨K, cvT T⟩ (mFun 1 0 [] (mb_l_pool))) := by
  refine Fun.okN T.F_l_pool sc_l_pool (fun vs H Q E h => spM_len vs H Q E h) (fun cdv A outer s H vs Q E hr h0 => ⟨rd_l_pool T (fun c o _ H => E c o H), ?_, body_mir (np := 1) (nl := 0) rfl (sim_l_pool T _) h0⟩)
  exact (pss_one (ps_ret (pe_lst (pa_cons (pe_callTy call_listD (by rfl) T.b_list bt_list (pa_cons (pv 0) pa_nil)) (pa_cons pe_int (pa_cons pe_int (pa_cons pe_int (pa_cons pe_int pa_nil))))))))
theorem ok_l_pool (T : Txt P w K mg) : FnOk P w K mg base (L2N.CX P w) 1 T.f_l_pool T.d_l_pool ["_law_script"] (spM ⟨K, cvT T⟩ m_l_pool) := fn_l_pool (k := 0) T 
def rd_l_mixed (T : Txt P w K mg) (W : WX) : TS :=
    (tSeq (tAsg (tOp rModD (tCB (rIntD) (tCons (tOp (rAddD K) (tOp (rAddD K) (tOp rMulD (tVar 0) (tC (.int 48271))) (tOp rMulD (tVar 1) (tC (.int 69621)))) (tC (.int 11))) tNil)) (tC (.int 2147483647))) (gName 3))
    (tSeq (tAsg (tOp rModD (tCB (rIntD) (tCons (tOp (rAddD K) (tOp (rAddD K) (tOp rMulD (tVar 3) (tC (.int 40692))) (tOp rMulD (tVar 0) (tC (.int 16807)))) (tOp rMulD (tVar 1) (tC (.int 30269)))) tNil)) (tC (.int 2147483399))) (gName 4))
    (tSeq (tAsg (tOp rModD (tCB (rIntD) (tCons (tOp (rAddD K) (tOp rMulD (tVar 4) (tC (.int 39373))) (tOp rFdivD (tVar 3) (tC (.int 7)))) tNil)) (tC (.int 1000000007))) (gName 5))
    (tRet (tOp rModD (tCB (rIntD) (tCons (tVar 5) tNil)) (tVar 2))))))
theorem sim_l_mixed (T : Txt P w K mg) (W : WX) : SS (bC ⟨K, cvT T⟩ W 3 []) (rd_l_mixed T W) (mb_l_mixed) := by
  unfold rd_l_mixed mb_l_mixed
  exact (ss_seq (ss_asg (se_op p_mod (se_cb p_int (sa_cons (se_op p_add (se_op p_add (se_op p_mul (se_var 0) (se_c (.int 48271))) (se_op p_mul (se_var 1) (se_c (.int 69621)))) (se_c (.int 11))) sa_nil)) (se_c (.int 2147483647))) (sg_name rfl))
    (ss_seq (ss_asg (se_op p_mod (se_cb p_int (sa_cons (se_op p_add (se_op p_add (se_op p_mul (se_var 3) (se_c (.int 40692))) (se_op p_mul (se_var 0) (se_c (.int 16807)))) (se_op p_mul (se_var 1) (se_c (.int 30269)))) sa_nil)) (se_c (.int 2147483399))) (sg_name rfl))
    (ss_seq (ss_asg (se_op p_mod (se_cb p_int (sa_cons (se_op p_add (se_op p_mul (se_var 4) (se_c (.int 39373))) (se_op p_div (se_var 3) (se_c (.int 7)))) sa_nil)) (se_c (.int 1000000007))) (sg_name rfl))
    (ss_ret (se_op p_mod (se_cb p_int (sa_cons (se_var 5) sa_nil)) (se_var 2))))))
theorem fn_l_mixed (T : Txt P w K mg) {k : Nat} : FnOk P w K mg base (L2N.CX P w) (k + 1) T.f_l_mixed T.d_l_mixed ["_law_cell", "_law_turn", "_law_limit"] (spM ⟨K, cvT T⟩ (mFun 3 3 [] (mb_l_mixed))) := by
  refine Fun.okN T.F_l_mixed sc_l_mixed (fun vs H Q E h => spM_len vs H Q E h) (fun cdv A outer s H vs Q E hr h0 => ⟨rd_l_mixed T (fun c o _ H => E c o H), ?_, body_mir (np := 3) (nl := 3) rfl (sim_l_mixed T _) h0⟩)
  exact (pss_cons (sset 3 sc_l_mixed.nd (pe_op op_modD (pe_callTy call_intD (by rfl) T.b_int bt_int (pa_cons (pe_op op_addD (pe_op op_addD (pe_op op_mulD (pv 0) pe_int) (pe_op op_mulD (pv 1) pe_int)) pe_int) pa_nil)) pe_int))
      (pss_cons (sset 4 sc_l_mixed.nd (pe_op op_modD (pe_callTy call_intD (by rfl) T.b_int bt_int (pa_cons (pe_op op_addD (pe_op op_addD (pe_op op_mulD (pv 3) pe_int) (pe_op op_mulD (pv 0) pe_int)) (pe_op op_mulD (pv 1) pe_int)) pa_nil)) pe_int))
      (pss_cons (sset 5 sc_l_mixed.nd (pe_op op_modD (pe_callTy call_intD (by rfl) T.b_int bt_int (pa_cons (pe_op op_addD (pe_op op_mulD (pv 4) pe_int) (pe_op op_fdivD (pv 3) pe_int)) pa_nil)) pe_int))
      (pss_one (ps_ret (pe_op op_modD (pe_callTy call_intD (by rfl) T.b_int bt_int (pa_cons (pv 5) pa_nil)) (pv 2)))))))
theorem ok_l_mixed (T : Txt P w K mg) : FnOk P w K mg base (L2N.CX P w) 1 T.f_l_mixed T.d_l_mixed ["_law_cell", "_law_turn", "_law_limit"] (spM ⟨K, cvT T⟩ m_l_mixed) := fn_l_mixed (k := 0) T 
def rd_l_draw (T : Txt P w K mg) (W : WX) : TS :=
    (tSeq (tIfS (tTest (tOp rGtD (tOp (rIxD K) (tVar 0) (tC (.int 2))) (tC (.int 0)))) (tSeq (tAsg (tOp rModD (tCB (rIntD) (tCons (tOp (rIxD K) (tVar 0) (tC (.int 2))) tNil)) (tVar 1)) (gName 2))
    (tSeq (tAsg (tOp rFdivD (tOp (rIxD K) (tVar 0) (tC (.int 2))) (tVar 1)) (gSub (tVar 0) (tC (.int 2)) rSetD))
    (tRet (tVar 2)))) tNext)
    (tSeq (tIfS (tTest (tOp rGtD (tOp (rIxD K) (tVar 0) (tC (.int 4))) (tC (.int 0)))) (tSeq (tAsg (tOp rSubD (tOp (rIxD K) (tVar 0) (tC (.int 4))) (tC (.int 1))) (gSub (tVar 0) (tC (.int 4)) rSetD))
    (tRet (tCallS (spM ⟨K, cvT T⟩ m_l_mixed) (WE W) (tCons (tOp (rIxD K) (tVar 0) (tC (.int 3))) (tCons (tOp (rIxD K) (tVar 0) (tC (.int 4))) (tCons (tVar 1) tNil)))))) tNext)
    (tSeq (tIfS (tTest (tOp rGeD (tOp (rIxD K) (tVar 0) (tC (.int 1))) (tCB (rLenD K) (tCons (tOp (rIxD K) (tVar 0) (tC (.int 0))) tNil)))) (tRet (tC (.int 0))) tNext)
    (tSeq (tAsg (tOp (rIxD K) (tOp (rIxD K) (tVar 0) (tC (.int 0))) (tOp (rIxD K) (tVar 0) (tC (.int 1)))) (gName 3))
    (tSeq (tAsg (tOp (rAddD K) (tOp (rIxD K) (tVar 0) (tC (.int 1))) (tC (.int 1))) (gSub (tVar 0) (tC (.int 1)) rSetD))
    (tSeq (tIfS (tTest (tOp rLtD (tVar 3) (tC (.int 0)))) (tAsg (tOp rSubD (tUn rNeg (tC (.int 1))) (tVar 3)) (gName 3)) tNext)
    (tSeq (tIfS (tTest (tOp rGeD (tVar 3) (tOp rPowD (tC (.int 10)) (tC (.int 18))))) (tSeq (tAsg (tOp rFdivD (tVar 3) (tVar 1)) (gSub (tVar 0) (tC (.int 2)) rSetD))
    (tRet (tOp rModD (tCB (rIntD) (tCons (tVar 3) tNil)) (tVar 1)))) tNext)
    (tSeq (tAsg (tVar 3) (gSub (tVar 0) (tC (.int 3)) rSetD))
    (tSeq (tAsg (tC (.int 7)) (gSub (tVar 0) (tC (.int 4)) rSetD))
    (tRet (tCallS (spM ⟨K, cvT T⟩ m_l_mixed) (WE W) (tCons (tVar 3) (tCons (tC (.int 7)) (tCons (tVar 1) tNil))))))))))))))
theorem sim_l_draw (T : Txt P w K mg) (W : WX) : SS (bC ⟨K, cvT T⟩ W 2 []) (rd_l_draw T W) (mb_l_draw) := by
  unfold rd_l_draw mb_l_draw
  exact (ss_seq (ss_if (st_test (se_op p_gt (se_op p_ix (se_var 0) (se_c (.int 2))) (se_c (.int 0)))) (ss_seq (ss_asg (se_op p_mod (se_cb p_int (sa_cons (se_op p_ix (se_var 0) (se_c (.int 2))) sa_nil)) (se_var 1)) (sg_name rfl))
    (ss_seq (ss_asg (se_op p_div (se_op p_ix (se_var 0) (se_c (.int 2))) (se_var 1)) (sg_ix (se_c (.int 2))))
    (ss_ret (se_var 2)))) ss_next)
    (ss_seq (ss_if (st_test (se_op p_gt (se_op p_ix (se_var 0) (se_c (.int 4))) (se_c (.int 0)))) (ss_seq (ss_asg (se_op p_sub (se_op p_ix (se_var 0) (se_c (.int 4))) (se_c (.int 1))) (sg_ix (se_c (.int 4))))
    (ss_ret (se_callS (sa_cons (se_op p_ix (se_var 0) (se_c (.int 3))) (sa_cons (se_op p_ix (se_var 0) (se_c (.int 4))) (sa_cons (se_var 1) sa_nil)))))) ss_next)
    (ss_seq (ss_if (st_test (se_op p_ge (se_op p_ix (se_var 0) (se_c (.int 1))) (se_cb p_len (sa_cons (se_op p_ix (se_var 0) (se_c (.int 0))) sa_nil)))) (ss_ret (se_c (.int 0))) ss_next)
    (ss_seq (ss_asg (se_op p_ix (se_op p_ix (se_var 0) (se_c (.int 0))) (se_op p_ix (se_var 0) (se_c (.int 1)))) (sg_name rfl))
    (ss_seq (ss_asg (se_op p_add (se_op p_ix (se_var 0) (se_c (.int 1))) (se_c (.int 1))) (sg_ix (se_c (.int 1))))
    (ss_seq (ss_if (st_test (se_op p_lt (se_var 3) (se_c (.int 0)))) (ss_asg (se_op p_sub (se_un p_neg (se_c (.int 1))) (se_var 3)) (sg_name rfl)) ss_next)
    (ss_seq (ss_if (st_test (se_op p_ge (se_var 3) (se_op p_pow (se_c (.int 10)) (se_c (.int 18))))) (ss_seq (ss_asg (se_op p_div (se_var 3) (se_var 1)) (sg_ix (se_c (.int 2))))
    (ss_ret (se_op p_mod (se_cb p_int (sa_cons (se_var 3) sa_nil)) (se_var 1)))) ss_next)
    (ss_seq (ss_asg (se_var 3) (sg_ix (se_c (.int 3))))
    (ss_seq (ss_asg (se_c (.int 7)) (sg_ix (se_c (.int 4))))
    (ss_ret (se_callS (sa_cons (se_var 3) (sa_cons (se_c (.int 7)) (sa_cons (se_var 1) sa_nil))))))))))))))
theorem fn_l_draw (T : Txt P w K mg) {k : Nat} {k_l_mixed : Nat} (G_l_mixed : FnOk P w K mg base (L2N.CX P w) k_l_mixed T.f_l_mixed T.d_l_mixed ["_law_cell", "_law_turn", "_law_limit"] (spM ⟨K, cvT T⟩ m_l_mixed)) (h_l_mixed : k_l_mixed ≤ k) : FnOk P w K mg base (L2N.CX P w) (k + 1) T.f_l_draw T.d_l_draw ["_law_pool_here", "_law_limit"] (spM ⟨K, cvT T⟩ (mFun 2 2 [] (mb_l_draw))) := by
  refine Fun.okN T.F_l_draw sc_l_draw (fun vs H Q E h => spM_len vs H Q E h) (fun cdv A outer s H vs Q E hr h0 => ⟨rd_l_draw T (fun c o _ H => E c o H), ?_, body_mir (np := 2) (nl := 2) rfl (sim_l_draw T _) h0⟩)
  exact (pss_cons (ps_if (pt_cmpR op_gtD (pe_ix (ix_D hr.units) (pv 0) pe_int (fun _ _ => rfl)) pe_int (nomark _)) (pss_cons (sset 2 sc_l_draw.nd (pe_op op_modD (pe_callTy call_intD (by rfl) T.b_int bt_int (pa_cons (pe_ix (ix_D hr.units) (pv 0) pe_int (fun _ _ => rfl)) pa_nil)) (pv 1)))
      (pss_cons (ps_asg (pe_op op_fdivD (pe_ix (ix_D hr.units) (pv 0) pe_int (fun _ _ => rfl)) (pv 1)) (pg_sub (pv 0) pe_int (set_D hr.units)))
      (pss_one (ps_ret (pv 2))))) pss_nil)
      (pss_cons (ps_if (pt_cmpR op_gtD (pe_ix (ix_D hr.units) (pv 0) pe_int (fun _ _ => rfl)) pe_int (nomark _)) (pss_cons (ps_asg (pe_op op_subD (pe_ix (ix_D hr.units) (pv 0) pe_int (fun _ _ => rfl)) pe_int) (pg_sub (pv 0) pe_int (set_D hr.units)))
      (pss_one (ps_ret (pe_callS G_l_mixed (hr.mono h_l_mixed) rfl T.g_l_mixed T.F_l_mixed.kp T.b_l_mixed (fun σ => L2N.passAt (L2N.takes_of rfl rfl rfl rfl) σ) (pa_cons (pe_ix (ix_D hr.units) (pv 0) pe_int (fun _ _ => rfl)) (pa_cons (pe_ix (ix_D hr.units) (pv 0) pe_int (fun _ _ => rfl)) (pa_cons (pv 1) pa_nil))))))) pss_nil)
      (pss_cons (ps_if (pt_cmpR op_geD (pe_ix (ix_D hr.units) (pv 0) pe_int (fun _ _ => rfl)) (pe_callB call_lenX (by rfl) T.b_len bt_len (pa_cons (pe_ix (ix_D hr.units) (pv 0) pe_int (fun _ _ => rfl)) pa_nil)) (nomark _)) (pss_one (ps_ret pe_int)) pss_nil)
      (pss_cons (sset 3 sc_l_draw.nd (pe_ix (ix_D hr.units) (pe_ix (ix_D hr.units) (pv 0) pe_int (fun _ _ => rfl)) (pe_ix (ix_D hr.units) (pv 0) pe_int (fun _ _ => rfl)) (fun _ _ => rfl)))
      (pss_cons (ps_asg (pe_op op_addD (pe_ix (ix_D hr.units) (pv 0) pe_int (fun _ _ => rfl)) pe_int) (pg_sub (pv 0) pe_int (set_D hr.units)))
      (pss_cons (ps_if (pt_cmpR op_ltD (pv 3) pe_int (nomark _)) (pss_one (sset 3 sc_l_draw.nd (pe_op op_subD (pe_un un_neg pe_int) (pv 3)))) pss_nil)
      (pss_cons (ps_if (pt_cmpR op_geD (pv 3) (pe_op op_powD pe_int pe_int) (nomark _)) (pss_cons (ps_asg (pe_op op_fdivD (pv 3) (pv 1)) (pg_sub (pv 0) pe_int (set_D hr.units)))
      (pss_one (ps_ret (pe_op op_modD (pe_callTy call_intD (by rfl) T.b_int bt_int (pa_cons (pv 3) pa_nil)) (pv 1))))) pss_nil)
      (pss_cons (ps_asg (pv 3) (pg_sub (pv 0) pe_int (set_D hr.units)))
      (pss_cons (ps_asg pe_int (pg_sub (pv 0) pe_int (set_D hr.units)))
      (pss_one (ps_ret (pe_callS G_l_mixed (hr.mono h_l_mixed) rfl T.g_l_mixed T.F_l_mixed.kp T.b_l_mixed (fun σ => L2N.passAt (L2N.takes_of rfl rfl rfl rfl) σ) (pa_cons (pv 3) (pa_cons pe_int (pa_cons (pv 1) pa_nil)))))))))))))))
theorem ok_l_draw (T : Txt P w K mg) : FnOk P w K mg base (L2N.CX P w) 2 T.f_l_draw T.d_l_draw ["_law_pool_here", "_law_limit"] (spM ⟨K, cvT T⟩ m_l_draw) := fn_l_draw (k := 1) T (ok_l_mixed T) (by omega)
def rd_l_task (T : Txt P w K mg) (W : WX) : TS :=
    (tSeq (tAsg (tC (.str "0")) (gName 1))
    (tSeq (tFor (iRng1 (tCons (tCallS (spM ⟨K, cvT T⟩ m_l_draw) (WE W) (tCons (tVar 0) (tCons (tC (.int 4)) tNil))) tNil)) (gName 2) (tSeq (tAsg (tOp (rAddD K) (tC (.int 1)) (tCallS (spM ⟨K, cvT T⟩ m_l_draw) (WE W) (tCons (tVar 0) (tCons (tC (.int 3)) tNil)))) (gName 3))
    (tSeq (tIfS (tTest (tOp (rEqX K) (tCallS (spM ⟨K, cvT T⟩ m_l_draw) (WE W) (tCons (tVar 0) (tCons (tC (.int 5)) tNil))) (tC (.int 4)))) (tAsg (tOp (rAddD K) (tC (.int 1)) (tCallS (spM ⟨K, cvT T⟩ m_l_draw) (WE W) (tCons (tVar 0) (tCons (tC (.int 120)) tNil)))) (gName 3)) tNext)
    (tAsg (tOp (rAddD K) (tOp (rAddD K) (tVar 1) (tC (.str "."))) (tCB (rStrD) (tCons (tVar 3) tNil))) (gName 1)))))
    (tRet (tVar 1))))
theorem sim_l_task (T : Txt P w K mg) (W : WX) : SS (bC ⟨K, cvT T⟩ W 1 []) (rd_l_task T W) (mb_l_task) := by
  unfold rd_l_task mb_l_task lb_l_task_1
  exact (ss_seq (ss_asg (se_cs (by decide +kernel)) (sg_name rfl))
    (ss_seq (ss_for (si_rng1 (sa_cons (se_callS (sa_cons (se_var 0) (sa_cons (se_c (.int 4)) sa_nil))) sa_nil)) (sg_name rfl) (ss_seq (ss_asg (se_op p_add (se_c (.int 1)) (se_callS (sa_cons (se_var 0) (sa_cons (se_c (.int 3)) sa_nil)))) (sg_name rfl))
    (ss_seq (ss_if (st_test (se_op p_eq (se_callS (sa_cons (se_var 0) (sa_cons (se_c (.int 5)) sa_nil))) (se_c (.int 4)))) (ss_asg (se_op p_add (se_c (.int 1)) (se_callS (sa_cons (se_var 0) (sa_cons (se_c (.int 120)) sa_nil)))) (sg_name rfl)) ss_next)
    (ss_asg (se_op p_add (se_op p_add (se_var 1) (se_cs (by decide +kernel))) (se_cb p_str (sa_cons (se_var 3) sa_nil))) (sg_name rfl)))))
    (ss_ret (se_var 1))))
theorem fn_l_task (T : Txt P w K mg) {k : Nat} {k_l_draw : Nat} (G_l_draw : FnOk P w K mg base (L2N.CX P w) k_l_draw T.f_l_draw T.d_l_draw ["_law_pool_here", "_law_limit"] (spM ⟨K, cvT T⟩ m_l_draw)) (h_l_draw : k_l_draw ≤ k) : FnOk P w K mg base (L2N.CX P w) (k + 1) T.f_l_task T.d_l_task ["_law_pool_here"] (spM ⟨K, cvT T⟩ (mFun 1 3 [] (mb_l_task))) := by
  refine Fun.okN T.F_l_task sc_l_task (fun vs H Q E h => spM_len vs H Q E h) (fun cdv A outer s H vs Q E hr h0 => ⟨rd_l_task T (fun c o _ H => E c o H), ?_, body_mir (np := 1) (nl := 3) rfl (sim_l_task T _) h0⟩)
  exact (pss_cons (sset 1 sc_l_task.nd pe_str)
      (pss_cons (ps_for (passes_of rfl) rfl (pi_range1 (by rfl) T.b_range (pa_cons (pe_callS G_l_draw (hr.mono h_l_draw) rfl T.g_l_draw T.F_l_draw.kp T.b_l_draw (fun σ => L2N.passAt (L2N.takes_of rfl rfl rfl rfl) σ) (pa_cons (pv 0) (pa_cons pe_int pa_nil))) pa_nil)) (gn 2 sc_l_task.nd) (pss_cons (sset 3 sc_l_task.nd (pe_op op_addD pe_int (pe_callS G_l_draw (hr.mono h_l_draw) rfl T.g_l_draw T.F_l_draw.kp T.b_l_draw (fun σ => L2N.passAt (L2N.takes_of rfl rfl rfl rfl) σ) (pa_cons (pv 0) (pa_cons pe_int pa_nil)))))
      (pss_cons (ps_if (pt_cmpR (op_eqX hr.units) (pe_callS G_l_draw (hr.mono h_l_draw) rfl T.g_l_draw T.F_l_draw.kp T.b_l_draw (fun σ => L2N.passAt (L2N.takes_of rfl rfl rfl rfl) σ) (pa_cons (pv 0) (pa_cons pe_int pa_nil))) pe_int (nomark _)) (pss_one (sset 3 sc_l_task.nd (pe_op op_addD pe_int (pe_callS G_l_draw (hr.mono h_l_draw) rfl T.g_l_draw T.F_l_draw.kp T.b_l_draw (fun σ => L2N.passAt (L2N.takes_of rfl rfl rfl rfl) σ) (pa_cons (pv 0) (pa_cons pe_int pa_nil)))))) pss_nil)
      (pss_one (sset 1 sc_l_task.nd (pe_op op_addD (pe_op op_addD (pv 1) pe_str) (pe_callTy call_strD (by rfl) T.b_str bt_str (pa_cons (pv 3) pa_nil))))))))
      (pss_one (ps_ret (pv 1)))))
theorem ok_l_task (T : Txt P w K mg) : FnOk P w K mg base (L2N.CX P w) 3 T.f_l_task T.d_l_task ["_law_pool_here"] (spM ⟨K, cvT T⟩ m_l_task) := fn_l_task (k := 2) T (ok_l_draw T) (by omega)
def rd_l_word (T : Txt P w K mg) (W : WX) : TS :=
    (tSeq (tAsg (tOp (rIxD K) (tVar 1) (tCallS (spM ⟨K, cvT T⟩ m_l_draw) (WE W) (tCons (tVar 0) (tCons (tCB (rLenD K) (tCons (tVar 1) tNil)) tNil)))) (gName 4))
    (tSeq (tFor (iRng1 (tCons (tVar 3) tNil)) (gName 5) (tAsg (tOp (rAddD K) (tVar 4) (tOp (rIxD K) (tVar 2) (tCallS (spM ⟨K, cvT T⟩ m_l_draw) (WE W) (tCons (tVar 0) (tCons (tCB (rLenD K) (tCons (tVar 2) tNil)) tNil))))) (gName 4)))
    (tRet (tVar 4))))
theorem sim_l_word (T : Txt P w K mg) (W : WX) : SS (bC ⟨K, cvT T⟩ W 4 []) (rd_l_word T W) (mb_l_word) := by
  unfold rd_l_word mb_l_word lb_l_word_1
  exact (ss_seq (ss_asg (se_op p_ix (se_var 1) (se_callS (sa_cons (se_var 0) (sa_cons (se_cb p_len (sa_cons (se_var 1) sa_nil)) sa_nil)))) (sg_name rfl))
    (ss_seq (ss_for (si_rng1 (sa_cons (se_var 3) sa_nil)) (sg_name rfl) (ss_asg (se_op p_add (se_var 4) (se_op p_ix (se_var 2) (se_callS (sa_cons (se_var 0) (sa_cons (se_cb p_len (sa_cons (se_var 2) sa_nil)) sa_nil))))) (sg_name rfl)))
    (ss_ret (se_var 4))))
theorem fn_l_word (T : Txt P w K mg) {k : Nat} {k_l_draw : Nat} (G_l_draw : FnOk P w K mg base (L2N.CX P w) k_l_draw T.f_l_draw T.d_l_draw ["_law_pool_here", "_law_limit"] (spM ⟨K, cvT T⟩ m_l_draw)) (h_l_draw : k_l_draw ≤ k) : FnOk P w K mg base (L2N.CX P w) (k + 1) T.f_l_word T.d_l_word ["_law_pool_here", "_law_first", "_law_signs", "_law_more"] (spM ⟨K, cvT T⟩ (mFun 4 2 [] (mb_l_word))) := by
  refine Fun.okN T.F_l_word sc_l_word (fun vs H Q E h => spM_len vs H Q E h) (fun cdv A outer s H vs Q E hr h0 => ⟨rd_l_word T (fun c o _ H => E c o H), ?_, body_mir (np := 4) (nl := 2) rfl (sim_l_word T _) h0⟩)
  exact (pss_cons (sset 4 sc_l_word.nd (pe_ix (ix_D hr.units) (pv 1) (pe_callS G_l_draw (hr.mono h_l_draw) rfl T.g_l_draw T.F_l_draw.kp T.b_l_draw (fun σ => L2N.passAt (L2N.takes_of rfl rfl rfl rfl) σ) (pa_cons (pv 0) (pa_cons (pe_callB call_lenX (by rfl) T.b_len bt_len (pa_cons (pv 1) pa_nil)) pa_nil))) (fun _ _ => rfl)))
      (pss_cons (ps_for (passes_of rfl) rfl (pi_range1 (by rfl) T.b_range (pa_cons (pv 3) pa_nil)) (gn 5 sc_l_word.nd) (pss_one (sset 4 sc_l_word.nd (pe_op op_addD (pv 4) (pe_ix (ix_D hr.units) (pv 2) (pe_callS G_l_draw (hr.mono h_l_draw) rfl T.g_l_draw T.F_l_draw.kp T.b_l_draw (fun σ => L2N.passAt (L2N.takes_of rfl rfl rfl rfl) σ) (pa_cons (pv 0) (pa_cons (pe_callB call_lenX (by rfl) T.b_len bt_len (pa_cons (pv 2) pa_nil)) pa_nil))) (fun _ _ => rfl))))))
      (pss_one (ps_ret (pv 4)))))
theorem ok_l_word (T : Txt P w K mg) : FnOk P w K mg base (L2N.CX P w) 3 T.f_l_word T.d_l_word ["_law_pool_here", "_law_first", "_law_signs", "_law_more"] (spM ⟨K, cvT T⟩ m_l_word) := fn_l_word (k := 2) T (ok_l_draw T) (by omega)
def rd_l_kinds (T : Txt P w K mg) (W : WX) : TS :=
    (tRet (tLst (tCons (tC (.str "any")) (tCons (tC (.str "num")) (tCons (tC (.str "nat")) (tCons (tC (.str "small")) (tCons (tC (.str "digit")) (tCons (tC (.str "bit")) (tCons (tC (.str "word")) tNil)))))))))
theorem sim_l_kinds (T : Txt P w K mg) (W : WX) : SS (bC ⟨K, cvT T⟩ W 0 []) (rd_l_kinds T W) (mb_l_kinds) := by
  unfold rd_l_kinds mb_l_kinds
  exact (ss_ret (se_lst (sa_cons (se_cs (by decide +kernel)) (sa_cons (se_cs (by decide +kernel)) (sa_cons (se_cs (by decide +kernel)) (sa_cons (se_cs (by decide +kernel)) (sa_cons (se_cs (by decide +kernel)) (sa_cons (se_cs (by decide +kernel)) (sa_cons (se_cs (by decide +kernel)) sa_nil)))))))))
theorem fn_l_kinds (T : Txt P w K mg) {k : Nat} : FnOk P w K mg base (L2N.CX P w) (k + 1) T.f_l_kinds T.d_l_kinds [] (spM ⟨K, cvT T⟩ (mFun 0 0 [] (mb_l_kinds))) := by
  refine Fun.okN T.F_l_kinds sc_l_kinds (fun vs H Q E h => spM_len vs H Q E h) (fun cdv A outer s H vs Q E hr h0 => ⟨rd_l_kinds T (fun c o _ H => E c o H), ?_, body_mir (np := 0) (nl := 0) rfl (sim_l_kinds T _) h0⟩)
  exact (pss_one (ps_ret (pe_lst (pa_cons pe_str (pa_cons pe_str (pa_cons pe_str (pa_cons pe_str (pa_cons pe_str (pa_cons pe_str (pa_cons pe_str pa_nil))))))))))
theorem ok_l_kinds (T : Txt P w K mg) : FnOk P w K mg base (L2N.CX P w) 1 T.f_l_kinds T.d_l_kinds [] (spM ⟨K, cvT T⟩ m_l_kinds) := fn_l_kinds (k := 0) T 
def rd_l_fresh (T : Txt P w K mg) (W : WX) : TS :=
    (tSeq (tAsg (tC (.str "abcdefghijklmnopqrstuvwxyz")) (gName 2))
    (tSeq (tAsg (tCallS (spM ⟨K, cvT T⟩ m_l_draw) (WE W) (tCons (tVar 0) (tCons (tC (.int 3)) tNil))) (gName 3))
    (tSeq (tIfS (tTest (tOp (rEqX K) (tVar 3) (tC (.int 2)))) (tAsg (tCallS (spM ⟨K, cvT T⟩ m_l_draw) (WE W) (tCons (tVar 0) (tCons (tC (.int 6)) tNil))) (gName 3)) tNext)
    (tSeq (tAsg (tCallS (spM ⟨K, cvT T⟩ m_l_word) (WE W) (tCons (tVar 0) (tCons (tVar 2) (tCons (tOp (rAddD K) (tVar 2) (tC (.str "0123456789"))) (tCons (tVar 3) tNil))))) (gName 4))
    (tSeq (tFor (iRng1 (tCons (tC (.int 60)) tNil)) (gName 5) (tSeq (tIfS (tAnd (tTest (tOp (rNotInD K) (tVar 4) (tVar 1))) (tAnd (tTest (tOp (rNotInD K) (tVar 4) (tCallS (spM ⟨K, cvT T⟩ m_l_kinds) (WE W) tNil))) (tTest (tOp (rNotInD K) (tVar 4) (tLst (tCons (tC (.str "lent")) (tCons (tC (.str "main")) tNil))))))) (tRet (tVar 4)) tNext)
    (tAsg (tOp (rAddD K) (tSl (rSlX K) (tVar 4) tNoPart (tPart (tC (.int 4)))) (tCB (rStrD) (tCons (tVar 5) tNil))) (gName 4))))
    (tRet (tVar 4)))))))
theorem sim_l_fresh (T : Txt P w K mg) (W : WX) : SS (bC ⟨K, cvT T⟩ W 2 []) (rd_l_fresh T W) (mb_l_fresh) := by
  unfold rd_l_fresh mb_l_fresh lb_l_fresh_1
  exact (ss_seq (ss_asg (se_cs (by decide +kernel)) (sg_name rfl))
    (ss_seq (ss_asg (se_callS (sa_cons (se_var 0) (sa_cons (se_c (.int 3)) sa_nil))) (sg_name rfl))
    (ss_seq (ss_if (st_test (se_op p_eq (se_var 3) (se_c (.int 2)))) (ss_asg (se_callS (sa_cons (se_var 0) (sa_cons (se_c (.int 6)) sa_nil))) (sg_name rfl)) ss_next)
    (ss_seq (ss_asg (se_callS (sa_cons (se_var 0) (sa_cons (se_var 2) (sa_cons (se_op p_add (se_var 2) (se_cs (by decide +kernel))) (sa_cons (se_var 3) sa_nil))))) (sg_name rfl))
    (ss_seq (ss_for (si_rng1 (sa_cons (se_c (.int 60)) sa_nil)) (sg_name rfl) (ss_seq (ss_if (st_and (st_test (se_op p_notin (se_var 4) (se_var 1))) (st_and (st_test (se_op p_notin (se_var 4) (se_callS sa_nil))) (st_test (se_op p_notin (se_var 4) (se_lst (sa_cons (se_cs (by decide +kernel)) (sa_cons (se_cs (by decide +kernel)) sa_nil))))))) (ss_ret (se_var 4)) ss_next)
    (ss_asg (se_op p_add (se_sl p_sl (se_var 4) so_none (so_part (se_c (.int 4)))) (se_cb p_str (sa_cons (se_var 5) sa_nil))) (sg_name rfl))))
    (ss_ret (se_var 4)))))))
theorem fn_l_fresh (T : Txt P w K mg) {k : Nat} {k_l_draw : Nat} (G_l_draw : FnOk P w K mg base (L2N.CX P w) k_l_draw T.f_l_draw T.d_l_draw ["_law_pool_here", "_law_limit"] (spM ⟨K, cvT T⟩ m_l_draw)) (h_l_draw : k_l_draw ≤ k) {k_l_word : Nat} (G_l_word : FnOk P w K mg base (L2N.CX P w) k_l_word T.f_l_word T.d_l_word ["_law_pool_here", "_law_first", "_law_signs", "_law_more"] (spM ⟨K, cvT T⟩ m_l_word)) (h_l_word : k_l_word ≤ k) {k_l_kinds : Nat} (G_l_kinds : FnOk P w K mg base (L2N.CX P w) k_l_kinds T.f_l_kinds T.d_l_kinds [] (spM ⟨K, cvT T⟩ m_l_kinds)) (h_l_kinds : k_l_kinds ≤ k) : FnOk P w K mg base (L2N.CX P w) (k + 1) T.f_l_fresh T.d_l_fresh ["_law_pool_here", "_law_used"] (spM ⟨K, cvT T⟩ (mFun 2 4 [] (mb_l_fresh))) := by
  refine Fun.okN T.F_l_fresh sc_l_fresh (fun vs H Q E h => spM_len vs H Q E h) (fun cdv A outer s H vs Q E hr h0 => ⟨rd_l_fresh T (fun c o _ H => E c o H), ?_, body_mir (np := 2) (nl := 4) rfl (sim_l_fresh T _) h0⟩)
  exact (pss_cons (sset 2 sc_l_fresh.nd pe_str)
      (pss_cons (sset 3 sc_l_fresh.nd (pe_callS G_l_draw (hr.mono h_l_draw) rfl T.g_l_draw T.F_l_draw.kp T.b_l_draw (fun σ => L2N.passAt (L2N.takes_of rfl rfl rfl rfl) σ) (pa_cons (pv 0) (pa_cons pe_int pa_nil))))
      (pss_cons (ps_if (pt_cmpR (op_eqX hr.units) (pv 3) pe_int (nomark _)) (pss_one (sset 3 sc_l_fresh.nd (pe_callS G_l_draw (hr.mono h_l_draw) rfl T.g_l_draw T.F_l_draw.kp T.b_l_draw (fun σ => L2N.passAt (L2N.takes_of rfl rfl rfl rfl) σ) (pa_cons (pv 0) (pa_cons pe_int pa_nil))))) pss_nil)
      (pss_cons (sset 4 sc_l_fresh.nd (pe_callS G_l_word (hr.mono h_l_word) rfl T.g_l_word T.F_l_word.kp T.b_l_word (fun σ => L2N.passAt (L2N.takes_of rfl rfl rfl rfl) σ) (pa_cons (pv 0) (pa_cons (pv 2) (pa_cons (pe_op op_addD (pv 2) pe_str) (pa_cons (pv 3) pa_nil))))))
      (pss_cons (ps_for (passes_of rfl) rfl (pi_range1 (by rfl) T.b_range (pa_cons pe_int pa_nil)) (gn 5 sc_l_fresh.nd) (pss_cons (ps_if (PW.pt (pw_and (pt_cmpR (op_notInD hr.units) (pv 4) (pv 1) (by rfl)) (pw_and (pt_cmpR (op_notInD hr.units) (pv 4) (pe_callS0 G_l_kinds (hr.mono h_l_kinds) rfl T.g_l_kinds T.F_l_kinds.kp T.b_l_kinds (fun σ => L2N.passAt (L2N.takes_of rfl rfl rfl rfl) σ)) (by rfl)) (pw_and1 (pt_cmpR (op_notInD hr.units) (pv 4) (pe_lst (pa_cons pe_str (pa_cons pe_str pa_nil))) (by rfl)))))) (pss_one (ps_ret (pv 4))) pss_nil)
      (pss_one (sset 4 sc_l_fresh.nd (pe_op op_addD (pe_slice sl_X (pv 4) po_none (po_some pe_int)) (pe_callTy call_strD (by rfl) T.b_str bt_str (pa_cons (pv 5) pa_nil)))))))
      (pss_one (ps_ret (pv 4))))))))
theorem ok_l_fresh (T : Txt P w K mg) : FnOk P w K mg base (L2N.CX P w) 4 T.f_l_fresh T.d_l_fresh ["_law_pool_here", "_law_used"] (spM ⟨K, cvT T⟩ m_l_fresh) := fn_l_fresh (k := 3) T (ok_l_draw T) (by omega) (ok_l_word T) (by omega) (ok_l_kinds T) (by omega)
def rd_l_cell_text (T : Txt P w K mg) (W : WX) : TS :=
    (tSeq (tAsg (tCallS (spM ⟨K, cvT T⟩ m_l_draw) (WE W) (tCons (tVar 0) (tCons (tC (.int 4)) tNil))) (gName 1))
    (tSeq (tIfS (tTest (tOp (rEqX K) (tVar 1) (tC (.int 0)))) (tRet (tC (.str "answers"))) tNext)
    (tSeq (tIfS (tTest (tOp (rEqX K) (tVar 1) (tC (.int 1)))) (tRet (tOp (rAddD K) (tC (.str "task ")) (tCallS (spM ⟨K, cvT T⟩ m_l_task) (WE W) (tCons (tVar 0) tNil)))) tNext)
    (tRet (tCallS (spM ⟨K, cvT T⟩ m_l_fresh) (WE W) (tCons (tVar 0) (tCons (tLst tNil) tNil)))))))
theorem sim_l_cell_text (T : Txt P w K mg) (W : WX) : SS (bC ⟨K, cvT T⟩ W 1 []) (rd_l_cell_text T W) (mb_l_cell_text) := by
  unfold rd_l_cell_text mb_l_cell_text
  exact (ss_seq (ss_asg (se_callS (sa_cons (se_var 0) (sa_cons (se_c (.int 4)) sa_nil))) (sg_name rfl))
    (ss_seq (ss_if (st_test (se_op p_eq (se_var 1) (se_c (.int 0)))) (ss_ret (se_cs (by decide +kernel))) ss_next)
    (ss_seq (ss_if (st_test (se_op p_eq (se_var 1) (se_c (.int 1)))) (ss_ret (se_op p_add (se_cs (by decide +kernel)) (se_callS (sa_cons (se_var 0) sa_nil)))) ss_next)
    (ss_ret (se_callS (sa_cons (se_var 0) (sa_cons (se_lst sa_nil) sa_nil)))))))
theorem fn_l_cell_text (T : Txt P w K mg) {k : Nat} {k_l_draw : Nat} (G_l_draw : FnOk P w K mg base (L2N.CX P w) k_l_draw T.f_l_draw T.d_l_draw ["_law_pool_here", "_law_limit"] (spM ⟨K, cvT T⟩ m_l_draw)) (h_l_draw : k_l_draw ≤ k) {k_l_task : Nat} (G_l_task : FnOk P w K mg base (L2N.CX P w) k_l_task T.f_l_task T.d_l_task ["_law_pool_here"] (spM ⟨K, cvT T⟩ m_l_task)) (h_l_task : k_l_task ≤ k) {k_l_fresh : Nat} (G_l_fresh : FnOk P w K mg base (L2N.CX P w) k_l_fresh T.f_l_fresh T.d_l_fresh ["_law_pool_here", "_law_used"] (spM ⟨K, cvT T⟩ m_l_fresh)) (h_l_fresh : k_l_fresh ≤ k) : FnOk P w K mg base (L2N.CX P w) (k + 1) T.f_l_cell_text T.d_l_cell_text ["_law_pool_here"] (spM ⟨K, cvT T⟩ (mFun 1 1 [] (mb_l_cell_text))) := by
  refine Fun.okN T.F_l_cell_text sc_l_cell_text (fun vs H Q E h => spM_len vs H Q E h) (fun cdv A outer s H vs Q E hr h0 => ⟨rd_l_cell_text T (fun c o _ H => E c o H), ?_, body_mir (np := 1) (nl := 1) rfl (sim_l_cell_text T _) h0⟩)
  exact (pss_cons (sset 1 sc_l_cell_text.nd (pe_callS G_l_draw (hr.mono h_l_draw) rfl T.g_l_draw T.F_l_draw.kp T.b_l_draw (fun σ => L2N.passAt (L2N.takes_of rfl rfl rfl rfl) σ) (pa_cons (pv 0) (pa_cons pe_int pa_nil))))
      (pss_cons (ps_if (pt_cmpR (op_eqX hr.units) (pv 1) pe_int (nomark _)) (pss_one (ps_ret pe_str)) pss_nil)
      (pss_cons (ps_if (pt_cmpR (op_eqX hr.units) (pv 1) pe_int (nomark _)) (pss_one (ps_ret (pe_op op_addD pe_str (pe_callS G_l_task (hr.mono h_l_task) rfl T.g_l_task T.F_l_task.kp T.b_l_task (fun σ => L2N.passAt (L2N.takes_of rfl rfl rfl rfl) σ) (pa_cons (pv 0) pa_nil))))) pss_nil)
      (pss_one (ps_ret (pe_callS G_l_fresh (hr.mono h_l_fresh) rfl T.g_l_fresh T.F_l_fresh.kp T.b_l_fresh (fun σ => L2N.passAt (L2N.takes_of rfl rfl rfl rfl) σ) (pa_cons (pv 0) (pa_cons (pe_lst pa_nil) pa_nil))))))))
theorem ok_l_cell_text (T : Txt P w K mg) : FnOk P w K mg base (L2N.CX P w) 5 T.f_l_cell_text T.d_l_cell_text ["_law_pool_here"] (spM ⟨K, cvT T⟩ m_l_cell_text) := fn_l_cell_text (k := 4) T (ok_l_draw T) (by omega) (ok_l_task T) (by omega) (ok_l_fresh T) (by omega)
def rd_l_trace (T : Txt P w K mg) (W : WX) : TS :=
    (tSeq (tAsg (tLst tNil) (gName 2))
    (tSeq (tFor (iRng1 (tCons (tOp (rAddD K) (tC (.int 1)) (tCallS (spM ⟨K, cvT T⟩ m_l_draw) (WE W) (tCons (tVar 0) (tCons (tC (.int 4)) tNil)))) tNil)) (gName 3) (tDrop (tBM K "list" rAppend (tVar 2) (tCons (tCallS (spM ⟨K, cvT T⟩ m_l_task) (WE W) (tCons (tVar 0) tNil)) tNil))))
    (tSeq (tAsg (tLst tNil) (gName 4))
    (tSeq (tFor (iRng1 (tCons (tOp (rAddD K) (tC (.int 1)) (tCallS (spM ⟨K, cvT T⟩ m_l_draw) (WE W) (tCons (tVar 0) (tCons (tC (.int 5)) tNil)))) tNil)) (gName 3) (tSeq (tAsg (tCallS (spM ⟨K, cvT T⟩ m_l_cell_text) (WE W) (tCons (tVar 0) tNil)) (gName 5))
    (tIfS (tTest (tOp (rNotInD K) (tVar 5) (tVar 4))) (tDrop (tBM K "list" rAppend (tVar 4) (tCons (tVar 5) tNil))) tNext)))
    (tSeq (tAsg (tCallS (spM ⟨K, cvT T⟩ m_l_draw) (WE W) (tCons (tVar 0) (tCons (tC (.int 2)) tNil))) (gName 6))
    (tSeq (tAsg (tLst tNil) (gName 7))
    (tSeq (tFor (iRng1 (tCons (tCallS (spM ⟨K, cvT T⟩ m_l_draw) (WE W) (tCons (tVar 0) (tCons (tOp (rAddD K) (tVar 1) (tC (.int 1))) tNil))) tNil)) (gName 3) (tSeq (tAsg (tOp (rIxD K) (tVar 2) (tCallS (spM ⟨K, cvT T⟩ m_l_draw) (WE W) (tCons (tVar 0) (tCons (tCB (rLenD K) (tCons (tVar 2) tNil)) tNil)))) (gName 8))
    (tSeq (tAsg (tLst tNil) (gName 9))
    (tSeq (tAsg (tLst tNil) (gName 10))
    (tSeq (tIfS (tTest (tOp (rEqX K) (tVar 6) (tC (.int 1)))) (tDrop (tBM K "list" rAppend (tVar 10) (tCons (tOp (rAddD K) (tC (.str "task ")) (tVar 8)) tNil))) tNext)
    (tSeq (tFor (iSeq K (tVar 4)) (gName 5) (tSeq (tAsg (tCallS (spM ⟨K, cvT T⟩ m_l_draw) (WE W) (tCons (tVar 0) (tCons (tC (.int 7)) tNil))) (gName 11))
    (tSeq (tIfS (tOr (tTest (tOp (rEqX K) (tVar 11) (tC (.int 1)))) (tTest (tOp (rEqX K) (tVar 11) (tC (.int 2))))) (tDrop (tBM K "list" rAppend (tVar 9) (tCons (tVar 5) tNil))) tNext)
    (tIfS (tAnd (tOr (tTest (tOp (rEqX K) (tVar 11) (tC (.int 2)))) (tTest (tOp (rEqX K) (tVar 11) (tC (.int 3))))) (tTest (tOp (rNotInD K) (tVar 5) (tVar 10)))) (tDrop (tBM K "list" rAppend (tVar 10) (tCons (tVar 5) tNil))) tNext))))
    (tDrop (tBM K "list" rAppend (tVar 7) (tCons (tTup (tCons (tVar 8) (tCons (tCB (rTupleD K) (tCons (tCB (rSortX K) (tCons (tVar 9) tNil)) tNil)) (tCons (tCB (rTupleD K) (tCons (tCB (rSortX K) (tCons (tVar 10) tNil)) tNil)) tNil)))) tNil)))))))))
    (tRet (tCB (rTupleD K) (tCons (tVar 7) tNil))))))))))
theorem sim_l_trace (T : Txt P w K mg) (W : WX) : SS (bC ⟨K, cvT T⟩ W 2 []) (rd_l_trace T W) (mb_l_trace) := by
  unfold rd_l_trace mb_l_trace lb_l_trace_4 lb_l_trace_3 lb_l_trace_2 lb_l_trace_1
  exact (ss_seq (ss_asg (se_lst sa_nil) (sg_name rfl))
    (ss_seq (ss_for (si_rng1 (sa_cons (se_op p_add (se_c (.int 1)) (se_callS (sa_cons (se_var 0) (sa_cons (se_c (.int 4)) sa_nil)))) sa_nil)) (sg_name rfl) (ss_drop (se_app (se_callS (sa_cons (se_var 0) sa_nil)))))
    (ss_seq (ss_asg (se_lst sa_nil) (sg_name rfl))
    (ss_seq (ss_for (si_rng1 (sa_cons (se_op p_add (se_c (.int 1)) (se_callS (sa_cons (se_var 0) (sa_cons (se_c (.int 5)) sa_nil)))) sa_nil)) (sg_name rfl) (ss_seq (ss_asg (se_callS (sa_cons (se_var 0) sa_nil)) (sg_name rfl))
    (ss_if (st_test (se_op p_notin (se_var 5) (se_var 4))) (ss_drop (se_app (se_var 5))) ss_next)))
    (ss_seq (ss_asg (se_callS (sa_cons (se_var 0) (sa_cons (se_c (.int 2)) sa_nil))) (sg_name rfl))
    (ss_seq (ss_asg (se_lst sa_nil) (sg_name rfl))
    (ss_seq (ss_for (si_rng1 (sa_cons (se_callS (sa_cons (se_var 0) (sa_cons (se_op p_add (se_var 1) (se_c (.int 1))) sa_nil))) sa_nil)) (sg_name rfl) (ss_seq (ss_asg (se_op p_ix (se_var 2) (se_callS (sa_cons (se_var 0) (sa_cons (se_cb p_len (sa_cons (se_var 2) sa_nil)) sa_nil)))) (sg_name rfl))
    (ss_seq (ss_asg (se_lst sa_nil) (sg_name rfl))
    (ss_seq (ss_asg (se_lst sa_nil) (sg_name rfl))
    (ss_seq (ss_if (st_test (se_op p_eq (se_var 6) (se_c (.int 1)))) (ss_drop (se_app (se_op p_add (se_cs (by decide +kernel)) (se_var 8)))) ss_next)
    (ss_seq (ss_for (si_seq (se_var 4)) (sg_name rfl) (ss_seq (ss_asg (se_callS (sa_cons (se_var 0) (sa_cons (se_c (.int 7)) sa_nil))) (sg_name rfl))
    (ss_seq (ss_if (st_or (st_test (se_op p_eq (se_var 11) (se_c (.int 1)))) (st_test (se_op p_eq (se_var 11) (se_c (.int 2))))) (ss_drop (se_app (se_var 5))) ss_next)
    (ss_if (st_and (st_or (st_test (se_op p_eq (se_var 11) (se_c (.int 2)))) (st_test (se_op p_eq (se_var 11) (se_c (.int 3))))) (st_test (se_op p_notin (se_var 5) (se_var 10)))) (ss_drop (se_app (se_var 5))) ss_next))))
    (ss_drop (se_app (se_tup (sa_cons (se_var 8) (sa_cons (se_cb p_tuple (sa_cons (se_cb p_sorted (sa_cons (se_var 9) sa_nil)) sa_nil)) (sa_cons (se_cb p_tuple (sa_cons (se_cb p_sorted (sa_cons (se_var 10) sa_nil)) sa_nil)) sa_nil))))))))))))
    (ss_ret (se_cb p_tuple (sa_cons (se_var 7) sa_nil))))))))))
theorem fn_l_trace (T : Txt P w K mg) {k : Nat} {k_l_draw : Nat} (G_l_draw : FnOk P w K mg base (L2N.CX P w) k_l_draw T.f_l_draw T.d_l_draw ["_law_pool_here", "_law_limit"] (spM ⟨K, cvT T⟩ m_l_draw)) (h_l_draw : k_l_draw ≤ k) {k_l_task : Nat} (G_l_task : FnOk P w K mg base (L2N.CX P w) k_l_task T.f_l_task T.d_l_task ["_law_pool_here"] (spM ⟨K, cvT T⟩ m_l_task)) (h_l_task : k_l_task ≤ k) {k_l_cell_text : Nat} (G_l_cell_text : FnOk P w K mg base (L2N.CX P w) k_l_cell_text T.f_l_cell_text T.d_l_cell_text ["_law_pool_here"] (spM ⟨K, cvT T⟩ m_l_cell_text)) (h_l_cell_text : k_l_cell_text ≤ k) : FnOk P w K mg base (L2N.CX P w) (k + 1) T.f_l_trace T.d_l_trace ["_law_pool_here", "_law_bound_here"] (spM ⟨K, cvT T⟩ (mFun 2 10 [] (mb_l_trace))) := by
  refine Fun.okN T.F_l_trace sc_l_trace (fun vs H Q E h => spM_len vs H Q E h) (fun cdv A outer s H vs Q E hr h0 => ⟨rd_l_trace T (fun c o _ H => E c o H), ?_, body_mir (np := 2) (nl := 10) rfl (sim_l_trace T _) h0⟩)
  exact (pss_cons (sset 2 sc_l_trace.nd (pe_lst pa_nil))
      (pss_cons (ps_for (passes_of rfl) rfl (pi_range1 (by rfl) T.b_range (pa_cons (pe_op op_addD pe_int (pe_callS G_l_draw (hr.mono h_l_draw) rfl T.g_l_draw T.F_l_draw.kp T.b_l_draw (fun σ => L2N.passAt (L2N.takes_of rfl rfl rfl rfl) σ) (pa_cons (pv 0) (pa_cons pe_int pa_nil)))) pa_nil)) (gn 3 sc_l_trace.nd) (pss_one (ps_expr (pe_bm PySem.F.plainAttrs_list PySem.F.slot_list_append PySem.F.type_list_append mt_append (pv 2) (pa_cons (pe_callS G_l_task (hr.mono h_l_task) rfl T.g_l_task T.F_l_task.kp T.b_l_task (fun σ => L2N.passAt (L2N.takes_of rfl rfl rfl rfl) σ) (pa_cons (pv 0) pa_nil)) pa_nil)))))
      (pss_cons (sset 4 sc_l_trace.nd (pe_lst pa_nil))
      (pss_cons (ps_for (passes_of rfl) rfl (pi_range1 (by rfl) T.b_range (pa_cons (pe_op op_addD pe_int (pe_callS G_l_draw (hr.mono h_l_draw) rfl T.g_l_draw T.F_l_draw.kp T.b_l_draw (fun σ => L2N.passAt (L2N.takes_of rfl rfl rfl rfl) σ) (pa_cons (pv 0) (pa_cons pe_int pa_nil)))) pa_nil)) (gn 3 sc_l_trace.nd) (pss_cons (sset 5 sc_l_trace.nd (pe_callS G_l_cell_text (hr.mono h_l_cell_text) rfl T.g_l_cell_text T.F_l_cell_text.kp T.b_l_cell_text (fun σ => L2N.passAt (L2N.takes_of rfl rfl rfl rfl) σ) (pa_cons (pv 0) pa_nil)))
      (pss_one (ps_if (pt_cmpR (op_notInD hr.units) (pv 5) (pv 4) (by rfl)) (pss_one (ps_expr (pe_bm PySem.F.plainAttrs_list PySem.F.slot_list_append PySem.F.type_list_append mt_append (pv 4) (pa_cons (pv 5) pa_nil)))) pss_nil))))
      (pss_cons (sset 6 sc_l_trace.nd (pe_callS G_l_draw (hr.mono h_l_draw) rfl T.g_l_draw T.F_l_draw.kp T.b_l_draw (fun σ => L2N.passAt (L2N.takes_of rfl rfl rfl rfl) σ) (pa_cons (pv 0) (pa_cons pe_int pa_nil))))
      (pss_cons (sset 7 sc_l_trace.nd (pe_lst pa_nil))
      (pss_cons (ps_for (passes_of rfl) rfl (pi_range1 (by rfl) T.b_range (pa_cons (pe_callS G_l_draw (hr.mono h_l_draw) rfl T.g_l_draw T.F_l_draw.kp T.b_l_draw (fun σ => L2N.passAt (L2N.takes_of rfl rfl rfl rfl) σ) (pa_cons (pv 0) (pa_cons (pe_op op_addD (pv 1) pe_int) pa_nil))) pa_nil)) (gn 3 sc_l_trace.nd) (pss_cons (sset 8 sc_l_trace.nd (pe_ix (ix_D hr.units) (pv 2) (pe_callS G_l_draw (hr.mono h_l_draw) rfl T.g_l_draw T.F_l_draw.kp T.b_l_draw (fun σ => L2N.passAt (L2N.takes_of rfl rfl rfl rfl) σ) (pa_cons (pv 0) (pa_cons (pe_callB call_lenX (by rfl) T.b_len bt_len (pa_cons (pv 2) pa_nil)) pa_nil))) (fun _ _ => rfl)))
      (pss_cons (sset 9 sc_l_trace.nd (pe_lst pa_nil))
      (pss_cons (sset 10 sc_l_trace.nd (pe_lst pa_nil))
      (pss_cons (ps_if (pt_cmpR (op_eqX hr.units) (pv 6) pe_int (nomark _)) (pss_one (ps_expr (pe_bm PySem.F.plainAttrs_list PySem.F.slot_list_append PySem.F.type_list_append mt_append (pv 10) (pa_cons (pe_op op_addD pe_str (pv 8)) pa_nil)))) pss_nil)
      (pss_cons (ps_for (passes_of rfl) rfl (pi_seq (pv 4)) (gn 5 sc_l_trace.nd) (pss_cons (sset 11 sc_l_trace.nd (pe_callS G_l_draw (hr.mono h_l_draw) rfl T.g_l_draw T.F_l_draw.kp T.b_l_draw (fun σ => L2N.passAt (L2N.takes_of rfl rfl rfl rfl) σ) (pa_cons (pv 0) (pa_cons pe_int pa_nil))))
      (pss_cons (ps_if (PW.pt (pw_or (pt_cmpR (op_eqX hr.units) (pv 11) pe_int (nomark _)) (pw_or1 (pt_cmpR (op_eqX hr.units) (pv 11) pe_int (nomark _))))) (pss_one (ps_expr (pe_bm PySem.F.plainAttrs_list PySem.F.slot_list_append PySem.F.type_list_append mt_append (pv 9) (pa_cons (pv 5) pa_nil)))) pss_nil)
      (pss_one (ps_if (PW.pt (pw_and (PW.pt (pw_or (pt_cmpR (op_eqX hr.units) (pv 11) pe_int (nomark _)) (pw_or1 (pt_cmpR (op_eqX hr.units) (pv 11) pe_int (nomark _))))) (pw_and1 (pt_cmpR (op_notInD hr.units) (pv 5) (pv 10) (by rfl))))) (pss_one (ps_expr (pe_bm PySem.F.plainAttrs_list PySem.F.slot_list_append PySem.F.type_list_append mt_append (pv 10) (pa_cons (pv 5) pa_nil)))) pss_nil)))))
      (pss_one (ps_expr (pe_bm PySem.F.plainAttrs_list PySem.F.slot_list_append PySem.F.type_list_append mt_append (pv 7) (pa_cons (pe_tup (pa_cons (pv 8) (pa_cons (pe_callTy call_tupleD (by rfl) T.b_tuple bt_tuple (pa_cons (pe_callB (cr_sortX hr.units) (by rfl) T.b_sorted bt_sorted (pa_cons (pv 9) pa_nil)) pa_nil)) (pa_cons (pe_callTy call_tupleD (by rfl) T.b_tuple bt_tuple (pa_cons (pe_callB (cr_sortX hr.units) (by rfl) T.b_sorted bt_sorted (pa_cons (pv 10) pa_nil)) pa_nil)) pa_nil)))) pa_nil))))))))))
      (pss_one (ps_ret (pe_callTy call_tupleD (by rfl) T.b_tuple bt_tuple (pa_cons (pv 7) pa_nil)))))))))))
theorem ok_l_trace (T : Txt P w K mg) : FnOk P w K mg base (L2N.CX P w) 6 T.f_l_trace T.d_l_trace ["_law_pool_here", "_law_bound_here"] (spM ⟨K, cvT T⟩ m_l_trace) := fn_l_trace (k := 5) T (ok_l_draw T) (by omega) (ok_l_task T) (by omega) (ok_l_cell_text T) (by omega)
def rd_l_is_int (T : Txt P w K mg) (W : WX) : TS :=
    (tRet (tAndV (tCB (rIsi K) (tCons (tVar 0) (tCons (tC (.ty "int")) tNil))) (tNotV (tCB (rIsi K) (tCons (tVar 0) (tCons (tC (.ty "bool")) tNil))))))
theorem sim_l_is_int (T : Txt P w K mg) (W : WX) : SS (bC ⟨K, cvT T⟩ W 1 []) (rd_l_is_int T W) (mb_l_is_int) := by
  unfold rd_l_is_int mb_l_is_int
  exact (ss_ret (se_andV (se_cb p_isi (sa_cons (se_var 0) (sa_cons (se_c (.ty "int")) sa_nil))) (se_notV (se_cb p_isi (sa_cons (se_var 0) (sa_cons (se_c (.ty "bool")) sa_nil))))))
theorem fn_l_is_int (T : Txt P w K mg) {k : Nat} : FnOk P w K mg base (L2N.CX P w) (k + 1) T.f_l_is_int T.d_l_is_int ["_law_thing"] (spM ⟨K, cvT T⟩ (mFun 1 0 [] (mb_l_is_int))) := by
  refine Fun.okN T.F_l_is_int sc_l_is_int (fun vs H Q E h => spM_len vs H Q E h) (fun cdv A outer s H vs Q E hr h0 => ⟨rd_l_is_int T (fun c o _ H => E c o H), ?_, body_mir (np := 1) (nl := 0) rfl (sim_l_is_int T _) h0⟩)
  exact (pss_one (ps_ret (pe_and (pe_callB call_isiD (by rfl) T.b_isinstance bt_isinstance (pa_cons (pv 0) (pa_cons (pe_bltn (by rfl) T.b_int bt_int rfl) pa_nil))) (pe_one (pe_not (pe_callB call_isiD (by rfl) T.b_isinstance bt_isinstance (pa_cons (pv 0) (pa_cons (pe_bltn (by rfl) T.b_bool bt_bool rfl) pa_nil))))))))
theorem ok_l_is_int (T : Txt P w K mg) : FnOk P w K mg base (L2N.CX P w) 1 T.f_l_is_int T.d_l_is_int ["_law_thing"] (spM ⟨K, cvT T⟩ m_l_is_int) := fn_l_is_int (k := 0) T 
def rd_l_same (T : Txt P w K mg) (W : WX) (mrec : MF) : TS :=
    (tSeq (tIfS (tTest (tOp rIsD (tVar 1) (tC .non))) (tRet (tOp rIsD (tVar 0) (tC .non))) tNext)
    (tSeq (tIfS (tTru K (tCB (rIsi K) (tCons (tVar 1) (tCons (tC (.ty "bool")) tNil)))) (tRet (tAndV (tCB (rIsi K) (tCons (tVar 0) (tCons (tC (.ty "bool")) tNil))) (tOp (rEqX K) (tVar 0) (tVar 1)))) tNext)
    (tSeq (tIfS (tTru K (tCB (rIsi K) (tCons (tVar 1) (tCons (tC (.ty "int")) tNil)))) (tRet (tAndV (tCallS (spM ⟨K, cvT T⟩ m_l_is_int) (WE W) (tCons (tVar 0) tNil)) (tOp (rEqX K) (tVar 0) (tVar 1)))) tNext)
    (tSeq (tIfS (tTru K (tCB (rIsi K) (tCons (tVar 1) (tCons (tC (.ty "str")) tNil)))) (tRet (tAndV (tCB (rIsi K) (tCons (tVar 0) (tCons (tC (.ty "str")) tNil))) (tOp (rEqX K) (tVar 0) (tVar 1)))) tNext)
    (tSeq (tIfS (tAnd (tTru K (tCB (rIsi K) (tCons (tVar 1) (tCons (tC (.ty "list")) tNil)))) (tNot (tTru K (tCB (rIsi K) (tCons (tVar 0) (tCons (tC (.ty "list")) tNil)))))) (tRet (tC (.bl false))) tNext)
    (tSeq (tIfS (tAnd (tTru K (tCB (rIsi K) (tCons (tVar 1) (tCons (tC (.ty "tuple")) tNil)))) (tNot (tTru K (tCB (rIsi K) (tCons (tVar 0) (tCons (tC (.ty "tuple")) tNil)))))) (tRet (tC (.bl false))) tNext)
    (tSeq (tIfS (tTest (tOp (rNeX K) (tCB (rLenD K) (tCons (tVar 0) tNil)) (tCB (rLenD K) (tCons (tVar 1) tNil)))) (tRet (tC (.bl false))) tNext)
    (tSeq (tFor (iRng1 (tCons (tCB (rLenD K) (tCons (tVar 1) tNil)) tNil)) (gName 2) (tIfS (tNot (tTru K (tCallS (spM ⟨K, cvT T⟩ mrec) (WE W) (tCons (tOp (rIxD K) (tVar 0) (tVar 2)) (tCons (tOp (rIxD K) (tVar 1) (tVar 2)) tNil))))) (tRet (tC (.bl false))) tNext))
    (tRet (tC (.bl true)))))))))))
theorem sim_l_same (T : Txt P w K mg) (W : WX) (mrec : MF) : SS (bC ⟨K, cvT T⟩ W 2 []) (rd_l_same T W mrec) (mb_l_same mrec) := by
  unfold rd_l_same mb_l_same lb_l_same_1
  exact (ss_seq (ss_if (st_test (se_op p_is (se_var 1) (se_c .non))) (ss_ret (se_op p_is (se_var 0) (se_c .non))) ss_next)
    (ss_seq (ss_if (st_tru (se_cb p_isi (sa_cons (se_var 1) (sa_cons (se_c (.ty "bool")) sa_nil)))) (ss_ret (se_andV (se_cb p_isi (sa_cons (se_var 0) (sa_cons (se_c (.ty "bool")) sa_nil))) (se_op p_eq (se_var 0) (se_var 1)))) ss_next)
    (ss_seq (ss_if (st_tru (se_cb p_isi (sa_cons (se_var 1) (sa_cons (se_c (.ty "int")) sa_nil)))) (ss_ret (se_andV (se_callS (sa_cons (se_var 0) sa_nil)) (se_op p_eq (se_var 0) (se_var 1)))) ss_next)
    (ss_seq (ss_if (st_tru (se_cb p_isi (sa_cons (se_var 1) (sa_cons (se_c (.ty "str")) sa_nil)))) (ss_ret (se_andV (se_cb p_isi (sa_cons (se_var 0) (sa_cons (se_c (.ty "str")) sa_nil))) (se_op p_eq (se_var 0) (se_var 1)))) ss_next)
    (ss_seq (ss_if (st_and (st_tru (se_cb p_isi (sa_cons (se_var 1) (sa_cons (se_c (.ty "list")) sa_nil)))) (st_not (st_tru (se_cb p_isi (sa_cons (se_var 0) (sa_cons (se_c (.ty "list")) sa_nil)))))) (ss_ret (se_c (.bl false))) ss_next)
    (ss_seq (ss_if (st_and (st_tru (se_cb p_isi (sa_cons (se_var 1) (sa_cons (se_c (.ty "tuple")) sa_nil)))) (st_not (st_tru (se_cb p_isi (sa_cons (se_var 0) (sa_cons (se_c (.ty "tuple")) sa_nil)))))) (ss_ret (se_c (.bl false))) ss_next)
    (ss_seq (ss_if (st_test (se_op p_ne (se_cb p_len (sa_cons (se_var 0) sa_nil)) (se_cb p_len (sa_cons (se_var 1) sa_nil)))) (ss_ret (se_c (.bl false))) ss_next)
    (ss_seq (ss_for (si_rng1 (sa_cons (se_cb p_len (sa_cons (se_var 1) sa_nil)) sa_nil)) (sg_name rfl) (ss_if (st_not (st_tru (se_callS (sa_cons (se_op p_ix (se_var 0) (se_var 2)) (sa_cons (se_op p_ix (se_var 1) (se_var 2)) sa_nil))))) (ss_ret (se_c (.bl false))) ss_next))
    (ss_ret (se_c (.bl true)))))))))))
theorem fn_l_same (T : Txt P w K mg) {mrec : MF} {k : Nat} {k_l_is_int : Nat} (G_l_is_int : FnOk P w K mg base (L2N.CX P w) k_l_is_int T.f_l_is_int T.d_l_is_int ["_law_thing"] (spM ⟨K, cvT T⟩ m_l_is_int)) (h_l_is_int : k_l_is_int ≤ k) {k_l_same : Nat} (G_l_same : FnOk P w K mg base (L2N.CX P w) k_l_same T.f_l_same T.d_l_same ["_law_mine", "_law_due"] (spM ⟨K, cvT T⟩ mrec)) (h_l_same : k_l_same ≤ k) : FnOk P w K mg base (L2N.CX P w) (k + 1) T.f_l_same T.d_l_same ["_law_mine", "_law_due"] (spM ⟨K, cvT T⟩ (mFun 2 1 [] (mb_l_same mrec))) := by
  refine Fun.okN T.F_l_same sc_l_same (fun vs H Q E h => spM_len vs H Q E h) (fun cdv A outer s H vs Q E hr h0 => ⟨rd_l_same T (fun c o _ H => E c o H) mrec, ?_, body_mir (np := 2) (nl := 1) rfl (sim_l_same T _ mrec) h0⟩)
  exact (pss_cons (ps_if (pt_cmpR op_isD (pv 1) pe_non (nomark _)) (pss_one (ps_ret (pe_cmpR op_isD (pv 0) pe_non (nomark _)))) pss_nil)
      (pss_cons (ps_if (pt_truthD (pe_callB call_isiD (by rfl) T.b_isinstance bt_isinstance (pa_cons (pv 1) (pa_cons (pe_bltn (by rfl) T.b_bool bt_bool rfl) pa_nil))) (by intro _; rfl)) (pss_one (ps_ret (pe_and (pe_callB call_isiD (by rfl) T.b_isinstance bt_isinstance (pa_cons (pv 0) (pa_cons (pe_bltn (by rfl) T.b_bool bt_bool rfl) pa_nil))) (pe_one (pe_cmpR (op_eqX hr.units) (pv 0) (pv 1) (nomark _)))))) pss_nil)
      (pss_cons (ps_if (pt_truthD (pe_callB call_isiD (by rfl) T.b_isinstance bt_isinstance (pa_cons (pv 1) (pa_cons (pe_bltn (by rfl) T.b_int bt_int rfl) pa_nil))) (by intro _; rfl)) (pss_one (ps_ret (pe_and (pe_callS G_l_is_int (hr.mono h_l_is_int) rfl T.g_l_is_int T.F_l_is_int.kp T.b_l_is_int (fun σ => L2N.passAt (L2N.takes_of rfl rfl rfl rfl) σ) (pa_cons (pv 0) pa_nil)) (pe_one (pe_cmpR (op_eqX hr.units) (pv 0) (pv 1) (nomark _)))))) pss_nil)
      (pss_cons (ps_if (pt_truthD (pe_callB call_isiD (by rfl) T.b_isinstance bt_isinstance (pa_cons (pv 1) (pa_cons (pe_bltn (by rfl) T.b_str bt_str rfl) pa_nil))) (by intro _; rfl)) (pss_one (ps_ret (pe_and (pe_callB call_isiD (by rfl) T.b_isinstance bt_isinstance (pa_cons (pv 0) (pa_cons (pe_bltn (by rfl) T.b_str bt_str rfl) pa_nil))) (pe_one (pe_cmpR (op_eqX hr.units) (pv 0) (pv 1) (nomark _)))))) pss_nil)
      (pss_cons (ps_if (PW.pt (pw_and (pt_truthD (pe_callB call_isiD (by rfl) T.b_isinstance bt_isinstance (pa_cons (pv 1) (pa_cons (pe_bltn (by rfl) T.b_list bt_list rfl) pa_nil))) (by intro _; rfl)) (pw_and1 (pt_not (pt_truthD (pe_callB call_isiD (by rfl) T.b_isinstance bt_isinstance (pa_cons (pv 0) (pa_cons (pe_bltn (by rfl) T.b_list bt_list rfl) pa_nil))) (by intro _; rfl)))))) (pss_one (ps_ret pe_bl)) pss_nil)
      (pss_cons (ps_if (PW.pt (pw_and (pt_truthD (pe_callB call_isiD (by rfl) T.b_isinstance bt_isinstance (pa_cons (pv 1) (pa_cons (pe_bltn (by rfl) T.b_tuple bt_tuple rfl) pa_nil))) (by intro _; rfl)) (pw_and1 (pt_not (pt_truthD (pe_callB call_isiD (by rfl) T.b_isinstance bt_isinstance (pa_cons (pv 0) (pa_cons (pe_bltn (by rfl) T.b_tuple bt_tuple rfl) pa_nil))) (by intro _; rfl)))))) (pss_one (ps_ret pe_bl)) pss_nil)
      (pss_cons (ps_if (pt_cmpR (op_neX hr.units) (pe_callB call_lenX (by rfl) T.b_len bt_len (pa_cons (pv 0) pa_nil)) (pe_callB call_lenX (by rfl) T.b_len bt_len (pa_cons (pv 1) pa_nil)) (nomark _)) (pss_one (ps_ret pe_bl)) pss_nil)
      (pss_cons (ps_for (passes_of rfl) rfl (pi_range1 (by rfl) T.b_range (pa_cons (pe_callB call_lenX (by rfl) T.b_len bt_len (pa_cons (pv 1) pa_nil)) pa_nil)) (gn 2 sc_l_same.nd) (pss_one (ps_if (pt_not (pt_truthD (pe_callS G_l_same (hr.mono h_l_same) rfl T.g_l_same T.F_l_same.kp T.b_l_same (fun σ => L2N.passAt (L2N.takes_of rfl rfl rfl rfl) σ) (pa_cons (pe_ix (ix_D hr.units) (pv 0) (pv 2) (fun _ _ => rfl)) (pa_cons (pe_ix (ix_D hr.units) (pv 1) (pv 2) (fun _ _ => rfl)) pa_nil))) (by intro _; rfl))) (pss_one (ps_ret pe_bl)) pss_nil)))
      (pss_one (ps_ret pe_bl))))))))))
theorem ok_l_same (T : Txt P w K mg) : ∀ n, FnOk P w K mg base (L2N.CX P w) (n + 2) T.f_l_same T.d_l_same ["_law_mine", "_law_due"] (spM ⟨K, cvT T⟩ (m_l_same n))
  | 0 => fn_stuck (K := ⟨K, cvT T⟩)
  | n + 1 => fn_l_same (k := n + 2) T (ok_l_is_int T) (by omega) (ok_l_same T n) (by omega)
theorem okn_l_same (T : Txt P w K mg) : FnOk P w K mg base (L2N.CX P w) 10 T.f_l_same T.d_l_same ["_law_mine", "_law_due"] (spM ⟨K, cvT T⟩ (m_l_same 8)) := ok_l_same T 8
def rd_l_bound (T : Txt P w K mg) (W : WX) : TS :=
    (tSeq (tIfS (tTest (tOp (rEqX K) (tOp (rIxD K) (tVar 0) (tC (.int 0))) (tOp (rIxD K) (tVar 1) (tC (.int 0))))) (tRet (tC (.bl true))) tNext)
    (tSeq (tFor (iSeq K (tOp (rIxD K) (tVar 0) (tC (.int 2)))) (gName 2) (tIfS (tOr (tTest (tOp (rInD K) (tVar 2) (tOp (rIxD K) (tVar 1) (tC (.int 1))))) (tTest (tOp (rInD K) (tVar 2) (tOp (rIxD K) (tVar 1) (tC (.int 2)))))) (tRet (tC (.bl true))) tNext))
    (tSeq (tFor (iSeq K (tOp (rIxD K) (tVar 1) (tC (.int 2)))) (gName 2) (tIfS (tTest (tOp (rInD K) (tVar 2) (tOp (rIxD K) (tVar 0) (tC (.int 1))))) (tRet (tC (.bl true))) tNext))
    (tRet (tC (.bl false))))))
theorem sim_l_bound (T : Txt P w K mg) (W : WX) : SS (bC ⟨K, cvT T⟩ W 2 []) (rd_l_bound T W) (mb_l_bound) := by
  unfold rd_l_bound mb_l_bound lb_l_bound_2 lb_l_bound_1
  exact (ss_seq (ss_if (st_test (se_op p_eq (se_op p_ix (se_var 0) (se_c (.int 0))) (se_op p_ix (se_var 1) (se_c (.int 0))))) (ss_ret (se_c (.bl true))) ss_next)
    (ss_seq (ss_for (si_seq (se_op p_ix (se_var 0) (se_c (.int 2)))) (sg_name rfl) (ss_if (st_or (st_test (se_op p_in (se_var 2) (se_op p_ix (se_var 1) (se_c (.int 1))))) (st_test (se_op p_in (se_var 2) (se_op p_ix (se_var 1) (se_c (.int 2)))))) (ss_ret (se_c (.bl true))) ss_next))
    (ss_seq (ss_for (si_seq (se_op p_ix (se_var 1) (se_c (.int 2)))) (sg_name rfl) (ss_if (st_test (se_op p_in (se_var 2) (se_op p_ix (se_var 0) (se_c (.int 1))))) (ss_ret (se_c (.bl true))) ss_next))
    (ss_ret (se_c (.bl false))))))
theorem fn_l_bound (T : Txt P w K mg) {k : Nat} : FnOk P w K mg base (L2N.CX P w) (k + 1) T.f_l_bound T.d_l_bound ["_law_one", "_law_other"] (spM ⟨K, cvT T⟩ (mFun 2 1 [] (mb_l_bound))) := by
  refine Fun.okN T.F_l_bound sc_l_bound (fun vs H Q E h => spM_len vs H Q E h) (fun cdv A outer s H vs Q E hr h0 => ⟨rd_l_bound T (fun c o _ H => E c o H), ?_, body_mir (np := 2) (nl := 1) rfl (sim_l_bound T _) h0⟩)
  exact (pss_cons (ps_if (pt_cmpR (op_eqX hr.units) (pe_ix (ix_D hr.units) (pv 0) pe_int (fun _ _ => rfl)) (pe_ix (ix_D hr.units) (pv 1) pe_int (fun _ _ => rfl)) (nomark _)) (pss_one (ps_ret pe_bl)) pss_nil)
      (pss_cons (ps_for (passes_of rfl) rfl (pi_seq (pe_ix (ix_D hr.units) (pv 0) pe_int (fun _ _ => rfl))) (gn 2 sc_l_bound.nd) (pss_one (ps_if (PW.pt (pw_or (pt_cmpR (op_inD hr.units) (pv 2) (pe_ix (ix_D hr.units) (pv 1) pe_int (fun _ _ => rfl)) (by rfl)) (pw_or1 (pt_cmpR (op_inD hr.units) (pv 2) (pe_ix (ix_D hr.units) (pv 1) pe_int (fun _ _ => rfl)) (by rfl))))) (pss_one (ps_ret pe_bl)) pss_nil)))
      (pss_cons (ps_for (passes_of rfl) rfl (pi_seq (pe_ix (ix_D hr.units) (pv 1) pe_int (fun _ _ => rfl))) (gn 2 sc_l_bound.nd) (pss_one (ps_if (pt_cmpR (op_inD hr.units) (pv 2) (pe_ix (ix_D hr.units) (pv 0) pe_int (fun _ _ => rfl)) (by rfl)) (pss_one (ps_ret pe_bl)) pss_nil)))
      (pss_one (ps_ret pe_bl)))))
theorem ok_l_bound (T : Txt P w K mg) : FnOk P w K mg base (L2N.CX P w) 1 T.f_l_bound T.d_l_bound ["_law_one", "_law_other"] (spM ⟨K, cvT T⟩ m_l_bound) := fn_l_bound (k := 0) T 
def rd_free (T : Txt P w K mg) (W : WX) : TS :=
    (tSeq (tIfS (tTest (tOp (rEqX K) (tOp (rIxD K) (tVar 0) (tC (.int 0))) (tOp (rIxD K) (tVar 1) (tC (.int 0))))) (tRet (tC (.bl false))) tNext)
    (tSeq (tFor (iSeq K (tOp (rIxD K) (tVar 0) (tC (.int 2)))) (gName 2) (tIfS (tOr (tTest (tOp (rInD K) (tVar 2) (tOp (rIxD K) (tVar 1) (tC (.int 1))))) (tTest (tOp (rInD K) (tVar 2) (tOp (rIxD K) (tVar 1) (tC (.int 2)))))) (tRet (tC (.bl false))) tNext))
    (tSeq (tFor (iSeq K (tOp (rIxD K) (tVar 1) (tC (.int 2)))) (gName 2) (tIfS (tTest (tOp (rInD K) (tVar 2) (tOp (rIxD K) (tVar 0) (tC (.int 1))))) (tRet (tC (.bl false))) tNext))
    (tRet (tC (.bl true))))))
theorem sim_free (T : Txt P w K mg) (W : WX) : SS (bC ⟨K, cvT T⟩ W 2 []) (rd_free T W) (mb_free) := by
  unfold rd_free mb_free lb_free_2 lb_free_1
  exact (ss_seq (ss_if (st_test (se_op p_eq (se_op p_ix (se_var 0) (se_c (.int 0))) (se_op p_ix (se_var 1) (se_c (.int 0))))) (ss_ret (se_c (.bl false))) ss_next)
    (ss_seq (ss_for (si_seq (se_op p_ix (se_var 0) (se_c (.int 2)))) (sg_name rfl) (ss_if (st_or (st_test (se_op p_in (se_var 2) (se_op p_ix (se_var 1) (se_c (.int 1))))) (st_test (se_op p_in (se_var 2) (se_op p_ix (se_var 1) (se_c (.int 2)))))) (ss_ret (se_c (.bl false))) ss_next))
    (ss_seq (ss_for (si_seq (se_op p_ix (se_var 1) (se_c (.int 2)))) (sg_name rfl) (ss_if (st_test (se_op p_in (se_var 2) (se_op p_ix (se_var 0) (se_c (.int 1))))) (ss_ret (se_c (.bl false))) ss_next))
    (ss_ret (se_c (.bl true))))))
theorem fn_free (T : Txt P w K mg) {k : Nat} : FnOk P w K mg base (L2N.CX P w) (k + 1) T.f_free T.d_free ["one", "other"] (spM ⟨K, cvT T⟩ (mFun 2 1 [] (mb_free))) := by
  refine Fun.okN T.F_free sc_free (fun vs H Q E h => spM_len vs H Q E h) (fun cdv A outer s H vs Q E hr h0 => ⟨rd_free T (fun c o _ H => E c o H), ?_, body_mir (np := 2) (nl := 1) rfl (sim_free T _) h0⟩)
  exact (pss_cons (ps_if (pt_cmpR (op_eqX hr.units) (pe_ix (ix_D hr.units) (pv 0) pe_int (fun _ _ => rfl)) (pe_ix (ix_D hr.units) (pv 1) pe_int (fun _ _ => rfl)) (nomark _)) (pss_one (ps_ret pe_bl)) pss_nil)
      (pss_cons (ps_for (passes_of rfl) rfl (pi_seq (pe_ix (ix_D hr.units) (pv 0) pe_int (fun _ _ => rfl))) (gn 2 sc_free.nd) (pss_one (ps_if (PW.pt (pw_or (pt_cmpR (op_inD hr.units) (pv 2) (pe_ix (ix_D hr.units) (pv 1) pe_int (fun _ _ => rfl)) (by rfl)) (pw_or1 (pt_cmpR (op_inD hr.units) (pv 2) (pe_ix (ix_D hr.units) (pv 1) pe_int (fun _ _ => rfl)) (by rfl))))) (pss_one (ps_ret pe_bl)) pss_nil)))
      (pss_cons (ps_for (passes_of rfl) rfl (pi_seq (pe_ix (ix_D hr.units) (pv 1) pe_int (fun _ _ => rfl))) (gn 2 sc_free.nd) (pss_one (ps_if (pt_cmpR (op_inD hr.units) (pv 2) (pe_ix (ix_D hr.units) (pv 0) pe_int (fun _ _ => rfl)) (by rfl)) (pss_one (ps_ret pe_bl)) pss_nil)))
      (pss_one (ps_ret pe_bl)))))
theorem ok_free (T : Txt P w K mg) : FnOk P w K mg base (L2N.CX P w) 1 T.f_free T.d_free ["one", "other"] (spM ⟨K, cvT T⟩ m_free) := fn_free (k := 0) T 
def rd_l_exchanged (T : Txt P w K mg) (W : WX) : TS :=
    (tSeq (tAsg (tLst tNil) (gName 1))
    (tSeq (tFor (iRng1 (tCons (tOp rSubD (tCB (rLenD K) (tCons (tVar 0) tNil)) (tC (.int 1))) tNil)) (gName 2) (tIfS (tNot (tTru K (tCallS (spM ⟨K, cvT T⟩ m_l_bound) (WE W) (tCons (tOp (rIxD K) (tVar 0) (tVar 2)) (tCons (tOp (rIxD K) (tVar 0) (tOp (rAddD K) (tVar 2) (tC (.int 1)))) tNil))))) (tDrop (tBM K "list" rAppend (tVar 1) (tCons (tOp (rAddD K) (tOp (rAddD K) (tSl (rSlX K) (tVar 0) tNoPart (tPart (tVar 2))) (tTup (tCons (tOp (rIxD K) (tVar 0) (tOp (rAddD K) (tVar 2) (tC (.int 1)))) (tCons (tOp (rIxD K) (tVar 0) (tVar 2)) tNil)))) (tSl (rSlX K) (tVar 0) (tPart (tOp (rAddD K) (tVar 2) (tC (.int 2)))) tNoPart)) tNil))) tNext))
    (tRet (tVar 1))))
theorem sim_l_exchanged (T : Txt P w K mg) (W : WX) : SS (bC ⟨K, cvT T⟩ W 1 []) (rd_l_exchanged T W) (mb_l_exchanged) := by
  unfold rd_l_exchanged mb_l_exchanged lb_l_exchanged_1
  exact (ss_seq (ss_asg (se_lst sa_nil) (sg_name rfl))
    (ss_seq (ss_for (si_rng1 (sa_cons (se_op p_sub (se_cb p_len (sa_cons (se_var 0) sa_nil)) (se_c (.int 1))) sa_nil)) (sg_name rfl) (ss_if (st_not (st_tru (se_callS (sa_cons (se_op p_ix (se_var 0) (se_var 2)) (sa_cons (se_op p_ix (se_var 0) (se_op p_add (se_var 2) (se_c (.int 1)))) sa_nil))))) (ss_drop (se_app (se_op p_add (se_op p_add (se_sl p_sl (se_var 0) so_none (so_part (se_var 2))) (se_tup (sa_cons (se_op p_ix (se_var 0) (se_op p_add (se_var 2) (se_c (.int 1)))) (sa_cons (se_op p_ix (se_var 0) (se_var 2)) sa_nil)))) (se_sl p_sl (se_var 0) (so_part (se_op p_add (se_var 2) (se_c (.int 2)))) so_none)))) ss_next))
    (ss_ret (se_var 1))))
theorem fn_l_exchanged (T : Txt P w K mg) {k : Nat} {k_l_bound : Nat} (G_l_bound : FnOk P w K mg base (L2N.CX P w) k_l_bound T.f_l_bound T.d_l_bound ["_law_one", "_law_other"] (spM ⟨K, cvT T⟩ m_l_bound)) (h_l_bound : k_l_bound ≤ k) : FnOk P w K mg base (L2N.CX P w) (k + 1) T.f_l_exchanged T.d_l_exchanged ["_law_trace_here"] (spM ⟨K, cvT T⟩ (mFun 1 2 [] (mb_l_exchanged))) := by
  refine Fun.okN T.F_l_exchanged sc_l_exchanged (fun vs H Q E h => spM_len vs H Q E h) (fun cdv A outer s H vs Q E hr h0 => ⟨rd_l_exchanged T (fun c o _ H => E c o H), ?_, body_mir (np := 1) (nl := 2) rfl (sim_l_exchanged T _) h0⟩)
  exact (pss_cons (sset 1 sc_l_exchanged.nd (pe_lst pa_nil))
      (pss_cons (ps_for (passes_of rfl) rfl (pi_range1 (by rfl) T.b_range (pa_cons (pe_op op_subD (pe_callB call_lenX (by rfl) T.b_len bt_len (pa_cons (pv 0) pa_nil)) pe_int) pa_nil)) (gn 2 sc_l_exchanged.nd) (pss_one (ps_if (pt_not (pt_truthD (pe_callS G_l_bound (hr.mono h_l_bound) rfl T.g_l_bound T.F_l_bound.kp T.b_l_bound (fun σ => L2N.passAt (L2N.takes_of rfl rfl rfl rfl) σ) (pa_cons (pe_ix (ix_D hr.units) (pv 0) (pv 2) (fun _ _ => rfl)) (pa_cons (pe_ix (ix_D hr.units) (pv 0) (pe_op op_addD (pv 2) pe_int) (fun _ _ => rfl)) pa_nil))) (by intro _; rfl))) (pss_one (ps_expr (pe_bm PySem.F.plainAttrs_list PySem.F.slot_list_append PySem.F.type_list_append mt_append (pv 1) (pa_cons (pe_op op_addD (pe_op op_addD (pe_slice sl_X (pv 0) po_none (po_some (pv 2))) (pe_tup (pa_cons (pe_ix (ix_D hr.units) (pv 0) (pe_op op_addD (pv 2) pe_int) (fun _ _ => rfl)) (pa_cons (pe_ix (ix_D hr.units) (pv 0) (pv 2) (fun _ _ => rfl)) pa_nil)))) (pe_slice sl_X (pv 0) (po_some (pe_op op_addD (pv 2) pe_int)) po_none)) pa_nil)))) pss_nil)))
      (pss_one (ps_ret (pv 1)))))
theorem ok_l_exchanged (T : Txt P w K mg) : FnOk P w K mg base (L2N.CX P w) 2 T.f_l_exchanged T.d_l_exchanged ["_law_trace_here"] (spM ⟨K, cvT T⟩ m_l_exchanged) := fn_l_exchanged (k := 1) T (ok_l_bound T) (by omega)
def rd_l_records (T : Txt P w K mg) (W : WX) : TS :=
    (tSeq (tAsg (tLst tNil) (gName 2))
    (tSeq (tFor (iSeq K (tVar 1)) (gName 3) (tSeq (tAsg (tOp (rIxD K) (tLst (tCons (tC (.str "row")) (tCons (tC (.str "gather")) (tCons (tC (.str "deed")) (tCons (tC (.str "end")) tNil))))) (tCallS (spM ⟨K, cvT T⟩ m_l_draw) (WE W) (tCons (tVar 0) (tCons (tC (.int 4)) tNil)))) (gName 4))
    (tSeq (tAsg (tOp (rIxD K) (tLst (tCons (tC (.str "")) (tCons (tC (.str "f.3")) (tCons (tC (.str "main.12+")) tNil)))) (tCallS (spM ⟨K, cvT T⟩ m_l_draw) (WE W) (tCons (tVar 0) (tCons (tC (.int 3)) tNil)))) (gName 5))
    (tSeq (tAsg (tCallS (spM ⟨K, cvT T⟩ m_l_fresh) (WE W) (tCons (tVar 0) (tCons (tLst tNil) tNil))) (gName 6))
    (tDrop (tBM K "list" rAppend (tVar 2) (tCons (tTup (tCons (tOp (rIxD K) (tVar 3) (tC (.int 0))) (tCons (tVar 4) (tCons (tVar 6) (tCons (tCallS (spM ⟨K, cvT T⟩ m_l_draw) (WE W) (tCons (tVar 0) (tCons (tC (.int 17)) tNil))) (tCons (tVar 5) (tCons (tOp (rIxD K) (tVar 3) (tC (.int 1))) (tCons (tOp (rIxD K) (tVar 3) (tC (.int 2))) tNil)))))))) tNil)))))))
    (tRet (tVar 2))))
theorem sim_l_records (T : Txt P w K mg) (W : WX) : SS (bC ⟨K, cvT T⟩ W 2 []) (rd_l_records T W) (mb_l_records) := by
  unfold rd_l_records mb_l_records lb_l_records_1
  exact (ss_seq (ss_asg (se_lst sa_nil) (sg_name rfl))
    (ss_seq (ss_for (si_seq (se_var 1)) (sg_name rfl) (ss_seq (ss_asg (se_op p_ix (se_lst (sa_cons (se_cs (by decide +kernel)) (sa_cons (se_cs (by decide +kernel)) (sa_cons (se_cs (by decide +kernel)) (sa_cons (se_cs (by decide +kernel)) sa_nil))))) (se_callS (sa_cons (se_var 0) (sa_cons (se_c (.int 4)) sa_nil)))) (sg_name rfl))
    (ss_seq (ss_asg (se_op p_ix (se_lst (sa_cons (se_cs (by decide +kernel)) (sa_cons (se_cs (by decide +kernel)) (sa_cons (se_cs (by decide +kernel)) sa_nil)))) (se_callS (sa_cons (se_var 0) (sa_cons (se_c (.int 3)) sa_nil)))) (sg_name rfl))
    (ss_seq (ss_asg (se_callS (sa_cons (se_var 0) (sa_cons (se_lst sa_nil) sa_nil))) (sg_name rfl))
    (ss_drop (se_app (se_tup (sa_cons (se_op p_ix (se_var 3) (se_c (.int 0))) (sa_cons (se_var 4) (sa_cons (se_var 6) (sa_cons (se_callS (sa_cons (se_var 0) (sa_cons (se_c (.int 17)) sa_nil))) (sa_cons (se_var 5) (sa_cons (se_op p_ix (se_var 3) (se_c (.int 1))) (sa_cons (se_op p_ix (se_var 3) (se_c (.int 2))) sa_nil))))))))))))))
    (ss_ret (se_var 2))))
theorem fn_l_records (T : Txt P w K mg) {k : Nat} {k_l_draw : Nat} (G_l_draw : FnOk P w K mg base (L2N.CX P w) k_l_draw T.f_l_draw T.d_l_draw ["_law_pool_here", "_law_limit"] (spM ⟨K, cvT T⟩ m_l_draw)) (h_l_draw : k_l_draw ≤ k) {k_l_fresh : Nat} (G_l_fresh : FnOk P w K mg base (L2N.CX P w) k_l_fresh T.f_l_fresh T.d_l_fresh ["_law_pool_here", "_law_used"] (spM ⟨K, cvT T⟩ m_l_fresh)) (h_l_fresh : k_l_fresh ≤ k) : FnOk P w K mg base (L2N.CX P w) (k + 1) T.f_l_records T.d_l_records ["_law_pool_here", "_law_trace_here"] (spM ⟨K, cvT T⟩ (mFun 2 5 [] (mb_l_records))) := by
  refine Fun.okN T.F_l_records sc_l_records (fun vs H Q E h => spM_len vs H Q E h) (fun cdv A outer s H vs Q E hr h0 => ⟨rd_l_records T (fun c o _ H => E c o H), ?_, body_mir (np := 2) (nl := 5) rfl (sim_l_records T _) h0⟩)
  exact (pss_cons (sset 2 sc_l_records.nd (pe_lst pa_nil))
      (pss_cons (ps_for (passes_of rfl) rfl (pi_seq (pv 1)) (gn 3 sc_l_records.nd) (pss_cons (sset 4 sc_l_records.nd (pe_ix (ix_D hr.units) (pe_lst (pa_cons pe_str (pa_cons pe_str (pa_cons pe_str (pa_cons pe_str pa_nil))))) (pe_callS G_l_draw (hr.mono h_l_draw) rfl T.g_l_draw T.F_l_draw.kp T.b_l_draw (fun σ => L2N.passAt (L2N.takes_of rfl rfl rfl rfl) σ) (pa_cons (pv 0) (pa_cons pe_int pa_nil))) (fun _ _ => rfl)))
      (pss_cons (sset 5 sc_l_records.nd (pe_ix (ix_D hr.units) (pe_lst (pa_cons pe_str (pa_cons pe_str (pa_cons pe_str pa_nil)))) (pe_callS G_l_draw (hr.mono h_l_draw) rfl T.g_l_draw T.F_l_draw.kp T.b_l_draw (fun σ => L2N.passAt (L2N.takes_of rfl rfl rfl rfl) σ) (pa_cons (pv 0) (pa_cons pe_int pa_nil))) (fun _ _ => rfl)))
      (pss_cons (sset 6 sc_l_records.nd (pe_callS G_l_fresh (hr.mono h_l_fresh) rfl T.g_l_fresh T.F_l_fresh.kp T.b_l_fresh (fun σ => L2N.passAt (L2N.takes_of rfl rfl rfl rfl) σ) (pa_cons (pv 0) (pa_cons (pe_lst pa_nil) pa_nil))))
      (pss_one (ps_expr (pe_bm PySem.F.plainAttrs_list PySem.F.slot_list_append PySem.F.type_list_append mt_append (pv 2) (pa_cons (pe_tup (pa_cons (pe_ix (ix_D hr.units) (pv 3) pe_int (fun _ _ => rfl)) (pa_cons (pv 4) (pa_cons (pv 6) (pa_cons (pe_callS G_l_draw (hr.mono h_l_draw) rfl T.g_l_draw T.F_l_draw.kp T.b_l_draw (fun σ => L2N.passAt (L2N.takes_of rfl rfl rfl rfl) σ) (pa_cons (pv 0) (pa_cons pe_int pa_nil))) (pa_cons (pv 5) (pa_cons (pe_ix (ix_D hr.units) (pv 3) pe_int (fun _ _ => rfl)) (pa_cons (pe_ix (ix_D hr.units) (pv 3) pe_int (fun _ _ => rfl)) pa_nil)))))))) pa_nil))))))))
      (pss_one (ps_ret (pv 2)))))
theorem ok_l_records (T : Txt P w K mg) : FnOk P w K mg base (L2N.CX P w) 5 T.f_l_records T.d_l_records ["_law_pool_here", "_law_trace_here"] (spM ⟨K, cvT T⟩ m_l_records) := fn_l_records (k := 4) T (ok_l_draw T) (by omega) (ok_l_fresh T) (by omega)
def rd_trace_of (T : Txt P w K mg) (W : WX) : TS :=
    (tRet (tCB (rTupleD K) (tCons (tLc (iSeq K (tVar 0)) (gName 1) tYes (tTup (tCons (tOp (rIxD K) (tVar 1) (tC (.int 0))) (tCons (tOp (rIxD K) (tVar 1) (tC (.int 5))) (tCons (tOp (rIxD K) (tVar 1) (tC (.int 6))) tNil)))) [1]) tNil)))
theorem sim_trace_of (T : Txt P w K mg) (W : WX) : SS (bC ⟨K, cvT T⟩ W 1 []) (rd_trace_of T W) (mb_trace_of) := by
  unfold rd_trace_of mb_trace_of le_trace_of_1
  exact (ss_ret (se_cb p_tuple (sa_cons (se_lc (si_seq (se_var 0)) (sg_name rfl) st_yes (se_tup (sa_cons (se_op p_ix (se_var 1) (se_c (.int 0))) (sa_cons (se_op p_ix (se_var 1) (se_c (.int 5))) (sa_cons (se_op p_ix (se_var 1) (se_c (.int 6))) sa_nil))))) sa_nil)))
theorem fn_trace_of (T : Txt P w K mg) {k : Nat} : FnOk P w K mg base (L2N.CX P w) (k + 1) T.f_trace_of T.d_trace_of ["records"] (spM ⟨K, cvT T⟩ (mFun 1 1 [] (mb_trace_of))) := by
  refine Fun.okN T.F_trace_of sc_trace_of (fun vs H Q E h => spM_len vs H Q E h) (fun cdv A outer s H vs Q E hr h0 => ⟨rd_trace_of T (fun c o _ H => E c o H), ?_, body_mir (np := 1) (nl := 1) rfl (sim_trace_of T _) h0⟩)
  exact (pss_one (ps_ret (pe_callTy call_tupleD (by rfl) T.b_tuple bt_tuple (pa_cons (pe_lc (own := [("record", 1)]) (g := (gName 1)) (tt := tYes) rfl sc_trace_of.nd (pi_seq (pv 0)) (blkOk_by (own := [("record", 1)]) (N := nm_trace_of) (sc := defScope s_trace_of) (by decide +kernel)) (fun _ _ _ _ _ => (gn 1 sc_trace_of.nd)) (fun _ _ _ _ _ => pts_nil) (fun _ _ _ _ _ => (pe_tup (pa_cons (pe_ix (ix_D hr.units) (pv 1) pe_int (fun _ _ => rfl)) (pa_cons (pe_ix (ix_D hr.units) (pv 1) pe_int (fun _ _ => rfl)) (pa_cons (pe_ix (ix_D hr.units) (pv 1) pe_int (fun _ _ => rfl)) pa_nil)))))) pa_nil))))
theorem ok_trace_of (T : Txt P w K mg) : FnOk P w K mg base (L2N.CX P w) 1 T.f_trace_of T.d_trace_of ["records"] (spM ⟨K, cvT T⟩ m_trace_of) := fn_trace_of (k := 0) T 
def rd_exchanged (T : Txt P w K mg) (W : WX) : TS :=
    (tRet (tOp (rAddD K) (tOp (rAddD K) (tSl (rSlX K) (tVar 0) tNoPart (tPart (tVar 1))) (tTup (tCons (tOp (rIxD K) (tVar 0) (tOp (rAddD K) (tVar 1) (tC (.int 1)))) (tCons (tOp (rIxD K) (tVar 0) (tVar 1)) tNil)))) (tSl (rSlX K) (tVar 0) (tPart (tOp (rAddD K) (tVar 1) (tC (.int 2)))) tNoPart)))
theorem sim_exchanged (T : Txt P w K mg) (W : WX) : SS (bC ⟨K, cvT T⟩ W 2 []) (rd_exchanged T W) (mb_exchanged) := by
  unfold rd_exchanged mb_exchanged
  exact (ss_ret (se_op p_add (se_op p_add (se_sl p_sl (se_var 0) so_none (so_part (se_var 1))) (se_tup (sa_cons (se_op p_ix (se_var 0) (se_op p_add (se_var 1) (se_c (.int 1)))) (sa_cons (se_op p_ix (se_var 0) (se_var 1)) sa_nil)))) (se_sl p_sl (se_var 0) (so_part (se_op p_add (se_var 1) (se_c (.int 2)))) so_none)))
theorem fn_exchanged (T : Txt P w K mg) {k : Nat} : FnOk P w K mg base (L2N.CX P w) (k + 1) T.f_exchanged T.d_exchanged ["trace", "at"] (spM ⟨K, cvT T⟩ (mFun 2 0 [] (mb_exchanged))) := by
  refine Fun.okN T.F_exchanged sc_exchanged (fun vs H Q E h => spM_len vs H Q E h) (fun cdv A outer s H vs Q E hr h0 => ⟨rd_exchanged T (fun c o _ H => E c o H), ?_, body_mir (np := 2) (nl := 0) rfl (sim_exchanged T _) h0⟩)
  exact (pss_one (ps_ret (pe_op op_addD (pe_op op_addD (pe_slice sl_X (pv 0) po_none (po_some (pv 1))) (pe_tup (pa_cons (pe_ix (ix_D hr.units) (pv 0) (pe_op op_addD (pv 1) pe_int) (fun _ _ => rfl)) (pa_cons (pe_ix (ix_D hr.units) (pv 0) (pv 1) (fun _ _ => rfl)) pa_nil)))) (pe_slice sl_X (pv 0) (po_some (pe_op op_addD (pv 1) pe_int)) po_none))))
theorem ok_exchanged (T : Txt P w K mg) : FnOk P w K mg base (L2N.CX P w) 1 T.f_exchanged T.d_exchanged ["trace", "at"] (spM ⟨K, cvT T⟩ m_exchanged) := fn_exchanged (k := 0) T 
def rd_exchanges (T : Txt P w K mg) : TGn :=
    (tGThen (tGFor (iRng1 (tCons (tOp rSubD (tCB (rLenD K) (tCons (tVar 0) tNil)) (tC (.int 1))) tNil)) (gName 1) (tGThen (tGIf (tTru K (tCallS (spM ⟨K, cvT T⟩ m_free) (WE (fun _ _ _ _ => False)) (tCons (tOp (rIxD K) (tVar 0) (tVar 1)) (tCons (tOp (rIxD K) (tVar 0) (tOp (rAddD K) (tVar 1) (tC (.int 1)))) tNil)))) (tGThen (tGYield (tCallS (spM ⟨K, cvT T⟩ m_exchanged) (WE (fun _ _ _ _ => False)) (tCons (tVar 0) (tCons (tVar 1) tNil))))
    tG0) tG0)
    tG0))
    tG0)
theorem sim_exchanges (T : Txt P w K mg) : SY (bC ⟨K, cvT T⟩ (fun _ _ _ _ => False) 1 []) (rd_exchanges T) mb_exchanges := by
  unfold rd_exchanges mb_exchanges lb_exchanges_1
  exact (sy_seq (sy_for (si_rng1 (sa_cons (se_op p_sub (se_cb p_len (sa_cons (se_var 0) sa_nil)) (se_c (.int 1))) sa_nil)) (sg_name rfl) (sy_seq (sy_if (st_tru (se_callS (sa_cons (se_op p_ix (se_var 0) (se_var 1)) (sa_cons (se_op p_ix (se_var 0) (se_op p_add (se_var 1) (se_c (.int 1)))) sa_nil)))) (sy_seq (sy_yield (se_callS (sa_cons (se_var 0) (sa_cons (se_var 1) sa_nil))))
    sy_0) sy_0)
    sy_0))
    sy_0)
theorem fn_exchanges (T : Txt P w K mg) {k : Nat} {k_free : Nat} (G_free : FnOk P w K mg base (L2N.CX P w) k_free T.f_free T.d_free ["one", "other"] (spM ⟨K, cvT T⟩ m_free)) (h_free : k_free ≤ k) {k_exchanged : Nat} (G_exchanged : FnOk P w K mg base (L2N.CX P w) k_exchanged T.f_exchanged T.d_exchanged ["trace", "at"] (spM ⟨K, cvT T⟩ m_exchanged)) (h_exchanged : k_exchanged ≤ k) : GFn P w K mg base (k + 1) T.f_exchanges T.d_exchanges ["trace"] (spY ⟨K, cvT T⟩ m_exchanges) := by
  refine Fun.genN T.F_exchanges sc_exchanges (fun vs H Q E h => spY_len vs H Q E h) (fun cdv A outer s H vs Q E pn hr h0 => ⟨rd_exchanges T, ?_, body_gen (np := 1) (nl := 1) rfl (sim_exchanges T) h0⟩)
  exact (gss_cons (gs_for owns_gcx rfl (pi_range1 (by rfl) T.b_range (pa_cons (pe_op op_subD (pe_callB call_lenX (by rfl) T.b_len bt_len (pa_cons (pv 0) pa_nil)) pe_int) pa_nil)) (gn 1 sc_exchanges.nd) (gss_cons (gs_if (pt_truthD (pe_callS G_free (hr.mono h_free) rfl T.g_free T.F_free.kp T.b_free (fun σ => L2N.passAt takes0N σ) (pa_cons (pe_ix (ix_D hr.units) (pv 0) (pv 1) (fun _ _ => rfl)) (pa_cons (pe_ix (ix_D hr.units) (pv 0) (pe_op op_addD (pv 1) pe_int) (fun _ _ => rfl)) pa_nil))) (by intro _; rfl)) (gss_cons (gs_yield (pe_callS G_exchanged (hr.mono h_exchanged) rfl T.g_exchanged T.F_exchanged.kp T.b_exchanged (fun σ => L2N.passAt takes0N σ) (pa_cons (pv 0) (pa_cons (pv 1) pa_nil))))
      gss_nil) gss_nil)
      gss_nil))
      gss_nil)
theorem ok_exchanges (T : Txt P w K mg) : GFn P w K mg base 2 T.f_exchanges T.d_exchanges ["trace"] (spY ⟨K, cvT T⟩ m_exchanges) := fn_exchanges (k := 1) T (ok_free T) (by omega) (ok_exchanged T) (by omega)
def rd_law (T : Txt P w K mg) (W : WX) : TS :=
    (tSeq (tAsg (tCallS (spM ⟨K, cvT T⟩ m_l_pool) (WE W) (tCons (tVar 0) tNil)) (gName 1))
    (tSeq (tAsg (tLst (tCons (tCallS (spM ⟨K, cvT T⟩ m_l_trace) (WE W) (tCons (tVar 1) (tCons (tC (.int 9)) tNil))) (tCons (tCallS (spM ⟨K, cvT T⟩ m_l_trace) (WE W) (tCons (tVar 1) (tCons (tC (.int 9)) tNil))) tNil))) (gName 2))
    (tSeq (tAsg (tOp (rAddD K) (tOp (rIxD K) (tVar 2) (tC (.int 0))) (tOp (rIxD K) (tVar 2) (tC (.int 1)))) (gName 3))
    (tSeq (tFor (iSeq K (tVar 3)) (gName 4) (tFor (iSeq K (tVar 3)) (gName 5) (tIfS (tNot (tTru K (tCallS (spM ⟨K, cvT T⟩ (m_l_same 8)) (WE W) (tCons (tCallS (spM ⟨K, cvT T⟩ m_free) (WE W) (tCons (tVar 4) (tCons (tVar 5) tNil))) (tCons (tNotV (tCallS (spM ⟨K, cvT T⟩ m_l_bound) (WE W) (tCons (tVar 4) (tCons (tVar 5) tNil)))) tNil))))) (tRet (tC (.bl false))) tNext)))
    (tSeq (tFor (iSeq K (tLst (tCons (tC (.int 0)) (tCons (tC (.int 1)) (tCons (tC (.int 0)) tNil))))) (gName 6) (tIfS (tNot (tTru K (tCallS (spM ⟨K, cvT T⟩ (m_l_same 8)) (WE W) (tCons (tListG (tCallG (spY ⟨K, cvT T⟩ m_exchanges) [] (fun _ _ _ => False) (tCons (tOp (rIxD K) (tVar 2) (tVar 6)) tNil))) (tCons (tCallS (spM ⟨K, cvT T⟩ m_l_exchanged) (WE W) (tCons (tOp (rIxD K) (tVar 2) (tVar 6)) tNil)) tNil))))) (tRet (tC (.bl false))) tNext))
    (tSeq (tFor (iSeq K (tVar 2)) (gName 7) (tSeq (tAsg (tCallS (spM ⟨K, cvT T⟩ m_l_records) (WE W) (tCons (tVar 1) (tCons (tVar 7) tNil))) (gName 8))
    (tSeq (tAsg (tCB (rListD K) (tCons (tVar 8) tNil)) (gName 9))
    (tSeq (tIfS (tOr (tNot (tTru K (tCallS (spM ⟨K, cvT T⟩ (m_l_same 8)) (WE W) (tCons (tCallS (spM ⟨K, cvT T⟩ m_trace_of) (WE W) (tCons (tVar 9) tNil)) (tCons (tVar 7) tNil))))) (tNot (tTru K (tCallS (spM ⟨K, cvT T⟩ (m_l_same 8)) (WE W) (tCons (tCallS (spM ⟨K, cvT T⟩ m_trace_of) (WE W) (tCons (tCB (rTupleD K) (tCons (tVar 8) tNil)) tNil)) (tCons (tVar 7) tNil)))))) (tRet (tC (.bl false))) tNext)
    (tIfS (tTest (tOp (rNeX K) (tVar 9) (tVar 8))) (tRet (tC (.bl false))) tNext)))))
    (tRet (tC (.bl true)))))))))
theorem sim_law (T : Txt P w K mg) (W : WX) : SS (bC ⟨K, cvT T⟩ W 1 []) (rd_law T W) (mb_law) := by
  unfold rd_law mb_law lb_law_4 lb_law_3 lb_law_2 lb_law_1
  exact (ss_seq (ss_asg (se_callS (sa_cons (se_var 0) sa_nil)) (sg_name rfl))
    (ss_seq (ss_asg (se_lst (sa_cons (se_callS (sa_cons (se_var 1) (sa_cons (se_c (.int 9)) sa_nil))) (sa_cons (se_callS (sa_cons (se_var 1) (sa_cons (se_c (.int 9)) sa_nil))) sa_nil))) (sg_name rfl))
    (ss_seq (ss_asg (se_op p_add (se_op p_ix (se_var 2) (se_c (.int 0))) (se_op p_ix (se_var 2) (se_c (.int 1)))) (sg_name rfl))
    (ss_seq (ss_for (si_seq (se_var 3)) (sg_name rfl) (ss_for (si_seq (se_var 3)) (sg_name rfl) (ss_if (st_not (st_tru (se_callS (sa_cons (se_callS (sa_cons (se_var 4) (sa_cons (se_var 5) sa_nil))) (sa_cons (se_notV (se_callS (sa_cons (se_var 4) (sa_cons (se_var 5) sa_nil)))) sa_nil))))) (ss_ret (se_c (.bl false))) ss_next)))
    (ss_seq (ss_for (si_seq (se_lst (sa_cons (se_c (.int 0)) (sa_cons (se_c (.int 1)) (sa_cons (se_c (.int 0)) sa_nil))))) (sg_name rfl) (ss_if (st_not (st_tru (se_callS (sa_cons (se_listG (sa_cons (se_op p_ix (se_var 2) (se_var 6)) sa_nil)) (sa_cons (se_callS (sa_cons (se_op p_ix (se_var 2) (se_var 6)) sa_nil)) sa_nil))))) (ss_ret (se_c (.bl false))) ss_next))
    (ss_seq (ss_for (si_seq (se_var 2)) (sg_name rfl) (ss_seq (ss_asg (se_callS (sa_cons (se_var 1) (sa_cons (se_var 7) sa_nil))) (sg_name rfl))
    (ss_seq (ss_asg (se_cb p_list (sa_cons (se_var 8) sa_nil)) (sg_name rfl))
    (ss_seq (ss_if (st_or (st_not (st_tru (se_callS (sa_cons (se_callS (sa_cons (se_var 9) sa_nil)) (sa_cons (se_var 7) sa_nil))))) (st_not (st_tru (se_callS (sa_cons (se_callS (sa_cons (se_cb p_tuple (sa_cons (se_var 8) sa_nil)) sa_nil)) (sa_cons (se_var 7) sa_nil)))))) (ss_ret (se_c (.bl false))) ss_next)
    (ss_if (st_test (se_op p_ne (se_var 9) (se_var 8))) (ss_ret (se_c (.bl false))) ss_next)))))
    (ss_ret (se_c (.bl true)))))))))
theorem fn_law (T : Txt P w K mg) {k : Nat} {k_l_pool : Nat} (G_l_pool : FnOk P w K mg base (L2N.CX P w) k_l_pool T.f_l_pool T.d_l_pool ["_law_script"] (spM ⟨K, cvT T⟩ m_l_pool)) (h_l_pool : k_l_pool ≤ k) {k_l_trace : Nat} (G_l_trace : FnOk P w K mg base (L2N.CX P w) k_l_trace T.f_l_trace T.d_l_trace ["_law_pool_here", "_law_bound_here"] (spM ⟨K, cvT T⟩ m_l_trace)) (h_l_trace : k_l_trace ≤ k) {k_l_same : Nat} (G_l_same : FnOk P w K mg base (L2N.CX P w) k_l_same T.f_l_same T.d_l_same ["_law_mine", "_law_due"] (spM ⟨K, cvT T⟩ (m_l_same 8))) (h_l_same : k_l_same ≤ k) {k_l_bound : Nat} (G_l_bound : FnOk P w K mg base (L2N.CX P w) k_l_bound T.f_l_bound T.d_l_bound ["_law_one", "_law_other"] (spM ⟨K, cvT T⟩ m_l_bound)) (h_l_bound : k_l_bound ≤ k) {k_free : Nat} (G_free : FnOk P w K mg base (L2N.CX P w) k_free T.f_free T.d_free ["one", "other"] (spM ⟨K, cvT T⟩ m_free)) (h_free : k_free ≤ k) {k_l_exchanged : Nat} (G_l_exchanged : FnOk P w K mg base (L2N.CX P w) k_l_exchanged T.f_l_exchanged T.d_l_exchanged ["_law_trace_here"] (spM ⟨K, cvT T⟩ m_l_exchanged)) (h_l_exchanged : k_l_exchanged ≤ k) {k_l_records : Nat} (G_l_records : FnOk P w K mg base (L2N.CX P w) k_l_records T.f_l_records T.d_l_records ["_law_pool_here", "_law_trace_here"] (spM ⟨K, cvT T⟩ m_l_records)) (h_l_records : k_l_records ≤ k) {k_trace_of : Nat} (G_trace_of : FnOk P w K mg base (L2N.CX P w) k_trace_of T.f_trace_of T.d_trace_of ["records"] (spM ⟨K, cvT T⟩ m_trace_of)) (h_trace_of : k_trace_of ≤ k) {kG_exchanges : Nat} (GG_exchanges : GFn P w K mg base kG_exchanges T.f_exchanges T.d_exchanges ["trace"] (spY ⟨K, cvT T⟩ m_exchanges)) (hG_exchanges : kG_exchanges + 3 ≤ k) : FnOk P w K mg base (L2N.CX P w) (k + 1) T.f_law T.d_law ["_law_script"] (spM ⟨K, cvT T⟩ (mFun 1 9 [] (mb_law))) := by
  refine Fun.okN T.F_law sc_law (fun vs H Q E h => spM_len vs H Q E h) (fun cdv A outer s H vs Q E hr h0 => ⟨rd_law T (fun c o _ H => E c o H), ?_, body_mir (np := 1) (nl := 9) rfl (sim_law T _) h0⟩)
  exact (pss_cons (sset 1 sc_law.nd (pe_callS G_l_pool (hr.mono h_l_pool) rfl T.g_l_pool T.F_l_pool.kp T.b_l_pool (fun σ => L2N.passAt (L2N.takes_of rfl rfl rfl rfl) σ) (pa_cons (pv 0) pa_nil)))
      (pss_cons (sset 2 sc_law.nd (pe_lst (pa_cons (pe_callS G_l_trace (hr.mono h_l_trace) rfl T.g_l_trace T.F_l_trace.kp T.b_l_trace (fun σ => L2N.passAt (L2N.takes_of rfl rfl rfl rfl) σ) (pa_cons (pv 1) (pa_cons pe_int pa_nil))) (pa_cons (pe_callS G_l_trace (hr.mono h_l_trace) rfl T.g_l_trace T.F_l_trace.kp T.b_l_trace (fun σ => L2N.passAt (L2N.takes_of rfl rfl rfl rfl) σ) (pa_cons (pv 1) (pa_cons pe_int pa_nil))) pa_nil))))
      (pss_cons (sset 3 sc_law.nd (pe_op op_addD (pe_ix (ix_D hr.units) (pv 2) pe_int (fun _ _ => rfl)) (pe_ix (ix_D hr.units) (pv 2) pe_int (fun _ _ => rfl))))
      (pss_cons (ps_for (passes_of rfl) rfl (pi_seq (pv 3)) (gn 4 sc_law.nd) (pss_one (ps_for (passes_of rfl) rfl (pi_seq (pv 3)) (gn 5 sc_law.nd) (pss_one (ps_if (pt_not (pt_truthD (pe_callS G_l_same (hr.mono h_l_same) rfl T.g_l_same T.F_l_same.kp T.b_l_same (fun σ => L2N.passAt (L2N.takes_of rfl rfl rfl rfl) σ) (pa_cons (pe_callS G_free (hr.mono h_free) rfl T.g_free T.F_free.kp T.b_free (fun σ => L2N.passAt (L2N.takes_of rfl rfl rfl rfl) σ) (pa_cons (pv 4) (pa_cons (pv 5) pa_nil))) (pa_cons (pe_not (pe_callS G_l_bound (hr.mono h_l_bound) rfl T.g_l_bound T.F_l_bound.kp T.b_l_bound (fun σ => L2N.passAt (L2N.takes_of rfl rfl rfl rfl) σ) (pa_cons (pv 4) (pa_cons (pv 5) pa_nil)))) pa_nil))) (by intro _; rfl))) (pss_one (ps_ret pe_bl)) pss_nil)))))
      (pss_cons (ps_for (passes_of rfl) rfl (pi_seq (pe_lst (pa_cons pe_int (pa_cons pe_int (pa_cons pe_int pa_nil))))) (gn 6 sc_law.nd) (pss_one (ps_if (pt_not (pt_truthD (pe_callS G_l_same (hr.mono h_l_same) rfl T.g_l_same T.F_l_same.kp T.b_l_same (fun σ => L2N.passAt (L2N.takes_of rfl rfl rfl rfl) σ) (pa_cons (pe_listG (pgen_call GG_exchanges (hr.mono (Nat.le_trans (Nat.le_add_right _ 3) hG_exchanges)) rfl T.g_exchanges T.F_exchanges.kp T.b_exchanges .nil (pa_cons (pe_ix (ix_D hr.units) (pv 2) (pv 6) (fun _ _ => rfl)) pa_nil)) passes0 noStop0 (hr.mono hG_exchanges) (by rfl) T.b_list bt_list) (pa_cons (pe_callS G_l_exchanged (hr.mono h_l_exchanged) rfl T.g_l_exchanged T.F_l_exchanged.kp T.b_l_exchanged (fun σ => L2N.passAt (L2N.takes_of rfl rfl rfl rfl) σ) (pa_cons (pe_ix (ix_D hr.units) (pv 2) (pv 6) (fun _ _ => rfl)) pa_nil)) pa_nil))) (by intro _; rfl))) (pss_one (ps_ret pe_bl)) pss_nil)))
      (pss_cons (ps_for (passes_of rfl) rfl (pi_seq (pv 2)) (gn 7 sc_law.nd) (pss_cons (sset 8 sc_law.nd (pe_callS G_l_records (hr.mono h_l_records) rfl T.g_l_records T.F_l_records.kp T.b_l_records (fun σ => L2N.passAt (L2N.takes_of rfl rfl rfl rfl) σ) (pa_cons (pv 1) (pa_cons (pv 7) pa_nil))))
      (pss_cons (sset 9 sc_law.nd (pe_callTy call_listD (by rfl) T.b_list bt_list (pa_cons (pv 8) pa_nil)))
      (pss_cons (ps_if (PW.pt (pw_or (pt_not (pt_truthD (pe_callS G_l_same (hr.mono h_l_same) rfl T.g_l_same T.F_l_same.kp T.b_l_same (fun σ => L2N.passAt (L2N.takes_of rfl rfl rfl rfl) σ) (pa_cons (pe_callS G_trace_of (hr.mono h_trace_of) rfl T.g_trace_of T.F_trace_of.kp T.b_trace_of (fun σ => L2N.passAt (L2N.takes_of rfl rfl rfl rfl) σ) (pa_cons (pv 9) pa_nil)) (pa_cons (pv 7) pa_nil))) (by intro _; rfl))) (pw_or1 (pt_not (pt_truthD (pe_callS G_l_same (hr.mono h_l_same) rfl T.g_l_same T.F_l_same.kp T.b_l_same (fun σ => L2N.passAt (L2N.takes_of rfl rfl rfl rfl) σ) (pa_cons (pe_callS G_trace_of (hr.mono h_trace_of) rfl T.g_trace_of T.F_trace_of.kp T.b_trace_of (fun σ => L2N.passAt (L2N.takes_of rfl rfl rfl rfl) σ) (pa_cons (pe_callTy call_tupleD (by rfl) T.b_tuple bt_tuple (pa_cons (pv 8) pa_nil)) pa_nil)) (pa_cons (pv 7) pa_nil))) (by intro _; rfl)))))) (pss_one (ps_ret pe_bl)) pss_nil)
      (pss_one (ps_if (pt_cmpR (op_neX hr.units) (pv 9) (pv 8) (nomark _)) (pss_one (ps_ret pe_bl)) pss_nil))))))
      (pss_one (ps_ret pe_bl))))))))
theorem ok_law (T : Txt P w K mg) : FnOk P w K mg base (L2N.CX P w) 11 T.f_law T.d_law ["_law_script"] (spM ⟨K, cvT T⟩ m_law) := fn_law (k := 10) T (ok_l_pool T) (by omega) (ok_l_trace T) (by omega) (okn_l_same T) (by omega) (ok_l_bound T) (by omega) (ok_free T) (by omega) (ok_l_exchanged T) (by omega) (ok_l_records T) (by omega) (ok_trace_of T) (by omega) (ok_exchanges T) (by omega)
end
end Q

namespace Q
open PySem L2
local macro_rules | `(tactic| walk_at "ev") => `(tactic| simp only [ev_seq, kSeq_nx, kSeq_rt, kSeq_bk, kSeq_ct, kSeq_ex, ev_asg, kAsg_ok, kAsg_ex, kAsg2_ok, kAsg3_ok, ev_nm, ev_ixg, kIx0_ok, kIx_ok, kIx2_ok, kIx3_ok, ev_un, kUnp_ok, ev_gscons, kGs_ok, ev_gsnil, ev_next, ev_break, ev_cont, ev_retN, ev_drop, kDrop_ok, kDrop_ex, ev_if, ev_ifE, kIf_t, kIf_f, kIf_ex, ev_ret, kRet_ok, kRet_ex, kRet2_ok, ev_c, ev_var, kVar_fz, kVar_m, res_al, kJ_ok, ev_unr, kUn_ok, ev_op, kOp_ok, kOp_ex, kOp2_ok, kOp2_ex, kP_ok, ev_ap1, kA1_ok, ev_ap2, kA2_ok, ev_cb, kCB_ok, ev_apN, kAN_ok, ev_lnil, ev_lcons, kL_ok, ev_nil, ev_cons, kCons_ok, kCons_ex, kCons2_ok, ev_test, kTest_ok, kTest_ex, ev_tru, kTru_ok, kTr2_ok, kTr3_ok, ev_and, ev_or, ev_not, kAnd_t, kAnd_f, kOr_t, kOr_f, kNot_ok, ev_andV, ev_orV, ev_notV, kAndV_t, kAndV_f, kOrV_t, kOrV_f, kNotV_ok, ev_lst, ev_tup, kLst_ok, kLst_ex, kLs2_ok, ev_tnil, ev_tcons, kT_ok, kT2_ok, tkf_fz, tkf_mls, tkf_al, kTkf_ok, tk_fz, tk_mls, tk_al, kTk_ok, frz_of, frz_mls, res_fz, res_mls, out_fz, out_mls, out_al, kOut_ok, ev_nopart, ev_part, kPart_ok, ev_sl, kSl_ok, kSl2_ok, kSl3_ok, kSl4_ok, ev_app, kApp0_ok, kApp_ok, kApp_ex, kApp2_ok, kApp3_ok, ev_ext, kExt0_ok, kExt_ok, kE2_lst, kE2_mls, kE2_tup, ev_call, kCall_ok, kC2_ok, kC3_ok, kC3_ex, ev_for, kFor_ok, loop_nil, loop_cons, kLp0_ok, kLp_nx, kLp_ct, kLp_bk, kLp_rt, kLp_ex, ev_si, kSI_ok, kSI2_ok, kSI3_ok, ev_r1, kR1_ok, ev_r2, ev_v1, ev_lc, kLc_ok, kLc2_ok, cl_nil, cl_cons, kQ_ok, kQ2_t, kQ2_f, kQ3_ok, kQ4_ok, kFun_rt, kFun_nx, kFun_ex, kF2_ok, kF3_ok, outA_nil, outA_fz, outA_mls, kO_ok, back_nil, back_al, back_fz, als_nil, als_fz, als_al, isAl_fz, isAlK_fz, isFz_non, isAl_non, isAlK_non, isFz_bl, isAl_bl, isAlK_bl, isFz_int, isAl_int, isAlK_int, isFz_str, isAl_str, isAlK_str, isFz_cst, isAl_cst, isAlK_cst, isFz_tup, isAl_tup, isAlK_tup, isFz_lst, isAl_lst, isAlK_lst, isFz_rol, isAl_rol, isAlK_rol, isFz_mls, isAl_mls, isAlK_mls, isFz_al, isAl_al, isAlK_al, dIs_non, dIsNot_non, dIs_bl, dIsNot_bl, dIs_int, dIsNot_int, dIs_str, dIsNot_str, dIs_tup, dIsNot_tup, dIs_lst, dIsNot_lst, dIs_rol, dIsNot_rol, dIs_mls, dIsNot_mls, dIx_tup, dIx_lst, dIx_mls, dIx_rol, dLen_tup, dLen_lst, dLen_mls, dLen_rol, eqD_int, eqD_str, eqD_bl, eqD_non, neD_int, neD_str, neD_bl, neD_non, atI_l0, atI_l1, atI_l2, atI_l3, atI_l4, atI_l5, atI_l6, atI_l7, atI_m1, atI_m2, atI_m3, atI_m4, atI_m5, st_inj, st_cps, st_len, st_app, dAdd_st, dAdd_int, dAdd_tup, dAdd_ll, dAdd_lm, dAdd_ml, dAdd_mm, dIx_st, dSl_st, dSl_tup, dSl_lst, dSl_mls, dLen_st, tru_st, tru_non, tru_bl, tru_int, tru_tup, tru_lst, tru_mls, dIn_st, dNotIn_st, dIn_lst, dIn_mls, dIn_tup, dNotIn_lst, dNotIn_mls, dNotIn_tup, among_nil, among_ss, among_ii, flat_int, flat_str, flat_bl, flat_non, flat_strs, flat_ints, isi_non_bool, isi_bl_bool, isi_int_bool, isi_str_bool, isi_tup_bool, isi_lst_bool, isi_mls_bool, isi_non_int, isi_bl_int, isi_int_int, isi_str_int, isi_tup_int, isi_lst_int, isi_mls_int, isi_non_str, isi_bl_str, isi_int_str, isi_str_str, isi_tup_str, isi_lst_str, isi_mls_str, isi_non_list, isi_bl_list, isi_int_list, isi_str_list, isi_tup_list, isi_lst_list, isi_mls_list, isi_non_tuple, isi_bl_tuple, isi_int_tuple, isi_str_tuple, isi_tup_tuple, isi_lst_tuple, isi_mls_tuple, ev_raise, kRaise_ok, kRaise_ex, kRaise2_1, kRaise2_2, ev_try, kTry_ok, kTry_ex, kTry2_t, kTry2_f, kTry3_ok, ev_xf, kXf_ok, ev_isx, kIsX_ok, findD_hit, dKIn_str, dKNot_str, dKIx_str, ev_chain, kCh_ok, kCh2_ok, kCh3_t, kCh3_f, ev_sti, kSt_ok, signs_st, ev_fs, ev_jnil, ev_jcons, kJs_st, dFmt_st, kR2_ok, dAll_bls, Fun, ev_y0, ev_yseq, kYs_nx, ev_yif, kYi_t, kYi_f, ev_yy, kYy_ok, kYy2_ok, ev_yfor, kYf_ok, ev_lg, kLg_ok, kLg2_ok, kLg3_ok, cutN_to, cutN_from, cutD_to, cutD_from, eq_self, seqD, lsD, List.getElem?_cons_zero, List.getElem?_cons_succ, List.set_cons_zero, List.set_cons_succ, List.map_cons, List.map_nil, List.replicate, List.cons_append, List.nil_append, List.append_nil, List.length_cons, List.length_nil, List.any_cons, List.any_nil, List.all_cons, List.all_nil, Bool.or_false, Bool.or_true, Bool.false_or, Bool.true_or, Bool.and_false, Bool.false_and, Bool.not_false, Bool.and_true, Bool.true_and, Bool.and_self, beq_iff_eq, reduceIte, Bool.not_true, Nat.reduceAdd, Nat.reduceLT, Nat.reduceLeDiff, Nat.reduceEqDiff, Nat.reduceBEq, Nat.zero_add, Bool.false_eq_true, decide_true, decide_false, not_false_eq_true, Int.reduceLT, Int.reduceLE, Int.reduceAdd, Int.reduceSub, Int.reduceNeg, Int.reduceEq, Int.reduceToNat, Int.cast_ofNat_Int, Int.reducePow, Int.natAbs, and_self, and_true, true_and, or_true, true_or, and_false, false_and, ixN, Option.bind_some, Option.map_some, List.cons.injEq, reduceCtorEq, List.isEmpty_cons, List.isEmpty_nil, wipeE, dSub, dMul, dDiv, dMod, dPow, dNeg, dLt, dLe, dGt, dGe, dInt, dList, dTuple, dMin, dMax, dIpAdd])
local macro_rules | `(tactic| push_cast [$ts,*]) => `(tactic| simp only [$ts,*, ev_seq, kSeq_nx, kSeq_rt, kSeq_bk, kSeq_ct, kSeq_ex, ev_asg, kAsg_ok, kAsg_ex, kAsg2_ok, kAsg3_ok, ev_nm, ev_ixg, kIx0_ok, kIx_ok, kIx2_ok, kIx3_ok, ev_un, kUnp_ok, ev_gscons, kGs_ok, ev_gsnil, ev_next, ev_break, ev_cont, ev_retN, ev_drop, kDrop_ok, kDrop_ex, ev_if, ev_ifE, kIf_t, kIf_f, kIf_ex, ev_ret, kRet_ok, kRet_ex, kRet2_ok, ev_c, ev_var, kVar_fz, kVar_m, res_al, kJ_ok, ev_unr, kUn_ok, ev_op, kOp_ok, kOp_ex, kOp2_ok, kOp2_ex, kP_ok, ev_ap1, kA1_ok, ev_ap2, kA2_ok, ev_cb, kCB_ok, ev_apN, kAN_ok, ev_lnil, ev_lcons, kL_ok, ev_nil, ev_cons, kCons_ok, kCons_ex, kCons2_ok, ev_test, kTest_ok, kTest_ex, ev_tru, kTru_ok, kTr2_ok, kTr3_ok, ev_and, ev_or, ev_not, kAnd_t, kAnd_f, kOr_t, kOr_f, kNot_ok, ev_andV, ev_orV, ev_notV, kAndV_t, kAndV_f, kOrV_t, kOrV_f, kNotV_ok, ev_lst, ev_tup, kLst_ok, kLst_ex, kLs2_ok, ev_tnil, ev_tcons, kT_ok, kT2_ok, tkf_fz, tkf_mls, tkf_al, kTkf_ok, tk_fz, tk_mls, tk_al, kTk_ok, frz_of, frz_mls, res_fz, res_mls, out_fz, out_mls, out_al, kOut_ok, ev_nopart, ev_part, kPart_ok, ev_sl, kSl_ok, kSl2_ok, kSl3_ok, kSl4_ok, ev_app, kApp0_ok, kApp_ok, kApp_ex, kApp2_ok, kApp3_ok, ev_ext, kExt0_ok, kExt_ok, kE2_lst, kE2_mls, kE2_tup, ev_call, kCall_ok, kC2_ok, kC3_ok, kC3_ex, ev_for, kFor_ok, loop_nil, loop_cons, kLp0_ok, kLp_nx, kLp_ct, kLp_bk, kLp_rt, kLp_ex, ev_si, kSI_ok, kSI2_ok, kSI3_ok, ev_r1, kR1_ok, ev_r2, ev_v1, ev_lc, kLc_ok, kLc2_ok, cl_nil, cl_cons, kQ_ok, kQ2_t, kQ2_f, kQ3_ok, kQ4_ok, kFun_rt, kFun_nx, kFun_ex, kF2_ok, kF3_ok, outA_nil, outA_fz, outA_mls, kO_ok, back_nil, back_al, back_fz, als_nil, als_fz, als_al, isAl_fz, isAlK_fz, isFz_non, isAl_non, isAlK_non, isFz_bl, isAl_bl, isAlK_bl, isFz_int, isAl_int, isAlK_int, isFz_str, isAl_str, isAlK_str, isFz_cst, isAl_cst, isAlK_cst, isFz_tup, isAl_tup, isAlK_tup, isFz_lst, isAl_lst, isAlK_lst, isFz_rol, isAl_rol, isAlK_rol, isFz_mls, isAl_mls, isAlK_mls, isFz_al, isAl_al, isAlK_al, dIs_non, dIsNot_non, dIs_bl, dIsNot_bl, dIs_int, dIsNot_int, dIs_str, dIsNot_str, dIs_tup, dIsNot_tup, dIs_lst, dIsNot_lst, dIs_rol, dIsNot_rol, dIs_mls, dIsNot_mls, dIx_tup, dIx_lst, dIx_mls, dIx_rol, dLen_tup, dLen_lst, dLen_mls, dLen_rol, eqD_int, eqD_str, eqD_bl, eqD_non, neD_int, neD_str, neD_bl, neD_non, atI_l0, atI_l1, atI_l2, atI_l3, atI_l4, atI_l5, atI_l6, atI_l7, atI_m1, atI_m2, atI_m3, atI_m4, atI_m5, st_inj, st_cps, st_len, st_app, dAdd_st, dAdd_int, dAdd_tup, dAdd_ll, dAdd_lm, dAdd_ml, dAdd_mm, dIx_st, dSl_st, dSl_tup, dSl_lst, dSl_mls, dLen_st, tru_st, tru_non, tru_bl, tru_int, tru_tup, tru_lst, tru_mls, dIn_st, dNotIn_st, dIn_lst, dIn_mls, dIn_tup, dNotIn_lst, dNotIn_mls, dNotIn_tup, among_nil, among_ss, among_ii, flat_int, flat_str, flat_bl, flat_non, flat_strs, flat_ints, isi_non_bool, isi_bl_bool, isi_int_bool, isi_str_bool, isi_tup_bool, isi_lst_bool, isi_mls_bool, isi_non_int, isi_bl_int, isi_int_int, isi_str_int, isi_tup_int, isi_lst_int, isi_mls_int, isi_non_str, isi_bl_str, isi_int_str, isi_str_str, isi_tup_str, isi_lst_str, isi_mls_str, isi_non_list, isi_bl_list, isi_int_list, isi_str_list, isi_tup_list, isi_lst_list, isi_mls_list, isi_non_tuple, isi_bl_tuple, isi_int_tuple, isi_str_tuple, isi_tup_tuple, isi_lst_tuple, isi_mls_tuple, ev_raise, kRaise_ok, kRaise_ex, kRaise2_1, kRaise2_2, ev_try, kTry_ok, kTry_ex, kTry2_t, kTry2_f, kTry3_ok, ev_xf, kXf_ok, ev_isx, kIsX_ok, findD_hit, dKIn_str, dKNot_str, dKIx_str, ev_chain, kCh_ok, kCh2_ok, kCh3_t, kCh3_f, ev_sti, kSt_ok, signs_st, ev_fs, ev_jnil, ev_jcons, kJs_st, dFmt_st, kR2_ok, dAll_bls, Fun, ev_y0, ev_yseq, kYs_nx, ev_yif, kYi_t, kYi_f, ev_yy, kYy_ok, kYy2_ok, ev_yfor, kYf_ok, ev_lg, kLg_ok, kLg2_ok, kLg3_ok, cutN_to, cutN_from, cutD_to, cutD_from, eq_self, seqD, lsD, List.getElem?_cons_zero, List.getElem?_cons_succ, List.set_cons_zero, List.set_cons_succ, List.map_cons, List.map_nil, List.replicate, List.cons_append, List.nil_append, List.append_nil, List.length_cons, List.length_nil, List.any_cons, List.any_nil, List.all_cons, List.all_nil, Bool.or_false, Bool.or_true, Bool.false_or, Bool.true_or, Bool.and_false, Bool.false_and, Bool.not_false, Bool.and_true, Bool.true_and, Bool.and_self, beq_iff_eq, reduceIte, Bool.not_true, Nat.reduceAdd, Nat.reduceLT, Nat.reduceLeDiff, Nat.reduceEqDiff, Nat.reduceBEq, Nat.zero_add, Bool.false_eq_true, decide_true, decide_false, not_false_eq_true, Int.reduceLT, Int.reduceLE, Int.reduceAdd, Int.reduceSub, Int.reduceNeg, Int.reduceEq, Int.reduceToNat, Int.cast_ofNat_Int, Int.reducePow, Int.natAbs, and_self, and_true, true_and, or_true, true_or, and_false, false_and, ixN, Option.bind_some, Option.map_some, List.cons.injEq, reduceCtorEq, List.isEmpty_cons, List.isEmpty_nil, wipeE, dSub, dMul, dDiv, dMod, dPow, dNeg, dLt, dLe, dGt, dGe, dInt, dList, dTuple, dMin, dMax, dIpAdd])
/-! ### drawing -/
theorem mixed_eq (c t n : Int) (hn : 0 < n) : m_l_mixed [.int c, .int t, .int n] = some (.ok (.int ((((c * 48271 + t * 69621 + 11) % 2147483647 * 40692 + c * 16807 + t * 30269) % 2147483399 * 39373 +
                      (c * 48271 + t * 69621 + 11) % 2147483647 / 7) % 1000000007 % n)) [.int c, .int t, .int n]) := by
  unfold m_l_mixed mb_l_mixed
  rw [ev_fun (by rfl) (by rfl)]
  push_cast [hn]
theorem mixed_ok (c t n : Int) (hn : 0 < n) : ∃ r, m_l_mixed [.int c, .int t, .int n] = some (.ok (.int r) [.int c, .int t, .int n]) ∧ 0 ≤ r ∧ r < n :=
  ⟨_, mixed_eq c t n hn, Int.emod_nonneg _ (by omega), Int.emod_lt_of_pos _ hn⟩
theorem pool_eq (ns : List Int) : m_l_pool [.rol (ns.map D.int)] = some (.ok (.mls [.lst (ns.map D.int), .int 0, .int 0, .int 0, .int 0]) [.rol (ns.map D.int)]) := by
  unfold m_l_pool mb_l_pool
  rw [ev_fun (by rfl) (by rfl)]
  walk_at "ev"
/-- a pool, as it may stand -/
structure Pool where
  s : List Int
  i : Nat
  a : Int
  b : Int
  c : Int
def Pool.d (p : Pool) : D := .mls [.lst (p.s.map D.int), .int p.i, .int p.a, .int p.b, .int p.c]
theorem Pool.isFz (p : Pool) : Q.isFz p.d = false := nr rfl
theorem Pool.isAl (p : Pool) : Q.isAl p.d = false := nr rfl
theorem Pool.kVar (p : Pool) (i : Nat) (e : Env) : Q.kVar (some (some p.d)) i e = some (.ok (.al i) e) := nr rfl
theorem Pool.outA (p : Pool) (ds : List D) (o : Option D) (e : Env) : Q.outA (p.d :: ds) (o :: e) = kO o (Q.outA ds e) := outA_mls _ _ _ _
theorem Pool.res (p : Pool) (e : Env) : Q.res e p.d = some p.d := nr rfl
theorem Pool.tk (p : Pool) (e : Env) : Q.tk p.d e = some (p.d, e) := nr rfl
theorem pool_new (ns : List Int) : ∃ p : Pool, m_l_pool [.rol (ns.map D.int)] = some (.ok p.d [.rol (ns.map D.int)]) := ⟨⟨ns, 0, 0, 0, 0⟩, pool_eq ns⟩
theorem draw_ok (p : Pool) {n : Int} (hn : 0 < n) (hn2 : n < 1073741824) : ∃ (r : Int) (p' : Pool), m_l_draw [p.d, .int n] = some (.ok (.int r) [p'.d, .int n]) ∧ 0 ≤ r ∧ r < n := by
  obtain ⟨s, i, a, b, c⟩ := p
  show ∃ (r : Int) (p' : Pool), m_l_draw [.mls [.lst (s.map D.int), .int i, .int a, .int b, .int c], .int n] = _ ∧ _
  unfold m_l_draw mb_l_draw
  rw [ev_fun (by rfl) (by rfl)]
  by_cases h1 : 0 < a
  · push_cast [h1, hn, hn2]
    exact ⟨_, ⟨s, i, a / n, b, c⟩, rfl, Int.emod_nonneg _ (by omega), Int.emod_lt_of_pos _ hn⟩
  · by_cases h2 : 0 < c
    · obtain ⟨r, hr, h3, h4⟩ := mixed_ok b (c - 1) n hn
      push_cast [h1, h2, hr]
      exact ⟨r, ⟨s, i, a, b, c - 1⟩, rfl, h3, h4⟩
    · by_cases h3 : (s.length : Int) ≤ i
      · push_cast [h1, h2, h3, List.length_map]
        exact ⟨0, ⟨s, i, a, b, c⟩, rfl, by omega, hn⟩
      · have hi : i < s.length := by omega
        obtain ⟨x, hx⟩ : ∃ x, s[i]? = some x := ⟨s[i], by simp [hi]⟩
        have hat : atI (List.map D.int s) (i : Int) = some (.int x) := by
          rw [atI_nat (j := i) (v := .int x) (by rw [List.getElem?_map, hx]; rfl)]
        have hle : (s.length : Int) ≤ i ↔ False := by simp; omega
        by_cases h5 : x < 0
        · by_cases h6 : (1000000000000000000 : Int) ≤ -1 - x
          · push_cast [h1, h2, hle, List.length_map, hat, h5, h6, hn, hn2]
            exact ⟨_, ⟨s, i + 1, (-1 - x) / n, b, c⟩, rfl, Int.emod_nonneg _ (by omega), Int.emod_lt_of_pos _ hn⟩
          · obtain ⟨r, hr, h7, h8⟩ := mixed_ok (-1 - x) 7 n hn
            push_cast [h1, h2, hle, List.length_map, hat, h5, h6, hn, hn2, hr]
            exact ⟨r, ⟨s, i + 1, a, -1 - x, 7⟩, rfl, h7, h8⟩
        · by_cases h6 : (1000000000000000000 : Int) ≤ x
          · push_cast [h1, h2, hle, List.length_map, hat, h5, h6, hn, hn2]
            exact ⟨_, ⟨s, i + 1, x / n, b, c⟩, rfl, Int.emod_nonneg _ (by omega), Int.emod_lt_of_pos _ hn⟩
          · obtain ⟨r, hr, h7, h8⟩ := mixed_ok x 7 n hn
            push_cast [h1, h2, hle, List.length_map, hat, h5, h6, hn, hn2, hr]
            exact ⟨r, ⟨s, i + 1, a, x, 7⟩, rfl, h7, h8⟩
local macro_rules | `(tactic| walk_at "ev") => `(tactic| simp only [Pool.isFz, Pool.isAl, Pool.kVar, Pool.outA, Pool.res, Pool.tk, ev_seq, kSeq_nx, kSeq_rt, kSeq_bk, kSeq_ct, kSeq_ex, ev_asg, kAsg_ok, kAsg_ex, kAsg2_ok, kAsg3_ok, ev_nm, ev_ixg, kIx0_ok, kIx_ok, kIx2_ok, kIx3_ok, ev_un, kUnp_ok, ev_gscons, kGs_ok, ev_gsnil, ev_next, ev_break, ev_cont, ev_retN, ev_drop, kDrop_ok, kDrop_ex, ev_if, ev_ifE, kIf_t, kIf_f, kIf_ex, ev_ret, kRet_ok, kRet_ex, kRet2_ok, ev_c, ev_var, kVar_fz, kVar_m, res_al, kJ_ok, ev_unr, kUn_ok, ev_op, kOp_ok, kOp_ex, kOp2_ok, kOp2_ex, kP_ok, ev_ap1, kA1_ok, ev_ap2, kA2_ok, ev_cb, kCB_ok, ev_apN, kAN_ok, ev_lnil, ev_lcons, kL_ok, ev_nil, ev_cons, kCons_ok, kCons_ex, kCons2_ok, ev_test, kTest_ok, kTest_ex, ev_tru, kTru_ok, kTr2_ok, kTr3_ok, ev_and, ev_or, ev_not, kAnd_t, kAnd_f, kOr_t, kOr_f, kNot_ok, ev_andV, ev_orV, ev_notV, kAndV_t, kAndV_f, kOrV_t, kOrV_f, kNotV_ok, ev_lst, ev_tup, kLst_ok, kLst_ex, kLs2_ok, ev_tnil, ev_tcons, kT_ok, kT2_ok, tkf_fz, tkf_mls, tkf_al, kTkf_ok, tk_fz, tk_mls, tk_al, kTk_ok, frz_of, frz_mls, res_fz, res_mls, out_fz, out_mls, out_al, kOut_ok, ev_nopart, ev_part, kPart_ok, ev_sl, kSl_ok, kSl2_ok, kSl3_ok, kSl4_ok, ev_app, kApp0_ok, kApp_ok, kApp_ex, kApp2_ok, kApp3_ok, ev_ext, kExt0_ok, kExt_ok, kE2_lst, kE2_mls, kE2_tup, ev_call, kCall_ok, kC2_ok, kC3_ok, kC3_ex, ev_for, kFor_ok, loop_nil, loop_cons, kLp0_ok, kLp_nx, kLp_ct, kLp_bk, kLp_rt, kLp_ex, ev_si, kSI_ok, kSI2_ok, kSI3_ok, ev_r1, kR1_ok, ev_r2, ev_v1, ev_lc, kLc_ok, kLc2_ok, cl_nil, cl_cons, kQ_ok, kQ2_t, kQ2_f, kQ3_ok, kQ4_ok, kFun_rt, kFun_nx, kFun_ex, kF2_ok, kF3_ok, outA_nil, outA_fz, outA_mls, kO_ok, back_nil, back_al, back_fz, als_nil, als_fz, als_al, isAl_fz, isAlK_fz, isFz_non, isAl_non, isAlK_non, isFz_bl, isAl_bl, isAlK_bl, isFz_int, isAl_int, isAlK_int, isFz_str, isAl_str, isAlK_str, isFz_cst, isAl_cst, isAlK_cst, isFz_tup, isAl_tup, isAlK_tup, isFz_lst, isAl_lst, isAlK_lst, isFz_rol, isAl_rol, isAlK_rol, isFz_mls, isAl_mls, isAlK_mls, isFz_al, isAl_al, isAlK_al, dIs_non, dIsNot_non, dIs_bl, dIsNot_bl, dIs_int, dIsNot_int, dIs_str, dIsNot_str, dIs_tup, dIsNot_tup, dIs_lst, dIsNot_lst, dIs_rol, dIsNot_rol, dIs_mls, dIsNot_mls, dIx_tup, dIx_lst, dIx_mls, dIx_rol, dLen_tup, dLen_lst, dLen_mls, dLen_rol, eqD_int, eqD_str, eqD_bl, eqD_non, neD_int, neD_str, neD_bl, neD_non, atI_l0, atI_l1, atI_l2, atI_l3, atI_l4, atI_l5, atI_l6, atI_l7, atI_m1, atI_m2, atI_m3, atI_m4, atI_m5, st_inj, st_cps, st_len, st_app, dAdd_st, dAdd_int, dAdd_tup, dAdd_ll, dAdd_lm, dAdd_ml, dAdd_mm, dIx_st, dSl_st, dSl_tup, dSl_lst, dSl_mls, dLen_st, tru_st, tru_non, tru_bl, tru_int, tru_tup, tru_lst, tru_mls, dIn_st, dNotIn_st, dIn_lst, dIn_mls, dIn_tup, dNotIn_lst, dNotIn_mls, dNotIn_tup, among_nil, among_ss, among_ii, flat_int, flat_str, flat_bl, flat_non, flat_strs, flat_ints, isi_non_bool, isi_bl_bool, isi_int_bool, isi_str_bool, isi_tup_bool, isi_lst_bool, isi_mls_bool, isi_non_int, isi_bl_int, isi_int_int, isi_str_int, isi_tup_int, isi_lst_int, isi_mls_int, isi_non_str, isi_bl_str, isi_int_str, isi_str_str, isi_tup_str, isi_lst_str, isi_mls_str, isi_non_list, isi_bl_list, isi_int_list, isi_str_list, isi_tup_list, isi_lst_list, isi_mls_list, isi_non_tuple, isi_bl_tuple, isi_int_tuple, isi_str_tuple, isi_tup_tuple, isi_lst_tuple, isi_mls_tuple, ev_raise, kRaise_ok, kRaise_ex, kRaise2_1, kRaise2_2, ev_try, kTry_ok, kTry_ex, kTry2_t, kTry2_f, kTry3_ok, ev_xf, kXf_ok, ev_isx, kIsX_ok, findD_hit, dKIn_str, dKNot_str, dKIx_str, ev_chain, kCh_ok, kCh2_ok, kCh3_t, kCh3_f, ev_sti, kSt_ok, signs_st, ev_fs, ev_jnil, ev_jcons, kJs_st, dFmt_st, kR2_ok, dAll_bls, Fun, ev_y0, ev_yseq, kYs_nx, ev_yif, kYi_t, kYi_f, ev_yy, kYy_ok, kYy2_ok, ev_yfor, kYf_ok, ev_lg, kLg_ok, kLg2_ok, kLg3_ok, cutN_to, cutN_from, cutD_to, cutD_from, eq_self, seqD, lsD, List.getElem?_cons_zero, List.getElem?_cons_succ, List.set_cons_zero, List.set_cons_succ, List.map_cons, List.map_nil, List.replicate, List.cons_append, List.nil_append, List.append_nil, List.length_cons, List.length_nil, List.any_cons, List.any_nil, List.all_cons, List.all_nil, Bool.or_false, Bool.or_true, Bool.false_or, Bool.true_or, Bool.and_false, Bool.false_and, Bool.not_false, Bool.and_true, Bool.true_and, Bool.and_self, beq_iff_eq, reduceIte, Bool.not_true, Nat.reduceAdd, Nat.reduceLT, Nat.reduceLeDiff, Nat.reduceEqDiff, Nat.reduceBEq, Nat.zero_add, Bool.false_eq_true, decide_true, decide_false, not_false_eq_true, Int.reduceLT, Int.reduceLE, Int.reduceAdd, Int.reduceSub, Int.reduceNeg, Int.reduceEq, Int.reduceToNat, Int.cast_ofNat_Int, Int.reducePow, Int.natAbs, and_self, and_true, true_and, or_true, true_or, and_false, false_and, ixN, Option.bind_some, Option.map_some, List.cons.injEq, reduceCtorEq, List.isEmpty_cons, List.isEmpty_nil, wipeE, dSub, dMul, dDiv, dMod, dPow, dNeg, dLt, dLe, dGt, dGe, dInt, dList, dTuple, dMin, dMax, dIpAdd])
local macro_rules | `(tactic| push_cast [$ts,*]) => `(tactic| simp only [$ts,*, Pool.isFz, Pool.isAl, Pool.kVar, Pool.outA, Pool.res, Pool.tk, ev_seq, kSeq_nx, kSeq_rt, kSeq_bk, kSeq_ct, kSeq_ex, ev_asg, kAsg_ok, kAsg_ex, kAsg2_ok, kAsg3_ok, ev_nm, ev_ixg, kIx0_ok, kIx_ok, kIx2_ok, kIx3_ok, ev_un, kUnp_ok, ev_gscons, kGs_ok, ev_gsnil, ev_next, ev_break, ev_cont, ev_retN, ev_drop, kDrop_ok, kDrop_ex, ev_if, ev_ifE, kIf_t, kIf_f, kIf_ex, ev_ret, kRet_ok, kRet_ex, kRet2_ok, ev_c, ev_var, kVar_fz, kVar_m, res_al, kJ_ok, ev_unr, kUn_ok, ev_op, kOp_ok, kOp_ex, kOp2_ok, kOp2_ex, kP_ok, ev_ap1, kA1_ok, ev_ap2, kA2_ok, ev_cb, kCB_ok, ev_apN, kAN_ok, ev_lnil, ev_lcons, kL_ok, ev_nil, ev_cons, kCons_ok, kCons_ex, kCons2_ok, ev_test, kTest_ok, kTest_ex, ev_tru, kTru_ok, kTr2_ok, kTr3_ok, ev_and, ev_or, ev_not, kAnd_t, kAnd_f, kOr_t, kOr_f, kNot_ok, ev_andV, ev_orV, ev_notV, kAndV_t, kAndV_f, kOrV_t, kOrV_f, kNotV_ok, ev_lst, ev_tup, kLst_ok, kLst_ex, kLs2_ok, ev_tnil, ev_tcons, kT_ok, kT2_ok, tkf_fz, tkf_mls, tkf_al, kTkf_ok, tk_fz, tk_mls, tk_al, kTk_ok, frz_of, frz_mls, res_fz, res_mls, out_fz, out_mls, out_al, kOut_ok, ev_nopart, ev_part, kPart_ok, ev_sl, kSl_ok, kSl2_ok, kSl3_ok, kSl4_ok, ev_app, kApp0_ok, kApp_ok, kApp_ex, kApp2_ok, kApp3_ok, ev_ext, kExt0_ok, kExt_ok, kE2_lst, kE2_mls, kE2_tup, ev_call, kCall_ok, kC2_ok, kC3_ok, kC3_ex, ev_for, kFor_ok, loop_nil, loop_cons, kLp0_ok, kLp_nx, kLp_ct, kLp_bk, kLp_rt, kLp_ex, ev_si, kSI_ok, kSI2_ok, kSI3_ok, ev_r1, kR1_ok, ev_r2, ev_v1, ev_lc, kLc_ok, kLc2_ok, cl_nil, cl_cons, kQ_ok, kQ2_t, kQ2_f, kQ3_ok, kQ4_ok, kFun_rt, kFun_nx, kFun_ex, kF2_ok, kF3_ok, outA_nil, outA_fz, outA_mls, kO_ok, back_nil, back_al, back_fz, als_nil, als_fz, als_al, isAl_fz, isAlK_fz, isFz_non, isAl_non, isAlK_non, isFz_bl, isAl_bl, isAlK_bl, isFz_int, isAl_int, isAlK_int, isFz_str, isAl_str, isAlK_str, isFz_cst, isAl_cst, isAlK_cst, isFz_tup, isAl_tup, isAlK_tup, isFz_lst, isAl_lst, isAlK_lst, isFz_rol, isAl_rol, isAlK_rol, isFz_mls, isAl_mls, isAlK_mls, isFz_al, isAl_al, isAlK_al, dIs_non, dIsNot_non, dIs_bl, dIsNot_bl, dIs_int, dIsNot_int, dIs_str, dIsNot_str, dIs_tup, dIsNot_tup, dIs_lst, dIsNot_lst, dIs_rol, dIsNot_rol, dIs_mls, dIsNot_mls, dIx_tup, dIx_lst, dIx_mls, dIx_rol, dLen_tup, dLen_lst, dLen_mls, dLen_rol, eqD_int, eqD_str, eqD_bl, eqD_non, neD_int, neD_str, neD_bl, neD_non, atI_l0, atI_l1, atI_l2, atI_l3, atI_l4, atI_l5, atI_l6, atI_l7, atI_m1, atI_m2, atI_m3, atI_m4, atI_m5, st_inj, st_cps, st_len, st_app, dAdd_st, dAdd_int, dAdd_tup, dAdd_ll, dAdd_lm, dAdd_ml, dAdd_mm, dIx_st, dSl_st, dSl_tup, dSl_lst, dSl_mls, dLen_st, tru_st, tru_non, tru_bl, tru_int, tru_tup, tru_lst, tru_mls, dIn_st, dNotIn_st, dIn_lst, dIn_mls, dIn_tup, dNotIn_lst, dNotIn_mls, dNotIn_tup, among_nil, among_ss, among_ii, flat_int, flat_str, flat_bl, flat_non, flat_strs, flat_ints, isi_non_bool, isi_bl_bool, isi_int_bool, isi_str_bool, isi_tup_bool, isi_lst_bool, isi_mls_bool, isi_non_int, isi_bl_int, isi_int_int, isi_str_int, isi_tup_int, isi_lst_int, isi_mls_int, isi_non_str, isi_bl_str, isi_int_str, isi_str_str, isi_tup_str, isi_lst_str, isi_mls_str, isi_non_list, isi_bl_list, isi_int_list, isi_str_list, isi_tup_list, isi_lst_list, isi_mls_list, isi_non_tuple, isi_bl_tuple, isi_int_tuple, isi_str_tuple, isi_tup_tuple, isi_lst_tuple, isi_mls_tuple, ev_raise, kRaise_ok, kRaise_ex, kRaise2_1, kRaise2_2, ev_try, kTry_ok, kTry_ex, kTry2_t, kTry2_f, kTry3_ok, ev_xf, kXf_ok, ev_isx, kIsX_ok, findD_hit, dKIn_str, dKNot_str, dKIx_str, ev_chain, kCh_ok, kCh2_ok, kCh3_t, kCh3_f, ev_sti, kSt_ok, signs_st, ev_fs, ev_jnil, ev_jcons, kJs_st, dFmt_st, kR2_ok, dAll_bls, Fun, ev_y0, ev_yseq, kYs_nx, ev_yif, kYi_t, kYi_f, ev_yy, kYy_ok, kYy2_ok, ev_yfor, kYf_ok, ev_lg, kLg_ok, kLg2_ok, kLg3_ok, cutN_to, cutN_from, cutD_to, cutD_from, eq_self, seqD, lsD, List.getElem?_cons_zero, List.getElem?_cons_succ, List.set_cons_zero, List.set_cons_succ, List.map_cons, List.map_nil, List.replicate, List.cons_append, List.nil_append, List.append_nil, List.length_cons, List.length_nil, List.any_cons, List.any_nil, List.all_cons, List.all_nil, Bool.or_false, Bool.or_true, Bool.false_or, Bool.true_or, Bool.and_false, Bool.false_and, Bool.not_false, Bool.and_true, Bool.true_and, Bool.and_self, beq_iff_eq, reduceIte, Bool.not_true, Nat.reduceAdd, Nat.reduceLT, Nat.reduceLeDiff, Nat.reduceEqDiff, Nat.reduceBEq, Nat.zero_add, Bool.false_eq_true, decide_true, decide_false, not_false_eq_true, Int.reduceLT, Int.reduceLE, Int.reduceAdd, Int.reduceSub, Int.reduceNeg, Int.reduceEq, Int.reduceToNat, Int.cast_ofNat_Int, Int.reducePow, Int.natAbs, and_self, and_true, true_and, or_true, true_or, and_false, false_and, ixN, Option.bind_some, Option.map_some, List.cons.injEq, reduceCtorEq, List.isEmpty_cons, List.isEmpty_nil, wipeE, dSub, dMul, dDiv, dMod, dPow, dNeg, dLt, dLe, dGt, dGe, dInt, dList, dTuple, dMin, dMax, dIpAdd])
/-! ### _law_is_int, _law_same -/
theorem is_int_int (i : Int) : m_l_is_int [.int i] = some (.ok (.bl true) [.int i]) := by
  unfold m_l_is_int mb_l_is_int
  rw [ev_fun (by rfl) (by rfl)]
  walk_at "ev"
/-- data that _law_same finds the same, at most n deep -/
inductive Sm : Nat → D → D → Prop
  | non {n : Nat} : Sm n .non .non
  | bl {n : Nat} (b : Bool) : Sm n (.bl b) (.bl b)
  | int {n : Nat} (b : Int) : Sm n (.int b) (.int b)
  | str {n : Nat} (b : Str) : Sm n (.str b) (.str b)
  | lst {n : Nat} {xs ys : List D} : xs.length = ys.length → xs.length ≤ 16777216 → (∀ (i : Nat) x y, xs[i]? = some x → ys[i]? = some y → Sm n x y) → Sm (n + 1) (.lst xs) (.lst ys)
  | tup {n : Nat} {xs ys : List D} : xs.length = ys.length → xs.length ≤ 16777216 → (∀ (i : Nat) x y, xs[i]? = some x → ys[i]? = some y → Sm n x y) → Sm (n + 1) (.tup xs) (.tup ys)
theorem Sm.fz {n : Nat} {x y : D} (h : Sm n x y) : isFz x = true ∧ isFz y = true := by cases h <;> exact ⟨rfl, rfl⟩
theorem Sm.mono {n m : Nat} {x y : D} (h : Sm n x y) (hm : n ≤ m) : Sm m x y := by
  induction h generalizing m with
  | non => exact .non
  | bl b => exact .bl b
  | int b => exact .int b
  | str b => exact .str b
  | lst h1 h2 _ ih =>
    obtain ⟨k, rfl⟩ : ∃ k, m = k + 1 := ⟨m - 1, by omega⟩
    exact .lst h1 h2 fun i x y e1 e2 => ih i x y e1 e2 (by omega)
  | tup h1 h2 _ ih =>
    obtain ⟨k, rfl⟩ : ∃ k, m = k + 1 := ⟨m - 1, by omega⟩
    exact .tup h1 h2 fun i x y e1 e2 => ih i x y e1 e2 (by omega)
theorem Sm.strs {n : Nat} (l : List Str) (hl : l.length ≤ 16777216) : Sm (n + 1) (.tup (l.map D.str)) (.tup (l.map D.str)) := .tup rfl (by simpa using hl) fun i x y e1 e2 => by
  rw [e1] at e2; cases e2
  obtain ⟨s, _, rfl⟩ := List.mem_map.mp (List.mem_of_getElem? e1)
  exact .str s
theorem same_loop {rec : MF} {x y : D} {xs ys : List D} {o : Option D} (hx : seqD x = some xs) (hy : seqD y = some ys) (hl : xs.length = ys.length) (hz : xs.length ≤ 16777216) (hf : ∀ (i : Nat) a b, xs[i]? = some a → ys[i]? = some b → isFz a = true ∧ isFz b = true ∧ rec [a, b] = some (.ok (.bl true) [a, b])) :
    ∃ o', mLoop (gNm 2) (lb_l_same_1 rec) (rngD 0 (ys.length : Int).toNat) [some x, some y, o] = some (.ok .nx [some x, some y, o']) := by
  obtain ⟨e', h1, h2⟩ := loop_inv (g := gNm 2) (b := lb_l_same_1 rec)
    (fun _ e => ∃ o, e = [some x, some y, o]) (rngD 0 (ys.length : Int).toNat) 0 [some x, some y, o] ⟨o, rfl⟩ fun k d e hk hI => by
      obtain ⟨o, rfl⟩ := hI
      obtain ⟨hk1, rfl⟩ := rngD_get hk
      rw [Int.toNat_natCast] at hk1
      obtain ⟨a, ha⟩ : ∃ a, xs[k]? = some a := ⟨xs[k], by simp [hl, hk1]⟩
      obtain ⟨b, hb⟩ : ∃ b, ys[k]? = some b := ⟨ys[k], by simp [hk1]⟩
      obtain ⟨f1, f2, hr⟩ := hf k a b ha hb
      have a1 : atI xs ((0 : Int) + (k : Int)) = some a := by rw [Int.zero_add]; exact atI_nat ha
      have a2 : atI ys ((0 : Int) + (k : Int)) = some b := by rw [Int.zero_add]; exact atI_nat hb
      cases x <;> cases hx <;> cases y <;> cases hy <;>
      · refine ⟨_, .nx, [some _, some _, some (.int (0 + (k : Int)))], rfl, ?_, .inl rfl, _, rfl⟩
        unfold lb_l_same_1
        push_cast [a1, a2, f1, f2, hr, isAl_fz f1, isAl_fz f2, res_fz f1, res_fz f2]
  obtain ⟨o', rfl⟩ := h2
  exact ⟨o', h1⟩
theorem same_seq {n : Nat} {x y : D} {xs ys : List D} (hk : (∃ xs ys, x = .tup xs ∧ y = .tup ys) ∨ ((∃ xs, x = .lst xs ∨ x = .mls xs) ∧ ∃ ys, y = .lst ys ∨ y = .mls ys)) (hx : seqD x = some xs) (hy : seqD y = some ys) (hl : xs.length = ys.length) (hz : xs.length ≤ 16777216)
    (hf : ∀ (i : Nat) a b, xs[i]? = some a → ys[i]? = some b → isFz a = true ∧ isFz b = true ∧ m_l_same n [a, b] = some (.ok (.bl true) [a, b])) : m_l_same (n + 1) [x, y] = some (.ok (.bl true) [x, y]) := by
  unfold m_l_same mb_l_same
  rw [ev_fun (by rfl) (by rfl)]
  obtain ⟨o', hlo⟩ := same_loop (o := none) hx hy hl hz hf
  have hr : -4611686018427387904 ≤ (ys.length : Int) ∧ (ys.length : Int) < 4611686018427387904 := by omega
  have hn : decide ((ys.length : Int) = ys.length) = true := by simp
  rcases hk with ⟨xs, ys, rfl, rfl⟩ | ⟨⟨xs, rfl | rfl⟩, ys, rfl | rfl⟩ <;> cases hx <;> cases hy <;>
    push_cast [hl, hr, hn, hlo]
theorem same_ok : ∀ {n : Nat} {x y : D}, Sm n x y → m_l_same (n + 1) [x, y] = some (.ok (.bl true) [x, y]) := by
  intro n x y h
  induction h with
  | non => unfold m_l_same mb_l_same; rw [ev_fun (by rfl) (by rfl)]; walk_at "ev"
  | bl b => unfold m_l_same mb_l_same; rw [ev_fun (by rfl) (by rfl)]; walk_at "ev"
  | int b => unfold m_l_same mb_l_same; rw [ev_fun (by rfl) (by rfl)]; push_cast [is_int_int]
  | str b => unfold m_l_same mb_l_same; rw [ev_fun (by rfl) (by rfl)]; walk_at "ev"
  | lst h1 h2 h3 ih => exact same_seq (.inr ⟨⟨_, .inl rfl⟩, _, .inl rfl⟩) rfl rfl h1 h2 fun i a b e1 e2 => ⟨(h3 i a b e1 e2).fz.1, (h3 i a b e1 e2).fz.2, ih i a b e1 e2⟩
  | tup h1 h2 h3 ih => exact same_seq (.inl ⟨_, _, rfl, rfl⟩) rfl rfl h1 h2 fun i a b e1 e2 => ⟨(h3 i a b e1 e2).fz.1, (h3 i a b e1 e2).fz.2, ih i a b e1 e2⟩
/-! ### words and names -/
theorem atI_int {α : Type} {xs : List α} {r : Int} (h0 : 0 ≤ r) (h1 : r < xs.length) : ∃ c, atI xs r = some c ∧ xs[r.toNat]? = some c ∧ c ∈ xs := by
  have hl : r.toNat < xs.length := by omega
  refine ⟨xs[r.toNat], ?_, by simp [hl], List.getElem_mem hl⟩
  have e : r = (r.toNat : Int) := by omega
  have h : atI xs (r.toNat : Int) = some xs[r.toNat] := atI_nat (by simp [hl])
  rw [← e] at h
  exact h
theorem kinds_eq : m_l_kinds [] = some (.ok (.mls [.str (st [97, 110, 121]), .str (st [110, 117, 109]), .str (st [110, 97, 116]), .str (st [115, 109, 97, 108, 108]), .str (st [100, 105, 103, 105, 116]), .str (st [98, 105, 116]), .str (st [119, 111, 114, 100])]) []) := by
  unfold m_l_kinds mb_l_kinds
  rw [ev_fun (by rfl) (by rfl)]
  walk_at "ev"
theorem word_ok (p : Pool) {a b : List Nat} {m : Int} (ha : 0 < a.length) (ha2 : a.length ≤ 1000) (hb : 0 < b.length) (hb2 : b.length ≤ 1000) (hm : 0 ≤ m) (hm2 : m ≤ 1000) :
    ∃ (c : Nat) (t : List Nat) (p' : Pool), m_l_word [p.d, .str (st a), .str (st b), .int m] = some (.ok (.str (st (c :: t))) [p'.d, .str (st a), .str (st b), .int m]) ∧ (t.length : Int) = m ∧ c ∈ a ∧ ∀ x ∈ t, x ∈ b := by
  unfold m_l_word mb_l_word
  rw [ev_fun (by rfl) (by rfl)]
  obtain ⟨r, p1, hd, h0, h1⟩ := draw_ok p (n := a.length) (by omega) (by omega)
  obtain ⟨c, hc, _, hca⟩ := atI_int (xs := a) h0 h1
  have hr : -4611686018427387904 ≤ m ∧ m < 4611686018427387904 := by omega
  have ha3 : a.length ≤ 16777216 := by omega
  have hb3 : b.length ≤ 16777216 := by omega
  push_cast [hd, hc, hr, ha3]
  obtain ⟨e', hlo, p2, t, o, rfl, ht, hx⟩ := loop_inv (g := gNm 5) (b := lb_l_word_1)
    (fun k e => ∃ (p : Pool) (t : List Nat) (o : Option D), e = [some p.d, some (.str (st a)), some (.str (st b)), some (.int m), some (.str (st (c :: t))), o] ∧ t.length = k ∧ ∀ x ∈ t, x ∈ b)
    (rngD 0 m.toNat) 0 _ ⟨p1, [], none, rfl, rfl, by simp⟩ fun k x e hk hI => by
      obtain ⟨p, t, o, rfl, ht, hx⟩ := hI
      obtain ⟨hk1, rfl⟩ := rngD_get hk
      obtain ⟨r, p', hd, h0, h1⟩ := draw_ok p (n := b.length) (by omega) (by omega)
      obtain ⟨x, hx1, _, hx2⟩ := atI_int (xs := b) h0 h1
      have hs : t.length + 1 + 1 ≤ 16777216 := by omega
      refine ⟨_, .nx, [some p'.d, some (.str (st a)), some (.str (st b)), some (.int m), some (.str (st (c :: (t ++ [x])))), some (.int (0 + (k : Int)))], rfl, ?_, .inl rfl, p', t ++ [x], _, rfl, by simp [ht], ?_⟩
      · unfold lb_l_word_1
        push_cast [hd, hx1, hb3, hs]
      · intro z hz
        rcases List.mem_append.mp hz with hz | hz
        · exact hx z hz
        · simp at hz; subst hz; exact hx2
  push_cast [hlo]
  rw [rngD_length] at ht
  exact ⟨c, t, p2, rfl, by omega, hca, hx⟩
theorem dig_ok : ∀ k : Fin 100, (Str.ofString (toString ((k.val : Nat) : Int))).cps.toList.length ≤ 2 ∧ 1 ≤ (Str.ofString (toString ((k.val : Nat) : Int))).cps.toList.length ∧ (Str.ofString (toString ((k.val : Nat) : Int))).cps.toList.all (fun c => decide (48 ≤ c ∧ c ≤ 57)) = true := by decide +kernel
theorem dStr_ok {k : Int} (h0 : 0 ≤ k) (h1 : k < 100) : ∃ l : List Nat, dStr [.int k] = some (.str (st l)) ∧ l.length ≤ 2 ∧ 1 ≤ l.length ∧ ∀ c ∈ l, 48 ≤ c ∧ c ≤ 57 := by
  obtain ⟨n, rfl⟩ : ∃ n : Nat, k = (n : Int) := ⟨k.toNat, by omega⟩
  have hn : n < 100 := by omega
  obtain ⟨a1, a2, a3⟩ := dig_ok ⟨n, hn⟩
  refine ⟨_, ?_, a1, a2, fun c hc => by simpa using List.all_eq_true.mp a3 c hc⟩
  have hl : (n : Int).natAbs.log2 < 1920 := by
    rw [Int.natAbs_natCast]
    have : n.log2 ≤ n := Nat.log2_le_self n
    omega
  simp only [dStr, hl, if_true]
  rw [← st_eta]
def lets : List Nat := [97, 98, 99, 100, 101, 102, 103, 104, 105, 106, 107, 108, 109, 110, 111, 112, 113, 114, 115, 116, 117, 118, 119, 120, 121, 122]
def digs : List Nat := [48, 49, 50, 51, 52, 53, 54, 55, 56, 57]
theorem digs_mem {c : Nat} (h : 48 ≤ c ∧ c ≤ 57) : c ∈ digs := by
  have : c = 48 ∨ c = 49 ∨ c = 50 ∨ c = 51 ∨ c = 52 ∨ c = 53 ∨ c = 54 ∨ c = 55 ∨ c = 56 ∨ c = 57 := by omega
  rcases this with rfl | rfl | rfl | rfl | rfl | rfl | rfl | rfl | rfl | rfl <;> decide
/-- a name's form -/
def Nm (w : List Nat) : Prop := ∃ c t, w = c :: t ∧ c ∈ lets ∧ (∀ x ∈ t, x ∈ lets ++ digs) ∧ t.length ≤ 5
theorem Nm.len {w : List Nat} (h : Nm w) : 1 ≤ w.length ∧ w.length ≤ 6 := by
  obtain ⟨c, t, rfl, _, _, h⟩ := h
  rw [List.length_cons]; omega
theorem fresh_ok (p : Pool) (us : List Str) : ∃ (w : List Nat) (p' : Pool), m_l_fresh [p.d, .mls (us.map D.str)] = some (.ok (.str (st w)) [p'.d, .mls (us.map D.str)]) ∧ Nm w := by
  unfold m_l_fresh mb_l_fresh
  rw [ev_fun (by rfl) (by rfl)]
  obtain ⟨r, p1, hd, h0, h1⟩ := draw_ok p (n := 3) (by omega) (by omega)
  -- the first name
  have main : ∀ (q p : Pool) (m : Int), 0 ≤ m → m < 6 → ∃ (w : List Nat) (p' : Pool), kFun (mSeq (mAsg (mCall m_l_word (mCons (mVar 0) (mCons (mVar 2) (mCons (mOp dAdd (mVar 2) (mC (.str (st [48, 49, 50, 51, 52, 53, 54, 55, 56, 57])))) (mCons (mVar 3) mNil))))) (gNm 4))
      (mSeq (mFor (mRng1 (mCons (mC (.int 60)) mNil)) (gNm 5) lb_l_fresh_1) (mRet 2 (mVar 4))) [some p.d, some (.mls (us.map D.str)), some (.str (st lets)), some (.int m), none, none]) [q.d, .mls (us.map D.str)] = some (.ok (.str (st w)) [p'.d, .mls (us.map D.str)]) ∧ Nm w := by
    intro q p m hm hm2
    obtain ⟨c, t, p2, hw, ht, hc, hx⟩ := word_ok p (a := lets) (b := lets ++ digs) (m := m) (by decide) (by decide) (by decide) (by decide) hm (by omega)
    unfold digs at hw
    have hl : lets.length + 10 ≤ 16777216 := by decide
    push_cast [hw, hl]
    rcases loop_ret (g := gNm 5) (b := lb_l_fresh_1) (fun _ e => ∃ (w : List Nat) (o : Option D), e = [some p2.d, some (.mls (us.map D.str)), some (.str (st lets)), some (.int m), some (.str (st w)), o] ∧ Nm w)
      (fun d e => ∃ (w : List Nat) (o : Option D), d = .str (st w) ∧ e = [some p2.d, some (.mls (us.map D.str)), some (.str (st lets)), some (.int m), some (.str (st w)), o] ∧ Nm w)
      (rngD 0 60) 0 [some p2.d, some (.mls (us.map D.str)), some (.str (st lets)), some (.int m), some (.str (st (c :: t))), none] ⟨c :: t, none, rfl, c, t, rfl, hc, hx, by omega⟩ (fun k x e hk hI => by
        obtain ⟨w, o, rfl, hw⟩ := hI
        obtain ⟨hk1, rfl⟩ := rngD_get hk
        refine ⟨[some p2.d, some (.mls (us.map D.str)), some (.str (st lets)), some (.int m), some (.str (st w)), some (.int (0 + (k : Int)))], ?_⟩
        obtain ⟨l, hl, l1, l2, l3⟩ := dStr_ok (k := 0 + (k : Int)) (by omega) (by omega)
        have hwl := hw.len
        have hz : w.length ≤ 16777216 := by omega
        have hz2 : (w.take 4).length + l.length ≤ 16777216 := by rw [List.length_take]; omega
        have hnm : Nm (w.take 4 ++ l) := by
          obtain ⟨c, t, rfl, h1, h2, h3⟩ := hw
          refine ⟨c, t.take 3 ++ l, rfl, h1, fun x hx => ?_, by rw [List.length_append, List.length_take]; omega⟩
          rcases List.mem_append.mp hx with hx | hx
          · exact h2 x (List.mem_of_mem_take hx)
          · exact List.mem_append.mpr (.inr (digs_mem (l3 x hx)))
        have next : ∃ e2, mAsg (mOp dAdd (mSl dSl (mVar 4) mNoPart (mPart (mC (.int 4)))) (mCB dStr (mCons (mVar 5) mNil))) (gNm 4) [some p2.d, some (.mls (us.map D.str)), some (.str (st lets)), some (.int m), some (.str (st w)), some (.int (0 + (k : Int)))] = some (.ok .nx e2) ∧ ∃ (w : List Nat) (o : Option D), e2 = [some p2.d, some (.mls (us.map D.str)), some (.str (st lets)), some (.int m), some (.str (st w)), o] ∧ Nm w := by
          refine ⟨[some p2.d, some (.mls (us.map D.str)), some (.str (st lets)), some (.int m), some (.str (st (w.take 4 ++ l))), some (.int (0 + (k : Int)))], ?_, _, _, rfl, hnm⟩
          push_cast [hl, hz, hz2]
        obtain ⟨e2, hn1, hn2⟩ := next
        by_cases c1 : amongD (.str (st w)) (us.map D.str) = true
        · refine ⟨.nx, e2, rfl, ?_, .inl ⟨.inl rfl, hn2⟩⟩
          unfold lb_l_fresh_1
          push_cast [flat_strs, c1, hn1]
        · have c1' : amongD (.str (st w)) (us.map D.str) = false := by simpa using c1
          by_cases c2 : amongD (.str (st w)) [.str (st [97, 110, 121]), .str (st [110, 117, 109]), .str (st [110, 97, 116]), .str (st [115, 109, 97, 108, 108]), .str (st [100, 105, 103, 105, 116]), .str (st [98, 105, 116]), .str (st [119, 111, 114, 100])] = true
          · refine ⟨.nx, e2, rfl, ?_, .inl ⟨.inl rfl, hn2⟩⟩
            unfold lb_l_fresh_1
            simp only [among_ss, among_nil, st_inj, Bool.or_false] at c2
            push_cast [flat_strs, c1', kinds_eq, c2, hn1]
          · have c2' : amongD (.str (st w)) [.str (st [97, 110, 121]), .str (st [110, 117, 109]), .str (st [110, 97, 116]), .str (st [115, 109, 97, 108, 108]), .str (st [100, 105, 103, 105, 116]), .str (st [98, 105, 116]), .str (st [119, 111, 114, 100])] = false := by simpa using c2
            by_cases c3 : amongD (.str (st w)) [.str (st [108, 101, 110, 116]), .str (st [109, 97, 105, 110])] = true
            · refine ⟨.nx, e2, rfl, ?_, .inl ⟨.inl rfl, hn2⟩⟩
              unfold lb_l_fresh_1
              simp only [among_ss, among_nil, st_inj, Bool.or_false] at c2' c3
              push_cast [flat_strs, c1', kinds_eq, c2', c3, hn1]
            · have c3' : amongD (.str (st w)) [.str (st [108, 101, 110, 116]), .str (st [109, 97, 105, 110])] = false := by simpa using c3
              refine ⟨.rt (.str (st w)), [some p2.d, some (.mls (us.map D.str)), some (.str (st lets)), some (.int m), some (.str (st w)), some (.int (0 + (k : Int)))], rfl, ?_, .inr ⟨_, rfl, w, _, rfl, rfl, hw⟩⟩
              unfold lb_l_fresh_1
              simp only [among_ss, among_nil, st_inj, Bool.or_false] at c2' c3'
              push_cast [flat_strs, c1', kinds_eq, c2', c3']) with ⟨e', hlo, w, o, rfl, hw⟩ | ⟨d, e', hlo, w, o, rfl, rfl, hw⟩
    · push_cast [hlo]
      exact ⟨w, p2, rfl, hw⟩
    · push_cast [hlo]
      exact ⟨w, p2, rfl, hw⟩
  by_cases hr : r = 2
  · obtain ⟨m, p2, hd2, h2, h3⟩ := draw_ok p1 (n := 6) (by omega) (by omega)
    obtain ⟨w, p', hf, hw⟩ := main p p2 m h2 h3
    refine ⟨w, p', ?_, hw⟩
    rw [← hf]
    unfold lets
    push_cast [hd, hr, hd2]
  · obtain ⟨w, p', hf, hw⟩ := main p p1 r h0 (by omega)
    refine ⟨w, p', ?_, hw⟩
    rw [← hf]
    unfold lets
    push_cast [hd, hr]
/-! ### numbers as texts -/
def numS (i : Int) : List Nat := (Str.ofString (toString i)).cps.toList
theorem dStr_num {i : Int} (h : i.natAbs.log2 < 1920) : dStr [.int i] = some (.str (st (numS i))) := by
  simp only [dStr, h, if_true]
  unfold numS
  rw [← st_eta]
theorem numS_len {i : Int} {k : Nat} (hk : 0 < k) (h : i.natAbs < 10 ^ k) : (numS i).length ≤ k + 1 := by
  have e := PySem.int_text_length_le10 hk h
  unfold numS
  have e2 : (Str.ofString (toString i)).cps.toList.length = (Str.ofString (toString i)).length := by simp [Str.length]
  rw [e2, PySem.ofString_length]
  exact e
def Asc (w : List Nat) : Prop := ∀ c ∈ w, c < 128
theorem Asc.app {a b : List Nat} (h : Asc a) (k : Asc b) : Asc (a ++ b) := fun c hc => by
  rcases List.mem_append.mp hc with hc | hc
  · exact h c hc
  · exact k c hc
theorem num_asc_tab : ∀ k : Fin 1000, (numS (k.val : Int)).all (fun c => decide (c < 128)) = true := by decide +kernel
theorem num_asc {i : Int} (h0 : 0 ≤ i) (h1 : i ≤ 999) : Asc (numS i) := by
  have := num_asc_tab ⟨i.toNat, by omega⟩
  have e : ((i.toNat : Nat) : Int) = i := by omega
  simp only [e, List.all_eq_true, decide_eq_true_eq] at this
  exact this
theorem num_small {i : Int} (h0 : 0 ≤ i) (h1 : i ≤ 999) : dStr [.int i] = some (.str (st (numS i))) ∧ (numS i).length ≤ 4 := by
  have hi : i.natAbs < 10 ^ 3 := by omega
  refine ⟨dStr_num ?_, numS_len (by decide) hi⟩
  have := Nat.log2_le_self i.natAbs
  omega
/-! ### tasks, cells, traces -/
theorem task_ok (p : Pool) : ∃ (w : List Nat) (p' : Pool), m_l_task [p.d] = some (.ok (.str (st w)) [p'.d]) ∧ w.length ≤ 20 ∧ Asc w := by
  unfold m_l_task mb_l_task
  rw [ev_fun (by rfl) (by rfl)]
  obtain ⟨r1, p1, d1, a1, b1⟩ := draw_ok p (n := 4) (by omega) (by omega)
  have hr : -4611686018427387904 ≤ r1 ∧ r1 < 4611686018427387904 := by omega
  obtain ⟨e', hlo, p2, w, o2, o3, rfl, hw, hasc⟩ := loop_inv (g := gNm 2) (b := lb_l_task_1)
    (fun k e => ∃ (p : Pool) (w : List Nat) (o2 o3 : Option D), e = [some p.d, some (.str (st w)), o2, o3] ∧ w.length ≤ 1 + 5 * k ∧ Asc w) (rngD 0 r1.toNat) 0 [some p1.d, some (.str (st [48])), none, none] ⟨p1, [48], none, none, rfl, by simp, (fun c hc => by simp at hc; omega)⟩ fun k x e hk hI => by
      obtain ⟨p, w, o2, o3, rfl, hw, hasc⟩ := hI
      have hdot : Asc [46] := fun c hc => by simp at hc; omega
      obtain ⟨hk1, rfl⟩ := rngD_get hk
      obtain ⟨r, p1, d1, a1, b1⟩ := draw_ok p (n := 3) (by omega) (by omega)
      obtain ⟨r2, p2, d2, a2, b2⟩ := draw_ok p1 (n := 5) (by omega) (by omega)
      have z1 : w.length + 1 ≤ 16777216 := by omega
      by_cases h4 : r2 = 4
      · obtain ⟨r3, p3, d3, a3, b3⟩ := draw_ok p2 (n := 120) (by omega) (by omega)
        obtain ⟨hn, hl⟩ := num_small (i := 1 + r3) (by omega) (by omega)
        have z2 : (w ++ [46]).length + (numS (1 + r3)).length ≤ 16777216 := by simp; omega
        refine ⟨_, .nx, [some p3.d, some (.str (st (w ++ [46] ++ numS (1 + r3)))), some (.int (0 + (k : Int))), some (.int (1 + r3))], rfl, ?_, .inl rfl, p3, _, _, _, rfl, by simp; omega, (hasc.app hdot).app (num_asc (by omega) (by omega))⟩
        unfold lb_l_task_1
        push_cast [d1, d2, h4, d3, hn, z1, z2]
      · obtain ⟨hn, hl⟩ := num_small (i := 1 + r) (by omega) (by omega)
        have z2 : (w ++ [46]).length + (numS (1 + r)).length ≤ 16777216 := by simp; omega
        refine ⟨_, .nx, [some p2.d, some (.str (st (w ++ [46] ++ numS (1 + r)))), some (.int (0 + (k : Int))), some (.int (1 + r))], rfl, ?_, .inl rfl, p2, _, _, _, rfl, by simp; omega, (hasc.app hdot).app (num_asc (by omega) (by omega))⟩
        unfold lb_l_task_1
        push_cast [d1, d2, eq_false h4, hn, z1, z2]
  rw [rngD_length] at hw
  refine ⟨w, p2, ?_, by omega, hasc⟩
  push_cast [d1, hr, hlo]
theorem Nm.asc {w : List Nat} (h : Nm w) : Asc w := by
  obtain ⟨c, t, rfl, h1, h2, _⟩ := h
  have hb : ∀ c ∈ lets ++ digs, c < 128 := by decide
  intro x hx
  rcases List.mem_cons.mp hx with rfl | hx
  · exact hb _ (List.mem_append.mpr (.inl h1))
  · exact hb _ (h2 x hx)
theorem cell_ok (p : Pool) : ∃ (w : List Nat) (p' : Pool), m_l_cell_text [p.d] = some (.ok (.str (st w)) [p'.d]) ∧ w.length ≤ 30 ∧ Asc w := by
  unfold m_l_cell_text mb_l_cell_text
  rw [ev_fun (by rfl) (by rfl)]
  obtain ⟨r1, p1, d1, a1, b1⟩ := draw_ok p (n := 4) (by omega) (by omega)
  by_cases h0 : r1 = 0
  · refine ⟨[97, 110, 115, 119, 101, 114, 115], p1, ?_, by decide, (show ∀ c ∈ [97, 110, 115, 119, 101, 114, 115], c < 128 by decide)⟩
    push_cast [d1, h0]
  · by_cases h1 : r1 = 1
    · obtain ⟨w, p2, hw, hl, ha⟩ := task_ok p1
      have hz : 5 + w.length ≤ 16777216 := by omega
      have hz2 : 0 + 1 + 1 + 1 + 1 + 1 + w.length ≤ 16777216 := by omega
      refine ⟨[116, 97, 115, 107, 32] ++ w, p2, ?_, by simp; omega, Asc.app (show ∀ c ∈ [116, 97, 115, 107, 32], c < 128 by decide) ha⟩
      push_cast [d1, h1, hw, hz, hz2]
    · obtain ⟨w, p2, hf, hw⟩ := fresh_ok p1 []
      have hf' : m_l_fresh [p1.d, .mls []] = some (.ok (.str (st w)) [p2.d, .mls []]) := hf
      refine ⟨w, p2, ?_, by have := hw.len; omega, hw.asc⟩
      push_cast [d1, eq_false h0, eq_false h1, hf']
/-- an event -/
structure Ev where
  t : Str
  r : List Str
  w : List Str
def evD (e : Ev) : D := .tup [.str e.t, .tup (e.r.map D.str), .tup (e.w.map D.str)]
def trD (l : List Ev) : D := .tup (l.map evD)
def AscS (s : Str) : Prop := ∀ c ∈ s.cps.toList, c < 128
structure EvOk (e : Ev) : Prop where
  rl : e.r.length ≤ 20
  wl : e.w.length ≤ 20
  ta : AscS e.t
  ra : ∀ s ∈ e.r, AscS s
  wa : ∀ s ∈ e.w, AscS s
theorem AscS.of {w : List Nat} (h : Asc w) : AscS (st w) := fun c hc => h c (by simpa [st] using hc)
theorem sort_strs (xs : List Str) : ∃ ys : List Str, dSorted [.mls (xs.map D.str)] = some (.mls (ys.map D.str)) ∧ ys.length = xs.length ∧ ∀ y ∈ ys, y ∈ xs := by
  have h1 : sortOk (xs.map D.str) = true := by
    have e1 : D.toPs (xs.map D.str) = xs.map PyData.str := by rw [toPs_map, List.map_map]; rfl
    have e2 : D.okPs (xs.map D.str) = true := by
      induction xs with
      | nil => rfl
      | cons x xs ih => simp only [List.map_cons, D.okPs, D.okP, Bool.true_and]; exact ih (by rw [toPs_map, List.map_map]; rfl)
    unfold sortOk
    rw [e1, e2]
    simp [PySem.W.alike, noTupP, PyData.depth]
  have h2 : ∀ d ∈ (xs.map D.str).mergeSort leD, ∃ y, d = .str y := fun d hd => by
    obtain ⟨y, _, rfl⟩ := List.mem_map.mp (List.mem_mergeSort.mp hd)
    exact ⟨y, rfl⟩
  have h3 : ∀ l : List D, (∀ d ∈ l, ∃ y, d = .str y) → ∃ ys : List Str, l = ys.map D.str := by
    intro l
    induction l with
    | nil => intro _; exact ⟨[], rfl⟩
    | cons d l ih =>
      intro h
      obtain ⟨y, rfl⟩ := h d (by simp)
      obtain ⟨ys, rfl⟩ := ih fun x hx => h x (List.mem_cons_of_mem _ hx)
      exact ⟨y :: ys, rfl⟩
  obtain ⟨ys, hy⟩ := h3 _ h2
  refine ⟨ys, ?_, ?_, fun y hm => ?_⟩
  · simp only [dSorted, lsD, h1, if_true, hy]
  · have := congrArg List.length hy
    simpa using this.symm
  · have h4 : D.str y ∈ (xs.map D.str).mergeSort leD := by rw [hy]; exact List.mem_map.mpr ⟨y, hm, rfl⟩
    obtain ⟨z, hz, e⟩ := List.mem_map.mp (List.mem_mergeSort.mp h4)
    cases e
    exact hz
abbrev StA (l : List D) : Prop := ∀ x ∈ l, ∃ w : List Nat, x = .str (st w) ∧ w.length ≤ 40 ∧ Asc w
abbrev StB (l : List D) : Prop := ∀ x ∈ l, ∃ w : List Nat, x = .str (st w) ∧ w.length ≤ 20 ∧ Asc w
theorem StA.strs : ∀ {l : List D}, StA l → ∃ xs : List Str, l = xs.map D.str ∧ ∀ x ∈ xs, AscS x
  | [], _ => ⟨[], rfl, fun x hx => nomatch hx⟩
  | d :: l, h => by
    obtain ⟨w, rfl, _, hw⟩ := h d (by simp)
    obtain ⟨xs, rfl, hx⟩ := StA.strs (l := l) fun x hx => h x (List.mem_cons_of_mem _ hx)
    refine ⟨st w :: xs, rfl, fun x hm => ?_⟩
    rcases List.mem_cons.mp hm with rfl | hm
    · exact AscS.of hw
    · exact hx x hm
theorem StA.flat {l : List D} (h : StA l) : l.all flatD = true := List.all_eq_true.mpr fun x hx => by
  obtain ⟨w, rfl, _⟩ := h x hx
  rfl
theorem StA.snoc {l : List D} (h : StA l) {w : List Nat} (hw : w.length ≤ 40 ∧ Asc w) : StA (l ++ [.str (st w)]) := fun x hx => by
  rcases List.mem_append.mp hx with hx | hx
  · exact h x hx
  · simp at hx; subst hx; exact ⟨w, rfl, hw⟩
theorem tasks_loop (p : Pool) (a1 a3 a4 a5 a6 a7 a8 a9 a10 a11 : Option D) (n : Nat) (hn : n ≤ 10) : ∃ (p' : Pool) (ts : List D) (o : Option D), mLoop (gNm 3) lb_l_trace_1 (rngD 0 n) [some p.d, a1, some (.mls []), a3, a4, a5, a6, a7, a8, a9, a10, a11] = some (.ok .nx [some p'.d, a1, some (.mls ts), o, a4, a5, a6, a7, a8, a9, a10, a11]) ∧ StB ts ∧ ts.length = n := by
  obtain ⟨e', hlo, p', ts, o, rfl, h1, h2⟩ := loop_inv (g := gNm 3) (b := lb_l_trace_1)
    (fun k e => ∃ (p : Pool) (ts : List D) (o : Option D), e = [some p.d, a1, some (.mls ts), o, a4, a5, a6, a7, a8, a9, a10, a11] ∧ StB ts ∧ ts.length = k) (rngD 0 n) 0 _ ⟨p, [], a3, rfl, (fun x hx => nomatch hx), rfl⟩ fun k x e hk hI => by
      obtain ⟨p, ts, o, rfl, h1, h2⟩ := hI
      obtain ⟨hk1, rfl⟩ := rngD_get hk
      obtain ⟨w, p', hw, hl, ha⟩ := task_ok p
      have hz : ts.length < 16777216 := by omega
      have hz2 : ts.length + 1 ≤ 16777216 := by omega
      refine ⟨_, .nx, [some p'.d, a1, some (.mls (ts ++ [.str (st w)])), some (.int (0 + (k : Int))), a4, a5, a6, a7, a8, a9, a10, a11], rfl, ?_, .inl rfl, p', _, _, rfl, (fun x hx => by
        rcases List.mem_append.mp hx with hx | hx
        · exact h1 x hx
        · simp at hx; subst hx; exact ⟨w, rfl, hl, ha⟩), by simp [h2]⟩
      unfold lb_l_trace_1
      push_cast [hw, hz, hz2]
  rw [rngD_length] at h2
  exact ⟨p', ts, o, hlo, h1, by omega⟩
theorem spots_loop (p : Pool) (a1 a2 a3 a5 a6 a7 a8 a9 a10 a11 : Option D) (n : Nat) (hn : n ≤ 10) : ∃ (p' : Pool) (ts : List D) (o o5 : Option D), mLoop (gNm 3) lb_l_trace_2 (rngD 0 n) [some p.d, a1, a2, a3, some (.mls []), a5, a6, a7, a8, a9, a10, a11] = some (.ok .nx [some p'.d, a1, a2, o, some (.mls ts), o5, a6, a7, a8, a9, a10, a11]) ∧ StA ts ∧ ts.length ≤ n := by
  obtain ⟨e', hlo, p', ts, o, o5, rfl, h1, h2⟩ := loop_inv (g := gNm 3) (b := lb_l_trace_2)
    (fun k e => ∃ (p : Pool) (ts : List D) (o o5 : Option D), e = [some p.d, a1, a2, o, some (.mls ts), o5, a6, a7, a8, a9, a10, a11] ∧ StA ts ∧ ts.length ≤ k) (rngD 0 n) 0 _ ⟨p, [], a3, a5, rfl, (fun x hx => nomatch hx), by simp⟩ fun k x e hk hI => by
      obtain ⟨p, ts, o, o5, rfl, h1, h2⟩ := hI
      obtain ⟨hk1, rfl⟩ := rngD_get hk
      obtain ⟨w, p', hw, hl, ha⟩ := cell_ok p
      have hz : ts.length < 16777216 := by omega
      have hz2 : ts.length + 1 ≤ 16777216 := by omega
      cases hc : amongD (.str (st w)) ts with
      | true =>
        refine ⟨_, .nx, [some p'.d, a1, a2, some (.int (0 + (k : Int))), some (.mls ts), some (.str (st w)), a6, a7, a8, a9, a10, a11], rfl, ?_, .inl rfl, p', ts, _, _, rfl, h1, by omega⟩
        unfold lb_l_trace_2
        push_cast [hw, h1.flat, hc]
      | false =>
        refine ⟨_, .nx, [some p'.d, a1, a2, some (.int (0 + (k : Int))), some (.mls (ts ++ [.str (st w)])), some (.str (st w)), a6, a7, a8, a9, a10, a11], rfl, ?_, .inl rfl, p', _, _, _, rfl, h1.snoc ⟨by omega, ha⟩, by simp; omega⟩
        unfold lb_l_trace_2
        push_cast [hw, h1.flat, hc, hz, hz2]
  rw [rngD_length] at h2
  exact ⟨p', ts, o, o5, hlo, h1, by omega⟩
/-- reads and writes of one event -/
theorem cells_loop (a1 a2 a3 a4 a6 a7 a8 : Option D) (ss : List D) (hs : StA ss) (hl : ss.length ≤ 10) (p : Pool) (o5 o11 : Option D) (ws : List D) (hw : StA ws) (hwl : ws.length ≤ 5) : ∃ (p' : Pool) (rs' ws' : List D) (o5' o11' : Option D), mLoop (gNm 5) lb_l_trace_3 ss [some p.d, a1, a2, a3, a4, o5, a6, a7, a8, some (.mls []), some (.mls ws), o11] = some (.ok .nx [some p'.d, a1, a2, a3, a4, o5', a6, a7, a8, some (.mls rs'), some (.mls ws'), o11']) ∧ StA rs' ∧ StA ws' ∧ rs'.length ≤ 10 ∧ ws'.length ≤ 15 := by
  obtain ⟨e', hlo, p', rs', ws', o5', o11', rfl, h1, h2, h3, h4⟩ := loop_inv (g := gNm 5) (b := lb_l_trace_3)
    (fun k e => ∃ (p : Pool) (rs' ws' : List D) (o5' o11' : Option D), e = [some p.d, a1, a2, a3, a4, o5', a6, a7, a8, some (.mls rs'), some (.mls ws'), o11'] ∧ StA rs' ∧ StA ws' ∧ rs'.length ≤ k ∧ ws'.length ≤ 5 + k) ss 0 _ ⟨p, [], ws, o5, o11, rfl, (fun x hx => nomatch hx), hw, by simp, by omega⟩ fun k x e hk hI => by
      obtain ⟨p, rs, ws, o5, o11, rfl, h1, h2, h3, h4⟩ := hI
      obtain ⟨w, rfl, hwl⟩ := hs x (List.mem_of_getElem? hk)
      have hk1 : k < ss.length := (List.getElem?_eq_some_iff.mp hk).1
      obtain ⟨r, p', d1, b1, b2⟩ := draw_ok p (n := 7) (by omega) (by omega)
      have z1 : rs.length < 16777216 := by omega
      have z2 : ws.length < 16777216 := by omega
      have z3 : rs.length + 1 ≤ 16777216 := by omega
      have z4 : ws.length + 1 ≤ 16777216 := by omega
      have hr : r = 0 ∨ r = 1 ∨ r = 2 ∨ r = 3 ∨ r = 4 ∨ r = 5 ∨ r = 6 := by omega
      cases hc : amongD (.str (st w)) ws with
      | true =>
        rcases hr with rfl | rfl | rfl | rfl | rfl | rfl | rfl
        · refine ⟨_, .nx, [some p'.d, a1, a2, a3, a4, some (.str (st w)), a6, a7, a8, some (.mls rs), some (.mls ws), some (.int 0)], rfl, ?_, .inl rfl, p', _, _, _, _, rfl, h1, h2, by omega, by omega⟩
          unfold lb_l_trace_3; push_cast [d1, h2.flat, hc, z1, z2, z3, z4]
        · refine ⟨_, .nx, [some p'.d, a1, a2, a3, a4, some (.str (st w)), a6, a7, a8, some (.mls (rs ++ [.str (st w)])), some (.mls ws), some (.int 1)], rfl, ?_, .inl rfl, p', _, _, _, _, rfl, h1.snoc hwl, h2, by simp; omega, by omega⟩
          unfold lb_l_trace_3; push_cast [d1, h2.flat, hc, z1, z2, z3, z4]
        · refine ⟨_, .nx, [some p'.d, a1, a2, a3, a4, some (.str (st w)), a6, a7, a8, some (.mls (rs ++ [.str (st w)])), some (.mls ws), some (.int 2)], rfl, ?_, .inl rfl, p', _, _, _, _, rfl, h1.snoc hwl, h2, by simp; omega, by omega⟩
          unfold lb_l_trace_3; push_cast [d1, h2.flat, hc, z1, z2, z3, z4]
        · refine ⟨_, .nx, [some p'.d, a1, a2, a3, a4, some (.str (st w)), a6, a7, a8, some (.mls rs), some (.mls ws), some (.int 3)], rfl, ?_, .inl rfl, p', _, _, _, _, rfl, h1, h2, by omega, by omega⟩
          unfold lb_l_trace_3; push_cast [d1, h2.flat, hc, z1, z2, z3, z4]
        · refine ⟨_, .nx, [some p'.d, a1, a2, a3, a4, some (.str (st w)), a6, a7, a8, some (.mls rs), some (.mls ws), some (.int 4)], rfl, ?_, .inl rfl, p', _, _, _, _, rfl, h1, h2, by omega, by omega⟩
          unfold lb_l_trace_3; push_cast [d1, h2.flat, hc, z1, z2, z3, z4]
        · refine ⟨_, .nx, [some p'.d, a1, a2, a3, a4, some (.str (st w)), a6, a7, a8, some (.mls rs), some (.mls ws), some (.int 5)], rfl, ?_, .inl rfl, p', _, _, _, _, rfl, h1, h2, by omega, by omega⟩
          unfold lb_l_trace_3; push_cast [d1, h2.flat, hc, z1, z2, z3, z4]
        · refine ⟨_, .nx, [some p'.d, a1, a2, a3, a4, some (.str (st w)), a6, a7, a8, some (.mls rs), some (.mls ws), some (.int 6)], rfl, ?_, .inl rfl, p', _, _, _, _, rfl, h1, h2, by omega, by omega⟩
          unfold lb_l_trace_3; push_cast [d1, h2.flat, hc, z1, z2, z3, z4]
      | false =>
        rcases hr with rfl | rfl | rfl | rfl | rfl | rfl | rfl
        · refine ⟨_, .nx, [some p'.d, a1, a2, a3, a4, some (.str (st w)), a6, a7, a8, some (.mls rs), some (.mls ws), some (.int 0)], rfl, ?_, .inl rfl, p', _, _, _, _, rfl, h1, h2, by omega, by omega⟩
          unfold lb_l_trace_3; push_cast [d1, h2.flat, hc, z1, z2, z3, z4]
        · refine ⟨_, .nx, [some p'.d, a1, a2, a3, a4, some (.str (st w)), a6, a7, a8, some (.mls (rs ++ [.str (st w)])), some (.mls ws), some (.int 1)], rfl, ?_, .inl rfl, p', _, _, _, _, rfl, h1.snoc hwl, h2, by simp; omega, by omega⟩
          unfold lb_l_trace_3; push_cast [d1, h2.flat, hc, z1, z2, z3, z4]
        · refine ⟨_, .nx, [some p'.d, a1, a2, a3, a4, some (.str (st w)), a6, a7, a8, some (.mls (rs ++ [.str (st w)])), some (.mls (ws ++ [.str (st w)])), some (.int 2)], rfl, ?_, .inl rfl, p', _, _, _, _, rfl, h1.snoc hwl, h2.snoc hwl, by simp; omega, by simp; omega⟩
          unfold lb_l_trace_3; push_cast [d1, h2.flat, hc, z1, z2, z3, z4]
        · refine ⟨_, .nx, [some p'.d, a1, a2, a3, a4, some (.str (st w)), a6, a7, a8, some (.mls rs), some (.mls (ws ++ [.str (st w)])), some (.int 3)], rfl, ?_, .inl rfl, p', _, _, _, _, rfl, h1, h2.snoc hwl, by omega, by simp; omega⟩
          unfold lb_l_trace_3; push_cast [d1, h2.flat, hc, z1, z2, z3, z4]
        · refine ⟨_, .nx, [some p'.d, a1, a2, a3, a4, some (.str (st w)), a6, a7, a8, some (.mls rs), some (.mls ws), some (.int 4)], rfl, ?_, .inl rfl, p', _, _, _, _, rfl, h1, h2, by omega, by omega⟩
          unfold lb_l_trace_3; push_cast [d1, h2.flat, hc, z1, z2, z3, z4]
        · refine ⟨_, .nx, [some p'.d, a1, a2, a3, a4, some (.str (st w)), a6, a7, a8, some (.mls rs), some (.mls ws), some (.int 5)], rfl, ?_, .inl rfl, p', _, _, _, _, rfl, h1, h2, by omega, by omega⟩
          unfold lb_l_trace_3; push_cast [d1, h2.flat, hc, z1, z2, z3, z4]
        · refine ⟨_, .nx, [some p'.d, a1, a2, a3, a4, some (.str (st w)), a6, a7, a8, some (.mls rs), some (.mls ws), some (.int 6)], rfl, ?_, .inl rfl, p', _, _, _, _, rfl, h1, h2, by omega, by omega⟩
          unfold lb_l_trace_3; push_cast [d1, h2.flat, hc, z1, z2, z3, z4]
  exact ⟨p', rs', ws', o5', o11', hlo, h1, h2, by omega, by omega⟩
/-- the events -/
theorem events_loop (a1 a3 : Option D) (own : Int) (ho : own = 0 ∨ own = 1) (ts ss : List D) (ht : StB ts) (htl : 0 < ts.length) (htl2 : ts.length ≤ 10) (hs : StA ss) (hsl : ss.length ≤ 10) (p : Pool) (o5 o8 o9 o10 o11 : Option D) (n : Nat) (hn : n ≤ 20) :
    ∃ (p' : Pool) (tr : List Ev) (e' : Env), mLoop (gNm 3) lb_l_trace_4 (rngD 0 n) [some p.d, a1, some (.mls ts), a3, some (.mls ss), o5, some (.int own), some (.mls []), o8, o9, o10, o11] = some (.ok .nx e') ∧ (∃ (s4 : D) (o3 o5 o8 o9 o10 o11 : Option D), e' = [some p'.d, a1, some (.mls ts), o3, some s4, o5, some (.int own), some (.mls (tr.map evD)), o8, o9, o10, o11]) ∧ tr.length = n ∧ ∀ e ∈ tr, EvOk e := by
  obtain ⟨e', hlo, p', tr, s4, hs4, o3, o5, o8, o9, o10, o11, rfl, h1, h2⟩ := loop_inv (g := gNm 3) (b := lb_l_trace_4)
    (fun k e => ∃ (p : Pool) (tr : List Ev) (s4 : D), (s4 = .mls ss ∨ s4 = .lst ss) ∧ ∃ (o3 o5 o8 o9 o10 o11 : Option D), e = [some p.d, a1, some (.mls ts), o3, some s4, o5, some (.int own), some (.mls (tr.map evD)), o8, o9, o10, o11] ∧ tr.length = k ∧ ∀ e ∈ tr, EvOk e) (rngD 0 n) 0 _ ⟨p, [], _, .inl rfl, a3, o5, o8, o9, o10, o11, rfl, rfl, (fun x hx => nomatch hx)⟩ fun k x e hk hI => by
      obtain ⟨p, tr, s4, hs4, o3, o5, o8, o9, o10, o11, rfl, h1, h2⟩ := hI
      obtain ⟨hk1, rfl⟩ := rngD_get hk
      obtain ⟨r, p1, d1, b1, b2⟩ := draw_ok p (n := ts.length) (by omega) (by omega)
      obtain ⟨x, hx, _, hxm⟩ := atI_int (xs := ts) b1 b2
      obtain ⟨w, rfl, hwl, hwa⟩ := ht x hxm
      have z0 : 5 + w.length ≤ 16777216 := by omega
      have z00 : 0 + 1 + 1 + 1 + 1 + 1 + w.length ≤ 16777216 := by omega
      obtain ⟨ws0, hws0, hws0l, hows⟩ : ∃ ws0 : List D, StA ws0 ∧ ws0.length ≤ 5 ∧ ((own = 0 ∧ ws0 = []) ∨ (own = 1 ∧ ws0 = [.str (st (116 :: 97 :: 115 :: 107 :: 32 :: w))])) := by
        rcases ho with rfl | rfl
        · exact ⟨[], (fun x hx => nomatch hx), by simp, .inl ⟨rfl, rfl⟩⟩
        · refine ⟨[.str (st (116 :: 97 :: 115 :: 107 :: 32 :: w))], fun x hx => ?_, by simp, .inr ⟨rfl, rfl⟩⟩
          simp only [List.mem_cons, List.not_mem_nil, or_false] at hx
          subst hx
          exact ⟨_, rfl, by simp only [List.length_cons]; omega, Asc.app (a := [116, 97, 115, 107, 32]) (show ∀ c ∈ [116, 97, 115, 107, 32], c < 128 by decide) hwa⟩
      obtain ⟨p2, rs, ws, o5', o11', hlo, hr, hw, hrl, hwl2⟩ := cells_loop a1 (some (.mls ts)) (some (.int (0 + (k : Int)))) (some (.lst ss)) (some (.int own)) (some (.mls (tr.map evD))) (some (.str (st w))) ss hs hsl p1 o5 o11 ws0 hws0 hws0l
      obtain ⟨rs', rfl, hra⟩ := hr.strs
      obtain ⟨ws', rfl, hwsa⟩ := hw.strs
      obtain ⟨rs2, hrs, hrsl, hrm⟩ := sort_strs rs'
      obtain ⟨ws2, hws, hwsl, hwm⟩ := sort_strs ws'
      rw [List.length_map] at hrl hwl2
      have z1 : (tr.map evD).length < 16777216 := by rw [List.length_map]; omega
      have z2 : (tr.map evD).length + 1 ≤ 16777216 := by rw [List.length_map]; omega
      have e1 : (tr ++ [Ev.mk (st w) rs2 ws2]).map evD = tr.map evD ++ [.tup [.str (st w), .tup (rs2.map D.str), .tup (ws2.map D.str)]] := by simp [evD]
      refine ⟨_, .nx, [some p2.d, a1, some (.mls ts), some (.int (0 + (k : Int))), some (.lst ss), o5', some (.int own), some (.mls ((tr ++ [Ev.mk (st w) rs2 ws2]).map evD)), some (.str (st w)), some (.mls (rs'.map D.str)), some (.mls (ws'.map D.str)), o11'], rfl, ?_, .inl rfl, p2, _, _, .inr rfl, _, _, _, _, _, _, rfl, by simp [h1], ?_⟩
      · rw [e1]
        unfold lb_l_trace_4
        rcases hs4 with rfl | rfl <;> rcases hows with ⟨rfl, rfl⟩ | ⟨rfl, rfl⟩ <;> push_cast [d1, hx, z0, z00, hlo, hrs, hws, z1, z2]
      · intro e he
        rcases List.mem_append.mp he with he | he
        · exact h2 e he
        · simp only [List.mem_cons, List.not_mem_nil, or_false] at he
          subst he
          exact ⟨by show rs2.length ≤ 20; omega, by show ws2.length ≤ 20; omega, AscS.of hwa, fun s hs => hra s (hrm s hs), fun s hs => hwsa s (hwm s hs)⟩
  rw [rngD_length] at h1
  exact ⟨p', tr, _, hlo, ⟨s4, o3, o5, o8, o9, o10, o11, rfl⟩, by omega, h2⟩
theorem trace_ok (p : Pool) {b : Int} (hb : 0 ≤ b) (hb2 : b < 20) : ∃ (tr : List Ev) (p' : Pool), m_l_trace [p.d, .int b] = some (.ok (trD tr) [p'.d, .int b]) ∧ (tr.length : Int) ≤ b ∧ ∀ e ∈ tr, EvOk e := by
  unfold m_l_trace mb_l_trace trD
  rw [ev_fun (by rfl) (by rfl)]
  obtain ⟨r1, p1, d1, a1, b1⟩ := draw_ok p (n := 4) (by omega) (by omega)
  have z1 : -4611686018427387904 ≤ 1 + r1 ∧ 1 + r1 < 4611686018427387904 := by omega
  obtain ⟨p2, ts, o3, hl1, ht, htl⟩ := tasks_loop p1 (some (.int b)) none none none none none none none none none (1 + r1).toNat (by omega)
  obtain ⟨r2, p3, d2, a2, b2⟩ := draw_ok p2 (n := 5) (by omega) (by omega)
  have z2 : -4611686018427387904 ≤ 1 + r2 ∧ 1 + r2 < 4611686018427387904 := by omega
  obtain ⟨p4, ss, o4, o5, hl2, hs, hsl⟩ := spots_loop p3 (some (.int b)) (some (.mls ts)) o3 none none none none none none none (1 + r2).toNat (by omega)
  obtain ⟨own, p5, d3, a3, b3⟩ := draw_ok p4 (n := 2) (by omega) (by omega)
  obtain ⟨r4, p6, d4, a4, b4⟩ := draw_ok p5 (n := b + 1) (by omega) (by omega)
  have z4 : -4611686018427387904 ≤ r4 ∧ r4 < 4611686018427387904 := by omega
  obtain ⟨p7, tr, e', hl3, ⟨s4, q3, q5, q8, q9, q10, q11, rfl⟩, htr, hev⟩ := events_loop (some (.int b)) o4 own (by omega) ts ss ht (by omega) (by omega) hs (by omega) p6 o5 none none none none r4.toNat (by omega)
  refine ⟨tr, p7, ?_, by omega, hev⟩
  push_cast [d1, z1, hl1, d2, z2, hl2, d3, d4, z4, hl3]
/-- a loop that looks for something -/
theorem loop_any {α : Type} {g : MG} {b : MS} (E : Option D → Env) (P : α → Bool) (f : α → D) (d0 : D) : ∀ (xs : List α), (∀ x ∈ xs, ∀ o, g (f x) (E o) = some (E (some (f x))) ∧ b (E (some (f x))) = if P x = true then some (.ok (.rt d0) (E (some (f x)))) else some (.ok .nx (E (some (f x))))) →
    ∀ o, ∃ o', mLoop g b (xs.map f) (E o) = some (.ok (if xs.any P = true then .rt d0 else .nx) (E o'))
  | [], _, o => ⟨o, rfl⟩
  | x :: xs, h, o => by
    obtain ⟨h1, h2⟩ := h x (by simp) o
    cases hp : P x with
    | true =>
      rw [hp, if_pos rfl] at h2
      refine ⟨some (f x), ?_⟩
      rw [List.map_cons, loop_cons, h1, kLp0_ok, h2]
      simp [hp]
      rfl
    | false =>
      rw [hp, if_neg Bool.false_ne_true] at h2
      obtain ⟨o', h3⟩ := loop_any E P f d0 xs (fun y hy => h y (List.mem_cons_of_mem _ hy)) (some (f x))
      refine ⟨o', ?_⟩
      rw [List.map_cons, loop_cons, h1, kLp0_ok, h2]
      simp only [List.any_cons, hp, Bool.false_or]
      exact h3
theorem among_strs (x : Str) (l : List Str) : amongD (.str x) (l.map D.str) = l.contains x := by
  induction l with
  | nil => rfl
  | cons y ys ih =>
    simp only [List.map_cons, among_ss, ih, List.contains_cons]
    congr 1
    by_cases h : y = x
    · subst h; simp
    · have h' : ¬ x = y := fun e => h e.symm
      simp [h, h']
/-- do two events bind each other -/
def bndB (e f : Ev) : Bool := decide (e.t = f.t) || (e.w.any (fun c => f.r.contains c || f.w.contains c) || f.w.any (fun c => e.r.contains c))
theorem evD_fz (e : Ev) : isFz (evD e) = true := nr rfl
theorem flatStr (l : List Str) : (l.map D.str).all flatD = true := flat_strs l
theorem bound_ok (e f : Ev) : m_l_bound [evD e, evD f] = some (.ok (.bl (bndB e f)) [evD e, evD f]) := by
  unfold m_l_bound mb_l_bound bndB
  rw [ev_fun (by rfl) (by rfl)]
  unfold evD
  by_cases h : e.t = f.t
  · push_cast [h]
  · have h' := eq_false h
    obtain ⟨o1, h1⟩ := loop_any (g := gNm 2) (b := lb_l_bound_1) (fun o => [some (evD e), some (evD f), o]) (fun c => f.r.contains c || f.w.contains c) D.str (.bl true) e.w (fun c _ o => ⟨rfl, by
      unfold lb_l_bound_1 evD
      cases c1 : f.r.contains c with
      | true => push_cast [flatStr, among_strs, c1]
      | false => cases c2 : f.w.contains c with
        | true => push_cast [flatStr, among_strs, c1, c2]
        | false => push_cast [flatStr, among_strs, c1, c2]⟩) none
    unfold evD at h1
    cases c1 : e.w.any (fun c => f.r.contains c || f.w.contains c) with
    | true =>
      rw [c1] at h1
      simp only [if_true] at h1
      push_cast [h', h1]
    | false =>
      rw [c1] at h1
      simp only [Bool.false_eq_true, if_false] at h1
      obtain ⟨o2, h2⟩ := loop_any (g := gNm 2) (b := lb_l_bound_2) (fun o => [some (evD e), some (evD f), o]) (fun c => e.r.contains c) D.str (.bl true) f.w (fun c _ o => ⟨rfl, by
        unfold lb_l_bound_2 evD
        cases c1 : e.r.contains c with
        | true => push_cast [flatStr, among_strs, c1]
        | false => push_cast [flatStr, among_strs, c1]⟩) o1
      unfold evD at h2
      cases c2 : f.w.any (fun c => e.r.contains c) with
      | true =>
        rw [c2] at h2
        simp only [if_true] at h2
        push_cast [h', h1, h2]
      | false =>
        rw [c2] at h2
        simp only [Bool.false_eq_true, if_false] at h2
        push_cast [h', h1, h2]
theorem free_ok (e f : Ev) : m_free [evD e, evD f] = some (.ok (.bl (!bndB e f)) [evD e, evD f]) := by
  unfold m_free mb_free bndB
  rw [ev_fun (by rfl) (by rfl)]
  unfold evD
  by_cases h : e.t = f.t
  · push_cast [h]
  · have h' := eq_false h
    obtain ⟨o1, h1⟩ := loop_any (g := gNm 2) (b := lb_free_1) (fun o => [some (evD e), some (evD f), o]) (fun c => f.r.contains c || f.w.contains c) D.str (.bl false) e.w (fun c _ o => ⟨rfl, by
      unfold lb_free_1 evD
      cases c1 : f.r.contains c with
      | true => push_cast [flatStr, among_strs, c1]
      | false => cases c2 : f.w.contains c with
        | true => push_cast [flatStr, among_strs, c1, c2]
        | false => push_cast [flatStr, among_strs, c1, c2]⟩) none
    unfold evD at h1
    cases c1 : e.w.any (fun c => f.r.contains c || f.w.contains c) with
    | true =>
      rw [c1] at h1
      simp only [if_true] at h1
      push_cast [h', h1]
    | false =>
      rw [c1] at h1
      simp only [Bool.false_eq_true, if_false] at h1
      obtain ⟨o2, h2⟩ := loop_any (g := gNm 2) (b := lb_free_2) (fun o => [some (evD e), some (evD f), o]) (fun c => e.r.contains c) D.str (.bl false) f.w (fun c _ o => ⟨rfl, by
        unfold lb_free_2 evD
        cases c1 : e.r.contains c with
        | true => push_cast [flatStr, among_strs, c1]
        | false => push_cast [flatStr, among_strs, c1]⟩) o1
      unfold evD at h2
      cases c2 : f.w.any (fun c => e.r.contains c) with
      | true =>
        rw [c2] at h2
        simp only [if_true] at h2
        push_cast [h', h1, h2]
      | false =>
        rw [c2] at h2
        simp only [Bool.false_eq_true, if_false] at h2
        push_cast [h', h1, h2]
/-! ### exchanges -/
def exN (tr : List Ev) (k : Nat) (a b : Ev) : List Ev := tr.take k ++ [b, a] ++ tr.drop (k + 2)
theorem exN_D (tr : List Ev) (k : Nat) (a b : Ev) : .tup ((tr.map evD).take k ++ [evD b, evD a] ++ (tr.map evD).drop (k + 2)) = trD (exN tr k a b) := by
  simp [trD, exN, List.map_take, List.map_drop]
theorem at_ev {tr : List Ev} {k : Nat} {a : Ev} (h : tr[k]? = some a) : atI (tr.map evD) (0 + (k : Int)) = some (evD a) := by
  rw [Int.zero_add]
  exact atI_nat (by rw [List.getElem?_map, h]; rfl)
theorem at_ev1 {tr : List Ev} {k : Nat} {b : Ev} (h : tr[k + 1]? = some b) : atI (tr.map evD) (0 + (k : Int) + 1) = some (evD b) := by
  have : (0 : Int) + (k : Int) + 1 = ((k + 1 : Nat) : Int) := by omega
  rw [this]
  exact atI_nat (by rw [List.getElem?_map, h]; rfl)
theorem ex_facts (tr : List Ev) (hl : tr.length ≤ 20) (k : Nat) : cutD (tr.map evD) none (some (0 + (k : Int))) = (tr.map evD).take k ∧ cutD (tr.map evD) (some (0 + (k : Int) + 2)) none = (tr.map evD).drop (k + 2) ∧ ((tr.map evD).take k).length + 2 ≤ 16777216 ∧ ((tr.map evD).take k ++ [D.non, D.non]).length + ((tr.map evD).drop (k + 2)).length ≤ 16777216 := by
  refine ⟨?_, ?_, ?_, ?_⟩
  · rw [cutD_to (by omega), Int.zero_add, Int.toNat_natCast]
  · rw [cutD_from (by omega)]
    congr 1
    omega
  · simp; omega
  · simp; omega
theorem exchanged_ok {tr : List Ev} (hl : tr.length ≤ 20) {k : Nat} {a b : Ev} (ha : tr[k]? = some a) (hb : tr[k + 1]? = some b) : m_exchanged [trD tr, .int (0 + (k : Int))] = some (.ok (trD (exN tr k a b)) [trD tr, .int (0 + (k : Int))]) := by
  rw [← exN_D]
  unfold m_exchanged mb_exchanged trD
  rw [ev_fun (by rfl) (by rfl)]
  obtain ⟨c1, c2, z1, z2⟩ := ex_facts tr hl k
  have z2' : ((tr.map evD).take k ++ [evD b, evD a]).length + ((tr.map evD).drop (k + 2)).length ≤ 16777216 := by
    simp only [List.length_append, List.length_cons, List.length_nil] at z2 ⊢
    exact z2
  have z3 : (tr.map evD).length ≤ 16777216 := by simp; omega
  push_cast [at_ev ha, at_ev1 hb, c1, c2, z1, z2', z3, evD_fz]
/-- the first k neighbours, exchanged where they are free -/
def exK (tr : List Ev) : Nat → List (List Ev)
  | 0 => []
  | k + 1 => exK tr k ++ (match tr[k]?, tr[k + 1]? with
    | some a, some b => if bndB a b = true then [] else [exN tr k a b]
    | _, _ => [])
theorem exK_len (tr : List Ev) : ∀ k, (exK tr k).length ≤ k
  | 0 => by simp [exK]
  | k + 1 => by
    have := exK_len tr k
    unfold exK
    rw [List.length_append]
    split
    · split <;> simp <;> omega
    · simp; omega
theorem trD_fz (l : List Ev) : isFz (trD l) = true := nr rfl
theorem exchanges_ok {tr : List Ev} (hl : tr.length ≤ 20) : m_exchanges [trD tr] = some ((exK tr (tr.length - 1)).map trD) := by
  unfold m_exchanges mb_exchanges
  have e0 : ∀ body : MY, mGen 1 1 body [trD tr] = (match body [some (trD tr), none] [] with
    | some (.nx, _, out) => some out
    | some (.rt _, _, out) => some out
    | _ => none) := fun body => rfl
  rw [e0]
  have z1 : -4611686018427387904 ≤ (tr.length : Int) - 1 ∧ (tr.length : Int) - 1 < 4611686018427387904 := by omega
  have z3 : (tr.map evD).length ≤ 16777216 := by simp; omega
  have hn : ((tr.length : Int) - 1).toNat = tr.length - 1 := by omega
  obtain ⟨e', ds', hlo, o, rfl, hd⟩ := yloop_inv (g := gNm 1) (b := lb_exchanges_1) (fun k ds e => ∃ o, e = [some (trD tr), o] ∧ ds = (exK tr k).map trD) (rngD 0 (tr.length - 1)) 0 [some (trD tr), none] [] ⟨none, rfl, rfl⟩ fun k x e ds hk hI => by
      obtain ⟨o, rfl, rfl⟩ := hI
      obtain ⟨hk1, rfl⟩ := rngD_get hk
      rw [Nat.zero_add]
      obtain ⟨a, ha⟩ : ∃ a, tr[k]? = some a := ⟨tr[k], by simp⟩
      obtain ⟨b, hb⟩ : ∃ b, tr[k + 1]? = some b := ⟨tr[k + 1], by simp⟩
      have hf := free_ok a b
      have hx := exchanged_ok hl ha hb
      have hlen : ((exK tr k).map trD).length < 16777216 := by
        rw [List.length_map]
        have := exK_len tr k
        omega
      have e1 : (exK tr (k + 1)).map trD = (exK tr k).map trD ++ (if bndB a b = true then [] else [trD (exN tr k a b)]) := by
        simp only [exK, ha, hb, List.map_append]
        split <;> rfl
      have hat : dIx (trD tr) (.int (0 + (k : Int))) = some (evD a) := by unfold trD; rw [dIx_tup]; exact at_ev ha
      have hat1 : dIx (trD tr) (.int (0 + (k : Int) + 1)) = some (evD b) := by unfold trD; rw [dIx_tup]; exact at_ev1 hb
      refine ⟨_, .nx, [some (trD tr), some (.int (0 + (k : Int)))], (exK tr (k + 1)).map trD, rfl, ?_, .inl rfl, _, rfl, rfl⟩
      rw [e1]
      unfold lb_exchanges_1
      cases hB : bndB a b with
      | true =>
        rw [hB] at hf
        push_cast [hat, hat1, hf, trD_fz, evD_fz, res_fz (trD_fz tr), isAl_fz (trD_fz tr), res_fz (evD_fz a), res_fz (evD_fz b), isAl_fz (evD_fz a), isAl_fz (evD_fz b), List.append_nil]
      | false =>
        rw [hB] at hf
        push_cast [hat, hat1, hf, hx, hlen, trD_fz, evD_fz, res_fz (trD_fz tr), isAl_fz (trD_fz tr), res_fz (evD_fz a), res_fz (evD_fz b), isAl_fz (evD_fz a), isAl_fz (evD_fz b), isAl_fz (trD_fz (exN tr k a b))]
  rw [rngD_length, Nat.zero_add] at hd
  subst hd
  have hlen2 : dLen [trD tr] = some (.int tr.length) := by
    unfold trD
    have z4 : tr.length ≤ 16777216 := by omega
    rw [dLen_tup, List.length_map]
    try rw [if_pos z4]
  push_cast [hlen2, z1, hn, hlo, trD_fz, res_fz (trD_fz tr), isAl_fz (trD_fz tr)]
theorem l_exchanged_ok {tr : List Ev} (hl : tr.length ≤ 20) : m_l_exchanged [trD tr] = some (.ok (.mls ((exK tr (tr.length - 1)).map trD)) [trD tr]) := by
  unfold m_l_exchanged mb_l_exchanged
  rw [ev_fun (by rfl) (by rfl)]
  have z1 : -4611686018427387904 ≤ (tr.length : Int) - 1 ∧ (tr.length : Int) - 1 < 4611686018427387904 := by omega
  have hn : ((tr.length : Int) - 1).toNat = tr.length - 1 := by omega
  obtain ⟨e', hlo, o, rfl⟩ := loop_inv (g := gNm 2) (b := lb_l_exchanged_1) (fun k e => ∃ o, e = [some (trD tr), some (.mls ((exK tr k).map trD)), o]) (rngD 0 (tr.length - 1)) 0 [some (trD tr), some (.mls []), none] ⟨none, rfl⟩ fun k x e hk hI => by
      obtain ⟨o, rfl⟩ := hI
      obtain ⟨hk1, rfl⟩ := rngD_get hk
      rw [Nat.zero_add]
      obtain ⟨a, ha⟩ : ∃ a, tr[k]? = some a := ⟨tr[k], by simp⟩
      obtain ⟨b, hb⟩ : ∃ b, tr[k + 1]? = some b := ⟨tr[k + 1], by simp⟩
      have hf := bound_ok a b
      have hlen : ((exK tr k).map trD).length < 16777216 := by
        rw [List.length_map]
        have := exK_len tr k
        omega
      have hlen1 : ((exK tr k).map trD).length + 1 ≤ 16777216 := by omega
      obtain ⟨c1, c2, y1, y2⟩ := ex_facts tr hl k
      have y2' : ((tr.map evD).take k ++ [evD b, evD a]).length + ((tr.map evD).drop (k + 2)).length ≤ 16777216 := by
        simp only [List.length_append, List.length_cons, List.length_nil] at y2 ⊢
        exact y2
      have y3 : (tr.map evD).length ≤ 16777216 := by simp; omega
      have e1 : (exK tr (k + 1)).map trD = (exK tr k).map trD ++ (if bndB a b = true then [] else [.tup ((tr.map evD).take k ++ [evD b, evD a] ++ (tr.map evD).drop (k + 2))]) := by
        simp only [exK, ha, hb, List.map_append]
        rw [exN_D]
        split <;> rfl
      refine ⟨_, .nx, [some (trD tr), some (.mls ((exK tr (k + 1)).map trD)), some (.int (0 + (k : Int)))], rfl, ?_, .inl rfl, _, rfl⟩
      rw [e1]
      unfold lb_l_exchanged_1
      generalize (exK tr k).map trD = acc at hlen hlen1
      unfold trD
      cases hB : bndB a b with
      | true =>
        rw [hB] at hf
        push_cast [at_ev ha, at_ev1 hb, hf, evD_fz, res_fz (evD_fz a), res_fz (evD_fz b), isAl_fz (evD_fz a), isAl_fz (evD_fz b), List.append_nil]
      | false =>
        rw [hB] at hf
        push_cast [at_ev ha, at_ev1 hb, hf, evD_fz, res_fz (evD_fz a), res_fz (evD_fz b), isAl_fz (evD_fz a), isAl_fz (evD_fz b), c1, c2, y1, y2', y3, hlen, hlen1]
  rw [rngD_length, Nat.zero_add] at hlo
  have hlen2 : dLen [trD tr] = some (.int tr.length) := by
    unfold trD
    have z4 : tr.length ≤ 16777216 := by omega
    rw [dLen_tup, List.length_map]
    try rw [if_pos z4]
  push_cast [hlen2, z1, hn, hlo, trD_fz, res_fz (trD_fz tr), isAl_fz (trD_fz tr)]
/-! ### _law_same of events and traces -/
theorem Sm.ev {n : Nat} {e : Ev} (h : EvOk e) : Sm (n + 2) (evD e) (evD e) := by
  unfold evD
  refine .tup rfl (by simp) fun i x y e1 e2 => ?_
  rw [e1] at e2; cases e2
  have hm := List.mem_of_getElem? e1
  simp only [List.mem_cons, List.not_mem_nil, or_false] at hm
  rcases hm with rfl | rfl | rfl
  · exact .str _
  · exact Sm.strs _ (by have := h.rl; omega)
  · exact Sm.strs _ (by have := h.wl; omega)
theorem Sm.tr {n : Nat} {l : List Ev} (hl : l.length ≤ 20) (h : ∀ e ∈ l, EvOk e) : Sm (n + 3) (trD l) (trD l) := by
  unfold trD
  refine .tup rfl (by simp; omega) fun i x y e1 e2 => ?_
  rw [e1] at e2; cases e2
  obtain ⟨e, he, rfl⟩ := List.mem_map.mp (List.mem_of_getElem? e1)
  exact Sm.ev (h e he)
theorem same_trs {xs : List (List Ev)} (hx : xs.length ≤ 100) (h : ∀ l ∈ xs, l.length ≤ 20 ∧ ∀ e ∈ l, EvOk e) : m_l_same 8 [.mls (xs.map trD), .mls (xs.map trD)] = some (.ok (.bl true) [.mls (xs.map trD), .mls (xs.map trD)]) := by
  refine same_seq (.inr ⟨⟨_, .inr rfl⟩, _, .inr rfl⟩) rfl rfl rfl (by simp; omega) fun i a b e1 e2 => ?_
  rw [e1] at e2; cases e2
  obtain ⟨l, hl, rfl⟩ := List.mem_map.mp (List.mem_of_getElem? e1)
  exact ⟨rfl, rfl, same_ok ((Sm.tr (n := 0) (h l hl).1 (h l hl).2).mono (by omega))⟩
theorem same_tr {l : List Ev} (hl : l.length ≤ 20) (h : ∀ e ∈ l, EvOk e) : m_l_same 8 [trD l, trD l] = some (.ok (.bl true) [trD l, trD l]) := same_ok ((Sm.tr (n := 0) hl h).mono (by omega))
theorem same_bl (b : Bool) : m_l_same 8 [.bl b, .bl b] = some (.ok (.bl true) [.bl b, .bl b]) := same_ok (Sm.bl b)
theorem exN_ok {tr : List Ev} (hl : tr.length ≤ 20) (h : ∀ e ∈ tr, EvOk e) {k : Nat} {a b : Ev} (ha : tr[k]? = some a) (hb : tr[k + 1]? = some b) : (exN tr k a b).length ≤ 20 ∧ ∀ e ∈ exN tr k a b, EvOk e := by
  have hk : k + 1 < tr.length := (List.getElem?_eq_some_iff.mp hb).1
  unfold exN
  refine ⟨by simp; omega, fun e he => ?_⟩
  simp only [List.mem_append, List.mem_cons, List.not_mem_nil, or_false] at he
  rcases he with (he | rfl | rfl) | he
  · exact h e (List.mem_of_mem_take he)
  · exact h _ (List.mem_of_getElem? hb)
  · exact h _ (List.mem_of_getElem? ha)
  · exact h e (List.mem_of_mem_drop he)
theorem exK_ok {tr : List Ev} (hl : tr.length ≤ 20) (h : ∀ e ∈ tr, EvOk e) : ∀ k, ∀ l ∈ exK tr k, l.length ≤ 20 ∧ ∀ e ∈ l, EvOk e
  | 0, l, hm => nomatch hm
  | k + 1, l, hm => by
    unfold exK at hm
    rcases List.mem_append.mp hm with hm | hm
    · exact exK_ok hl h k l hm
    · split at hm
      · rename_i a b ha hb
        split at hm
        · cases hm
        · simp only [List.mem_cons, List.not_mem_nil, or_false] at hm
          subst hm
          exact exN_ok hl h ha hb
      · cases hm
/-! ### records -/
def recD (e : Ev) (a n f : Str) (k : Int) : D := .tup [.str e.t, .str a, .str n, .int k, .str f, .tup (e.r.map D.str), .tup (e.w.map D.str)]
structure RcOk (e : Ev) (r : D) : Prop where
  ex : ∃ a n f k, r = recD e a n f k ∧ AscS a ∧ AscS n ∧ AscS f
theorem records_ok (p : Pool) {tr : List Ev} (hl : tr.length ≤ 20) : ∃ (rs : List D) (p' : Pool), m_l_records [p.d, trD tr] = some (.ok (.mls rs) [p'.d, trD tr]) ∧ rs.length = tr.length ∧ ∀ (i : Nat) e, tr[i]? = some e → ∃ r, rs[i]? = some r ∧ RcOk e r := by
  unfold m_l_records mb_l_records
  rw [ev_fun (by rfl) (by rfl)]
  have hsq : seqD (trD tr) = some (tr.map evD) := rfl
  obtain ⟨e', hlo, p', rs, o3, o4, o5, o6, rfl, h1, h2⟩ := loop_inv (g := gNm 3) (b := lb_l_records_1)
    (fun k e => ∃ (p : Pool) (rs : List D) (o3 o4 o5 o6 : Option D), e = [some p.d, some (trD tr), some (.mls rs), o3, o4, o5, o6] ∧ rs.length = k ∧ ∀ (i : Nat) e, i < k → tr[i]? = some e → ∃ r, rs[i]? = some r ∧ RcOk e r) (tr.map evD) 0 [some p.d, some (trD tr), some (.mls []), none, none, none, none] ⟨p, [], none, none, none, none, rfl, rfl, fun i e hi => absurd hi (by omega)⟩ fun k x e hk hI => by
      obtain ⟨p, rs, o3, o4, o5, o6, rfl, h1, h2⟩ := hI
      rw [Nat.zero_add] at h1 h2 ⊢
      have hk1 : k < tr.length := by have := (List.getElem?_eq_some_iff.mp hk).1; simpa using this
      obtain ⟨v, hv, rfl⟩ : ∃ v, tr[k]? = some v ∧ evD v = x := by
        rw [List.getElem?_map] at hk
        cases e : tr[k]? with
        | none => rw [e] at hk; cases hk
        | some v => rw [e] at hk; exact ⟨v, rfl, Option.some.inj hk⟩
      obtain ⟨r1, p1, d1, a1, b1⟩ := draw_ok p (n := 4) (by omega) (by omega)
      obtain ⟨A, hA, hAa⟩ : ∃ A : Str, atI [D.str (st [114, 111, 119]), .str (st [103, 97, 116, 104, 101, 114]), .str (st [100, 101, 101, 100]), .str (st [101, 110, 100])] r1 = some (.str A) ∧ AscS A := by
        have h : r1 = 0 ∨ r1 = 1 ∨ r1 = 2 ∨ r1 = 3 := by omega
        rcases h with rfl | rfl | rfl | rfl <;> exact ⟨_, rfl, AscS.of (show ∀ c ∈ _, c < 128 by decide)⟩
      obtain ⟨r2, p2, d2, a2, b2⟩ := draw_ok p1 (n := 3) (by omega) (by omega)
      obtain ⟨B, hB, hBa⟩ : ∃ B : Str, atI [D.str (st []), .str (st [102, 46, 51]), .str (st [109, 97, 105, 110, 46, 49, 50, 43])] r2 = some (.str B) ∧ AscS B := by
        have h : r2 = 0 ∨ r2 = 1 ∨ r2 = 2 := by omega
        rcases h with rfl | rfl | rfl <;> exact ⟨_, rfl, AscS.of (show ∀ c ∈ _, c < 128 by decide)⟩
      obtain ⟨w, p3, hf, hw⟩ := fresh_ok p2 []
      have hf' : m_l_fresh [p2.d, .mls []] = some (.ok (.str (st w)) [p3.d, .mls []]) := hf
      obtain ⟨r4, p4, d4, a4, b4⟩ := draw_ok p3 (n := 17) (by omega) (by omega)
      have z1 : rs.length < 16777216 := by omega
      have z2 : rs.length + 1 ≤ 16777216 := by omega
      refine ⟨_, .nx, [some p4.d, some (trD tr), some (.mls (rs ++ [recD v A (st w) B r4])), some (evD v), some (.str A), some (.str B), some (.str (st w))], rfl, ?_, .inl rfl, p4, _, _, _, _, _, rfl, by simp [h1], ?_⟩
      · unfold lb_l_records_1 evD recD
        push_cast [d1, hA, d2, hB, hf', d4, z1, z2]
      · intro i e hi he
        by_cases hik : i < k
        · obtain ⟨r, hr, ho⟩ := h2 i e hik he
          exact ⟨r, by rw [List.getElem?_append_left (by omega)]; exact hr, ho⟩
        · have : i = k := by omega
          subst this
          rw [hv] at he; cases he
          exact ⟨recD v A (st w) B r4, by rw [List.getElem?_append_right (by omega), h1]; simp, ⟨A, st w, B, r4, rfl, hAa, AscS.of hw.asc, hBa⟩⟩
  rw [List.length_map, Nat.zero_add] at h1 h2
  refine ⟨rs, p', ?_, h1, fun i e he => h2 i e (List.getElem?_eq_some_iff.mp he).1 he⟩
  unfold trD at hlo ⊢
  push_cast [hlo]
def hR : D → D
  | .tup [a, _, _, _, _, r, w] => .tup [a, r, w]
  | d => d
theorem hR_map {rs : List D} {tr : List Ev} (h1 : rs.length = tr.length) (h2 : ∀ (i : Nat) e, tr[i]? = some e → ∃ r, rs[i]? = some r ∧ RcOk e r) : rs.map hR = tr.map evD := by
  apply List.ext_getElem?
  intro i
  rw [List.getElem?_map, List.getElem?_map]
  cases e : tr[i]? with
  | none =>
    have : tr.length ≤ i := List.getElem?_eq_none_iff.mp e
    rw [List.getElem?_eq_none (by omega)]; rfl
  | some v =>
    obtain ⟨r, hr, ⟨a, n, f, k, rfl, _⟩⟩ := h2 i v e
    rw [hr]; rfl
theorem trace_of_cl {rs : List D} {tr : List Ev} (hl : tr.length ≤ 20) (h1 : rs.length = tr.length) (h2 : ∀ (i : Nat) e, tr[i]? = some e → ∃ r, rs[i]? = some r ∧ RcOk e r) (a : Option D) : mCl (gNm 1) (fun e => some (.ok true e)) le_trace_of_1 [1] rs [] [a, none] = some (tr.map evD, [a, none]) := by
  have := cl_map (g := gNm 1) (t := fun e => some (.ok true e)) (el := le_trace_of_1) (own := [1]) (e := [a, none]) (fun _ => true) hR rs (by omega) (by
    intro x hx
    obtain ⟨i, hi⟩ := List.mem_iff_getElem?.mp hx
    have hi2 : i < tr.length := by have := (List.getElem?_eq_some_iff.mp hi).1; omega
    obtain ⟨r, hr, ⟨A, n, f, k, rfl, _⟩⟩ := h2 i tr[i] (by simp [hi2])
    rw [hi] at hr; cases hr
    refine ⟨[a, some (recD tr[i] A n f k)], [a, some (recD tr[i] A n f k)], rfl, rfl, .inr ⟨rfl, hR (recD tr[i] A n f k), [a, some (recD tr[i] A n f k)], [a, some (recD tr[i] A n f k)], ?_, rfl, rfl⟩⟩
    unfold le_trace_of_1 recD hR
    walk_at "ev")
  rw [List.filter_eq_self.mpr (fun _ _ => rfl), hR_map h1 h2] at this
  exact this
theorem trace_of_ok {rs : List D} {tr : List Ev} (hl : tr.length ≤ 20) (h1 : rs.length = tr.length) (h2 : ∀ (i : Nat) e, tr[i]? = some e → ∃ r, rs[i]? = some r ∧ RcOk e r) : m_trace_of [.mls rs] = some (.ok (trD tr) [.lst rs]) ∧ m_trace_of [.tup rs] = some (.ok (trD tr) [.tup rs]) := by
  constructor
  · unfold m_trace_of mb_trace_of trD
    rw [ev_fun (by rfl) (by rfl)]
    push_cast [trace_of_cl hl h1 h2]
  · unfold m_trace_of mb_trace_of trD
    rw [ev_fun (by rfl) (by rfl)]
    push_cast [trace_of_cl hl h1 h2]
/-! ### == of the records -/
theorem strOk_asc {s : Str} (h : AscS s) : PyData.canLay0 (.str s) = true := by
  show PySem.PyData.strOk s = true
  unfold PySem.PyData.strOk
  rw [← Array.all_toList]
  rw [List.all_eq_true]
  intro c hc
  have := h c hc
  simp; omega
theorem strs_can {l : List Str} (h : ∀ s ∈ l, AscS s) : PyData.canLayAll0 (D.toPs (l.map D.str)) = true ∧ D.okPs (l.map D.str) = true ∧ PyData.depthAll (D.toPs (l.map D.str)) = 0 := by
  induction l with
  | nil => exact ⟨rfl, rfl, rfl⟩
  | cons s l ih =>
    obtain ⟨i1, i2, i3⟩ := ih fun x hx => h x (List.mem_cons_of_mem _ hx)
    have hs := strOk_asc (h s (by simp))
    refine ⟨?_, ?_, ?_⟩
    · simp only [List.map_cons, D.toPs, D.toP, PyData.canLayAll0, hs, i1, Bool.and_self]
    · simp only [List.map_cons, D.okPs, D.okP, i2, Bool.and_self]
    · simp only [List.map_cons, D.toPs, D.toP, PyData.depthAll, PyData.depth, i3]; rfl
theorem rec_can {e : Ev} (he : EvOk e) {r : D} (h : RcOk e r) : PyData.canLay0 r.toP = true ∧ r.okP = true ∧ r.toP.depth ≤ 2 := by
  obtain ⟨a, n, f, k, rfl, ha, hn, hf⟩ := h.ex
  obtain ⟨r1, r2, r3⟩ := strs_can he.ra
  obtain ⟨w1, w2, w3⟩ := strs_can he.wa
  have h1 := strOk_asc he.ta
  have h2 := strOk_asc ha
  have h3 := strOk_asc hn
  have h4 := strOk_asc hf
  unfold recD
  refine ⟨?_, ?_, ?_⟩
  · simp only [D.toP, D.toPs, PyData.canLay0, PyData.canLayAll0] at h1 h2 h3 h4 r1 w1 ⊢
    simp only [h1, h2, h3, h4, r1, w1, Bool.and_self]
  · simp only [D.okP, D.okPs, r2, w2, Bool.and_self]
  · simp only [D.toP, D.toPs, PyData.depth, PyData.depthAll, r3, w3]; decide
theorem recs_ne {rs : List D} {tr : List Ev} (hev : ∀ e ∈ tr, EvOk e) (h1 : rs.length = tr.length) (h2 : ∀ (i : Nat) e, tr[i]? = some e → ∃ r, rs[i]? = some r ∧ RcOk e r) : dNe (.lst rs) (.mls rs) = some (.bl false) := by
  have hall : ∀ r ∈ rs, PyData.canLay0 r.toP = true ∧ r.okP = true ∧ r.toP.depth ≤ 2 := by
    intro r hr
    obtain ⟨i, hi⟩ := List.mem_iff_getElem?.mp hr
    have hi2 : i < tr.length := by have := (List.getElem?_eq_some_iff.mp hi).1; omega
    obtain ⟨r', hr', ho⟩ := h2 i tr[i] (by simp [hi2])
    rw [hi] at hr'; cases hr'
    exact rec_can (hev _ (List.getElem_mem hi2)) ho
  have hl : ∀ l : List D, (∀ r ∈ l, PyData.canLay0 r.toP = true ∧ r.okP = true ∧ r.toP.depth ≤ 2) → PyData.canLayAll0 (D.toPs l) = true ∧ D.okPs l = true ∧ PyData.depthAll (D.toPs l) ≤ 2 := by
    intro l
    induction l with
    | nil => intro _; exact ⟨rfl, rfl, by show 0 ≤ 2; omega⟩
    | cons r l ih =>
      intro h
      obtain ⟨i1, i2, i3⟩ := ih fun x hx => h x (List.mem_cons_of_mem _ hx)
      obtain ⟨j1, j2, j3⟩ := h r (by simp)
      refine ⟨?_, ?_, ?_⟩
      · simp only [D.toPs, PyData.canLayAll0, j1, i1, Bool.and_self]
      · simp only [D.okPs, j2, i2, Bool.and_self]
      · simp only [D.toPs, PyData.depthAll]; omega
  obtain ⟨c1, c2, c3⟩ := hl rs hall
  have hsh : SeqAt.shaped (.list (D.toPs rs)) = true := by
    unfold SeqAt.shaped
    rw [Bool.and_eq_true]
    refine ⟨by simpa [PyData.canLay0] using c1, decide_eq_true ?_⟩
    simp only [PyData.depth]
    omega
  have hq : PyData.eqv (.list (D.toPs rs)) (.list (D.toPs rs)) = true := PySem.SeqAt.eqv_refl _ (by simp only [PyData.canLay0, c1])
  have he : eqD (.lst rs) (.mls rs) = some true := by
    unfold eqD
    simp only [D.okP, D.toP, c2, hsh, hq, and_self, if_true]
  unfold dNe
  rw [he]
  rfl
/-! ### the law -/
theorem second_loop (a0 a1 a2 a3 a6 a7 a8 a9 : Option D) (x : Ev) (evs : List Ev) (o : Option D) : ∃ o', mLoop (gNm 5) lb_law_1 (evs.map evD) [a0, a1, a2, a3, some (evD x), o, a6, a7, a8, a9] = some (.ok .nx [a0, a1, a2, a3, some (evD x), o', a6, a7, a8, a9]) := by
  obtain ⟨e', hlo, o', rfl⟩ := loop_inv (g := gNm 5) (b := lb_law_1) (fun _ e => ∃ o, e = [a0, a1, a2, a3, some (evD x), o, a6, a7, a8, a9]) (evs.map evD) 0 _ ⟨o, rfl⟩ fun k y e hk hI => by
      obtain ⟨o, rfl⟩ := hI
      obtain ⟨f, _, rfl⟩ := List.mem_map.mp (List.mem_of_getElem? hk)
      refine ⟨_, .nx, [a0, a1, a2, a3, some (evD x), some (evD f), a6, a7, a8, a9], rfl, ?_, .inl rfl, _, rfl⟩
      unfold lb_law_1
      have h1 := free_ok x f
      have h2 := bound_ok x f
      cases hB : bndB x f with
      | true =>
        rw [hB] at h1 h2
        push_cast [h1, h2, same_bl, evD_fz, res_fz (evD_fz x), res_fz (evD_fz f), isAl_fz (evD_fz x), isAl_fz (evD_fz f)]
      | false =>
        rw [hB] at h1 h2
        push_cast [h1, h2, same_bl, evD_fz, res_fz (evD_fz x), res_fz (evD_fz f), isAl_fz (evD_fz x), isAl_fz (evD_fz f)]
  exact ⟨o', hlo⟩
theorem first_loop (a0 a1 a2 a6 a7 a8 a9 : Option D) (evs : List Ev) (o o5 : Option D) : ∃ o' o5', mLoop (gNm 4) lb_law_2 (evs.map evD) [a0, a1, a2, some (.tup (evs.map evD)), o, o5, a6, a7, a8, a9] = some (.ok .nx [a0, a1, a2, some (.tup (evs.map evD)), o', o5', a6, a7, a8, a9]) := by
  obtain ⟨e', hlo, o', o5', rfl⟩ := loop_inv (g := gNm 4) (b := lb_law_2) (fun _ e => ∃ o o5, e = [a0, a1, a2, some (.tup (evs.map evD)), o, o5, a6, a7, a8, a9]) (evs.map evD) 0 _ ⟨o, o5, rfl⟩ fun k y e hk hI => by
      obtain ⟨o, o5, rfl⟩ := hI
      obtain ⟨f, _, rfl⟩ := List.mem_map.mp (List.mem_of_getElem? hk)
      obtain ⟨o', h⟩ := second_loop a0 a1 a2 (some (.tup (evs.map evD))) a6 a7 a8 a9 f evs o5
      refine ⟨_, .nx, [a0, a1, a2, some (.tup (evs.map evD)), some (evD f), o', a6, a7, a8, a9], rfl, ?_, .inl rfl, _, _, rfl⟩
      unfold lb_law_2
      push_cast [h]
  exact ⟨o', o5', hlo⟩
theorem ex_loop (a0 a1 a3 a4 a5 a7 a8 a9 o : Option D) (t1 t2 : List Ev) (l1 : t1.length ≤ 20) (l2 : t2.length ≤ 20) (h1 : ∀ e ∈ t1, EvOk e) (h2 : ∀ e ∈ t2, EvOk e) : ∃ o', mLoop (gNm 6) lb_law_3 [.int 0, .int 1, .int 0] [a0, a1, some (.mls [trD t1, trD t2]), a3, a4, a5, o, a7, a8, a9] = some (.ok .nx [a0, a1, some (.mls [trD t1, trD t2]), a3, a4, a5, o', a7, a8, a9]) := by
  obtain ⟨e', hlo, o', rfl⟩ := loop_inv (g := gNm 6) (b := lb_law_3) (fun _ e => ∃ o, e = [a0, a1, some (.mls [trD t1, trD t2]), a3, a4, a5, o, a7, a8, a9]) [.int 0, .int 1, .int 0] 0 _ ⟨o, rfl⟩ fun k y e hk hI => by
      obtain ⟨o, rfl⟩ := hI
      have hm := List.mem_of_getElem? hk
      simp only [List.mem_cons, List.not_mem_nil, or_false] at hm
      have s1 := same_trs (xs := exK t1 (t1.length - 1)) (by have := exK_len t1 (t1.length - 1); omega) (exK_ok l1 h1 _)
      have s2 := same_trs (xs := exK t2 (t2.length - 1)) (by have := exK_len t2 (t2.length - 1); omega) (exK_ok l2 h2 _)
      have hy : y = .int 0 ∨ y = .int 1 := by
        rcases hm with rfl | rfl | rfl
        · exact .inl rfl
        · exact .inr rfl
        · exact .inl rfl
      rcases hy with rfl | rfl
      · refine ⟨_, .nx, [a0, a1, some (.mls [trD t1, trD t2]), a3, a4, a5, some (.int 0), a7, a8, a9], rfl, ?_, .inl rfl, _, rfl⟩
        unfold lb_law_3
        push_cast [exchanges_ok l1, l_exchanged_ok l1, s1, trD_fz, res_fz (trD_fz t1), isAl_fz (trD_fz t1)]
      · refine ⟨_, .nx, [a0, a1, some (.mls [trD t1, trD t2]), a3, a4, a5, some (.int 1), a7, a8, a9], rfl, ?_, .inl rfl, _, rfl⟩
        unfold lb_law_3
        push_cast [exchanges_ok l2, l_exchanged_ok l2, s2, trD_fz, res_fz (trD_fz t2), isAl_fz (trD_fz t2)]
  exact ⟨o', hlo⟩
theorem rec_loop (a0 a2 a3 a4 a5 a6 o7 o8 o9 : Option D) (p : Pool) (trs : List (List Ev)) (h : ∀ t ∈ trs, t.length ≤ 20 ∧ ∀ e ∈ t, EvOk e) : ∃ (p' : Pool) (o7' o8' o9' : Option D), mLoop (gNm 7) lb_law_4 (trs.map trD) [a0, some p.d, a2, a3, a4, a5, a6, o7, o8, o9] = some (.ok .nx [a0, some p'.d, a2, a3, a4, a5, a6, o7', o8', o9']) := by
  obtain ⟨e', hlo, p', o7', o8', o9', rfl⟩ := loop_inv (g := gNm 7) (b := lb_law_4) (fun _ e => ∃ (p : Pool) (o7 o8 o9 : Option D), e = [a0, some p.d, a2, a3, a4, a5, a6, o7, o8, o9]) (trs.map trD) 0 _ ⟨p, o7, o8, o9, rfl⟩ fun k y e hk hI => by
      obtain ⟨p, o7, o8, o9, rfl⟩ := hI
      obtain ⟨t, ht, rfl⟩ := List.mem_map.mp (List.mem_of_getElem? hk)
      obtain ⟨hl, hev⟩ := h t ht
      obtain ⟨rs, p', hr, h1, h2⟩ := records_ok p hl
      obtain ⟨t1, t2⟩ := trace_of_ok hl h1 h2
      refine ⟨_, .nx, [a0, some p'.d, a2, a3, a4, a5, a6, some (trD t), some (.mls rs), some (.lst rs)], rfl, ?_, .inl rfl, p', _, _, _, rfl⟩
      unfold lb_law_4
      push_cast [hr, t1, t2, same_tr hl hev, recs_ne hev h1 h2, trD_fz, res_fz (trD_fz t), isAl_fz (trD_fz t)]
  exact ⟨p', o7', o8', o9', hlo⟩
theorem law_mir (ns : List Int) (hns : ns.length ≤ 63) : ∃ ds', m_law [.rol (ns.map D.int)] = some (.ok (.bl true) ds') := by
  unfold m_law mb_law
  rw [ev_fun (by rfl) (by rfl)]
  obtain ⟨p0, d0⟩ := pool_new ns
  obtain ⟨t1, p1, h1, l1, e1⟩ := trace_ok p0 (b := 9) (by omega) (by omega)
  obtain ⟨t2, p2, h2, l2, e2⟩ := trace_ok p1 (b := 9) (by omega) (by omega)
  obtain ⟨o4, o5, hA⟩ := first_loop (some (.rol (ns.map D.int))) (some p2.d) (some (.mls [trD t1, trD t2])) none none none none (t1 ++ t2) none none
  obtain ⟨o6, hB⟩ := ex_loop (some (.rol (ns.map D.int))) (some p2.d) (some (.tup ((t1 ++ t2).map evD))) o4 o5 none none none none t1 t2 (by omega) (by omega) e1 e2
  obtain ⟨p3, o7, o8, o9, hC⟩ := rec_loop (some (.rol (ns.map D.int))) (some (.lst [trD t1, trD t2])) (some (.tup ((t1 ++ t2).map evD))) o4 o5 o6 none none none p2 [t1, t2] (by
    intro t ht
    simp only [List.mem_cons, List.not_mem_nil, or_false] at ht
    rcases ht with rfl | rfl
    · exact ⟨by omega, e1⟩
    · exact ⟨by omega, e2⟩)
  have hC' : mLoop (gNm 7) lb_law_4 [trD t1, trD t2] [some (.rol (ns.map D.int)), some p2.d, some (.lst [trD t1, trD t2]), some (.tup ((t1 ++ t2).map evD)), o4, o5, o6, none, none, none] = some (.ok .nx [some (.rol (ns.map D.int)), some p3.d, some (.lst [trD t1, trD t2]), some (.tup ((t1 ++ t2).map evD)), o4, o5, o6, o7, o8, o9]) := hC
  obtain ⟨TT, hTT⟩ : ∃ TT : List D, [trD t1, trD t2] = TT := ⟨_, rfl⟩
  obtain ⟨ks, hks⟩ : ∃ ks : List D, [.int 0, .int 1, .int 0] = ks := ⟨_, rfl⟩
  have hTt : ∀ e, tkfA TT e = some (TT, e) := by
    intro e
    rw [← hTT]
    push_cast [trD_fz, isAl_fz (trD_fz t1), isAl_fz (trD_fz t2)]
  have hkt : ∀ e, tkfA ks e = some (ks, e) := by
    intro e
    rw [← hks]
    walk_at "ev"
  have hTl : TT.length ≤ 16777216 := by rw [← hTT]; simp
  have hkl : ks.length ≤ 16777216 := by rw [← hks]; simp
  have hT0 : atI TT 0 = some (trD t1) := by rw [← hTT]; exact atI_l0 _ _
  have hT1 : atI TT 1 = some (trD t2) := by rw [← hTT]; exact atI_l1 _ _ _
  have hadd : dAdd (trD t1) (trD t2) = some (.tup ((t1 ++ t2).map evD)) := by
    unfold trD
    have z : (t1.map evD).length + (t2.map evD).length ≤ 16777216 := by simp; omega
    rw [dAdd_tup, if_pos z, List.map_append]
  rw [hTT] at hA hB hC'
  rw [hks] at hB
  obtain ⟨EV, hEV⟩ : ∃ EV : List D, (t1 ++ t2).map evD = EV := ⟨_, rfl⟩
  rw [hEV] at hA hB hC' hadd
  refine ⟨[.rol (ns.map D.int)], ?_⟩
  push_cast [d0, h1, h2, hTT, hTt, hTl, hT0, hT1, hadd, hA, hks, hkt, hkl, hB, hC', trD_fz, res_fz (trD_fz t1), res_fz (trD_fz t2), isAl_fz (trD_fz t1), isAl_fz (trD_fz t2)]
end Q

namespace Q
open PySem L2
theorem all_mk {l : PySem.W.OpenLaw} {w : World} {K : PySem.W.Frag} {h : Heap} {mg : Str → Option Value} {fa : Addr} (X : K.In h) (G : h.Ns mainGlobals mg) (hfa : mg "law" = some (.ref fa))
    {f_l_pool : Addr} {od_l_pool an_l_pool : Option Addr} {sl_l_pool : Array (Option Value)} {oc_l_pool kV_l_pool dc_l_pool pm_l_pool cd_l_pool ct_l_pool : Value}
    {f_l_mixed : Addr} {od_l_mixed an_l_mixed : Option Addr} {sl_l_mixed : Array (Option Value)} {oc_l_mixed kV_l_mixed dc_l_mixed pm_l_mixed cd_l_mixed ct_l_mixed : Value}
    {f_l_draw : Addr} {od_l_draw an_l_draw : Option Addr} {sl_l_draw : Array (Option Value)} {oc_l_draw kV_l_draw dc_l_draw pm_l_draw cd_l_draw ct_l_draw : Value}
    {f_l_task : Addr} {od_l_task an_l_task : Option Addr} {sl_l_task : Array (Option Value)} {oc_l_task kV_l_task dc_l_task pm_l_task cd_l_task ct_l_task : Value}
    {f_l_word : Addr} {od_l_word an_l_word : Option Addr} {sl_l_word : Array (Option Value)} {oc_l_word kV_l_word dc_l_word pm_l_word cd_l_word ct_l_word : Value}
    {f_l_kinds : Addr} {od_l_kinds an_l_kinds : Option Addr} {sl_l_kinds : Array (Option Value)} {oc_l_kinds kV_l_kinds dc_l_kinds pm_l_kinds cd_l_kinds ct_l_kinds : Value}
    {f_l_fresh : Addr} {od_l_fresh an_l_fresh : Option Addr} {sl_l_fresh : Array (Option Value)} {oc_l_fresh kV_l_fresh dc_l_fresh pm_l_fresh cd_l_fresh ct_l_fresh : Value}
    {f_l_cell_text : Addr} {od_l_cell_text an_l_cell_text : Option Addr} {sl_l_cell_text : Array (Option Value)} {oc_l_cell_text kV_l_cell_text dc_l_cell_text pm_l_cell_text cd_l_cell_text ct_l_cell_text : Value}
    {f_l_trace : Addr} {od_l_trace an_l_trace : Option Addr} {sl_l_trace : Array (Option Value)} {oc_l_trace kV_l_trace dc_l_trace pm_l_trace cd_l_trace ct_l_trace : Value}
    {f_l_is_int : Addr} {od_l_is_int an_l_is_int : Option Addr} {sl_l_is_int : Array (Option Value)} {oc_l_is_int kV_l_is_int dc_l_is_int pm_l_is_int cd_l_is_int ct_l_is_int : Value}
    {f_l_same : Addr} {od_l_same an_l_same : Option Addr} {sl_l_same : Array (Option Value)} {oc_l_same kV_l_same dc_l_same pm_l_same cd_l_same ct_l_same : Value}
    {f_l_bound : Addr} {od_l_bound an_l_bound : Option Addr} {sl_l_bound : Array (Option Value)} {oc_l_bound kV_l_bound dc_l_bound pm_l_bound cd_l_bound ct_l_bound : Value}
    {f_free : Addr} {od_free an_free : Option Addr} {sl_free : Array (Option Value)} {oc_free kV_free dc_free pm_free cd_free ct_free : Value}
    {f_l_exchanged : Addr} {od_l_exchanged an_l_exchanged : Option Addr} {sl_l_exchanged : Array (Option Value)} {oc_l_exchanged kV_l_exchanged dc_l_exchanged pm_l_exchanged cd_l_exchanged ct_l_exchanged : Value}
    {f_l_records : Addr} {od_l_records an_l_records : Option Addr} {sl_l_records : Array (Option Value)} {oc_l_records kV_l_records dc_l_records pm_l_records cd_l_records ct_l_records : Value}
    {f_trace_of : Addr} {od_trace_of an_trace_of : Option Addr} {sl_trace_of : Array (Option Value)} {oc_trace_of kV_trace_of dc_trace_of pm_trace_of cd_trace_of ct_trace_of : Value}
    {f_exchanged : Addr} {od_exchanged an_exchanged : Option Addr} {sl_exchanged : Array (Option Value)} {oc_exchanged kV_exchanged dc_exchanged pm_exchanged cd_exchanged ct_exchanged : Value}
    {f_exchanges : Addr} {od_exchanges an_exchanges : Option Addr} {sl_exchanges : Array (Option Value)} {oc_exchanges kV_exchanges dc_exchanges pm_exchanges cd_exchanges ct_exchanges : Value}
    {f_law : Addr} {od_law an_law : Option Addr} {sl_law : Array (Option Value)} {oc_law kV_law dc_law pm_law cd_law ct_law : Value}
    (a_l_pool : PySem.W.nsIn K mainGlobals "_law_pool" = some (some (.ref f_l_pool)))
    (l_l_pool : K.lookup f_l_pool = some ⟨oc_l_pool, od_l_pool, .func (PySem.W.fnOf "_law_pool" "_law_pool" (defArgs s_l_pool) (defBody s_l_pool) (defScope s_l_pool) .none kV_l_pool dc_l_pool pm_l_pool an_l_pool cd_l_pool ct_l_pool), sl_l_pool⟩)
    (c_l_pool : PySem.W.codeIn K cd_l_pool "_law_pool" = true)
    (k_l_pool : PySem.W.keepIn K (.ref f_l_pool) = true)
    (a_l_mixed : PySem.W.nsIn K mainGlobals "_law_mixed" = some (some (.ref f_l_mixed)))
    (l_l_mixed : K.lookup f_l_mixed = some ⟨oc_l_mixed, od_l_mixed, .func (PySem.W.fnOf "_law_mixed" "_law_mixed" (defArgs s_l_mixed) (defBody s_l_mixed) (defScope s_l_mixed) .none kV_l_mixed dc_l_mixed pm_l_mixed an_l_mixed cd_l_mixed ct_l_mixed), sl_l_mixed⟩)
    (c_l_mixed : PySem.W.codeIn K cd_l_mixed "_law_mixed" = true)
    (k_l_mixed : PySem.W.keepIn K (.ref f_l_mixed) = true)
    (a_l_draw : PySem.W.nsIn K mainGlobals "_law_draw" = some (some (.ref f_l_draw)))
    (l_l_draw : K.lookup f_l_draw = some ⟨oc_l_draw, od_l_draw, .func (PySem.W.fnOf "_law_draw" "_law_draw" (defArgs s_l_draw) (defBody s_l_draw) (defScope s_l_draw) .none kV_l_draw dc_l_draw pm_l_draw an_l_draw cd_l_draw ct_l_draw), sl_l_draw⟩)
    (c_l_draw : PySem.W.codeIn K cd_l_draw "_law_draw" = true)
    (k_l_draw : PySem.W.keepIn K (.ref f_l_draw) = true)
    (a_l_task : PySem.W.nsIn K mainGlobals "_law_task" = some (some (.ref f_l_task)))
    (l_l_task : K.lookup f_l_task = some ⟨oc_l_task, od_l_task, .func (PySem.W.fnOf "_law_task" "_law_task" (defArgs s_l_task) (defBody s_l_task) (defScope s_l_task) .none kV_l_task dc_l_task pm_l_task an_l_task cd_l_task ct_l_task), sl_l_task⟩)
    (c_l_task : PySem.W.codeIn K cd_l_task "_law_task" = true)
    (k_l_task : PySem.W.keepIn K (.ref f_l_task) = true)
    (a_l_word : PySem.W.nsIn K mainGlobals "_law_word" = some (some (.ref f_l_word)))
    (l_l_word : K.lookup f_l_word = some ⟨oc_l_word, od_l_word, .func (PySem.W.fnOf "_law_word" "_law_word" (defArgs s_l_word) (defBody s_l_word) (defScope s_l_word) .none kV_l_word dc_l_word pm_l_word an_l_word cd_l_word ct_l_word), sl_l_word⟩)
    (c_l_word : PySem.W.codeIn K cd_l_word "_law_word" = true)
    (k_l_word : PySem.W.keepIn K (.ref f_l_word) = true)
    (a_l_kinds : PySem.W.nsIn K mainGlobals "_law_kinds" = some (some (.ref f_l_kinds)))
    (l_l_kinds : K.lookup f_l_kinds = some ⟨oc_l_kinds, od_l_kinds, .func (PySem.W.fnOf "_law_kinds" "_law_kinds" (defArgs s_l_kinds) (defBody s_l_kinds) (defScope s_l_kinds) .none kV_l_kinds dc_l_kinds pm_l_kinds an_l_kinds cd_l_kinds ct_l_kinds), sl_l_kinds⟩)
    (c_l_kinds : PySem.W.codeIn K cd_l_kinds "_law_kinds" = true)
    (k_l_kinds : PySem.W.keepIn K (.ref f_l_kinds) = true)
    (a_l_fresh : PySem.W.nsIn K mainGlobals "_law_fresh" = some (some (.ref f_l_fresh)))
    (l_l_fresh : K.lookup f_l_fresh = some ⟨oc_l_fresh, od_l_fresh, .func (PySem.W.fnOf "_law_fresh" "_law_fresh" (defArgs s_l_fresh) (defBody s_l_fresh) (defScope s_l_fresh) .none kV_l_fresh dc_l_fresh pm_l_fresh an_l_fresh cd_l_fresh ct_l_fresh), sl_l_fresh⟩)
    (c_l_fresh : PySem.W.codeIn K cd_l_fresh "_law_fresh" = true)
    (k_l_fresh : PySem.W.keepIn K (.ref f_l_fresh) = true)
    (a_l_cell_text : PySem.W.nsIn K mainGlobals "_law_cell_text" = some (some (.ref f_l_cell_text)))
    (l_l_cell_text : K.lookup f_l_cell_text = some ⟨oc_l_cell_text, od_l_cell_text, .func (PySem.W.fnOf "_law_cell_text" "_law_cell_text" (defArgs s_l_cell_text) (defBody s_l_cell_text) (defScope s_l_cell_text) .none kV_l_cell_text dc_l_cell_text pm_l_cell_text an_l_cell_text cd_l_cell_text ct_l_cell_text), sl_l_cell_text⟩)
    (c_l_cell_text : PySem.W.codeIn K cd_l_cell_text "_law_cell_text" = true)
    (k_l_cell_text : PySem.W.keepIn K (.ref f_l_cell_text) = true)
    (a_l_trace : PySem.W.nsIn K mainGlobals "_law_trace" = some (some (.ref f_l_trace)))
    (l_l_trace : K.lookup f_l_trace = some ⟨oc_l_trace, od_l_trace, .func (PySem.W.fnOf "_law_trace" "_law_trace" (defArgs s_l_trace) (defBody s_l_trace) (defScope s_l_trace) .none kV_l_trace dc_l_trace pm_l_trace an_l_trace cd_l_trace ct_l_trace), sl_l_trace⟩)
    (c_l_trace : PySem.W.codeIn K cd_l_trace "_law_trace" = true)
    (k_l_trace : PySem.W.keepIn K (.ref f_l_trace) = true)
    (a_l_is_int : PySem.W.nsIn K mainGlobals "_law_is_int" = some (some (.ref f_l_is_int)))
    (l_l_is_int : K.lookup f_l_is_int = some ⟨oc_l_is_int, od_l_is_int, .func (PySem.W.fnOf "_law_is_int" "_law_is_int" (defArgs s_l_is_int) (defBody s_l_is_int) (defScope s_l_is_int) .none kV_l_is_int dc_l_is_int pm_l_is_int an_l_is_int cd_l_is_int ct_l_is_int), sl_l_is_int⟩)
    (c_l_is_int : PySem.W.codeIn K cd_l_is_int "_law_is_int" = true)
    (k_l_is_int : PySem.W.keepIn K (.ref f_l_is_int) = true)
    (a_l_same : PySem.W.nsIn K mainGlobals "_law_same" = some (some (.ref f_l_same)))
    (l_l_same : K.lookup f_l_same = some ⟨oc_l_same, od_l_same, .func (PySem.W.fnOf "_law_same" "_law_same" (defArgs s_l_same) (defBody s_l_same) (defScope s_l_same) .none kV_l_same dc_l_same pm_l_same an_l_same cd_l_same ct_l_same), sl_l_same⟩)
    (c_l_same : PySem.W.codeIn K cd_l_same "_law_same" = true)
    (k_l_same : PySem.W.keepIn K (.ref f_l_same) = true)
    (a_l_bound : PySem.W.nsIn K mainGlobals "_law_bound" = some (some (.ref f_l_bound)))
    (l_l_bound : K.lookup f_l_bound = some ⟨oc_l_bound, od_l_bound, .func (PySem.W.fnOf "_law_bound" "_law_bound" (defArgs s_l_bound) (defBody s_l_bound) (defScope s_l_bound) .none kV_l_bound dc_l_bound pm_l_bound an_l_bound cd_l_bound ct_l_bound), sl_l_bound⟩)
    (c_l_bound : PySem.W.codeIn K cd_l_bound "_law_bound" = true)
    (k_l_bound : PySem.W.keepIn K (.ref f_l_bound) = true)
    (a_free : PySem.W.nsIn K mainGlobals "free" = some (some (.ref f_free)))
    (l_free : K.lookup f_free = some ⟨oc_free, od_free, .func (PySem.W.fnOf "free" "free" (defArgs s_free) (defBody s_free) (defScope s_free) .none kV_free dc_free pm_free an_free cd_free ct_free), sl_free⟩)
    (c_free : PySem.W.codeIn K cd_free "free" = true)
    (k_free : PySem.W.keepIn K (.ref f_free) = true)
    (a_l_exchanged : PySem.W.nsIn K mainGlobals "_law_exchanged" = some (some (.ref f_l_exchanged)))
    (l_l_exchanged : K.lookup f_l_exchanged = some ⟨oc_l_exchanged, od_l_exchanged, .func (PySem.W.fnOf "_law_exchanged" "_law_exchanged" (defArgs s_l_exchanged) (defBody s_l_exchanged) (defScope s_l_exchanged) .none kV_l_exchanged dc_l_exchanged pm_l_exchanged an_l_exchanged cd_l_exchanged ct_l_exchanged), sl_l_exchanged⟩)
    (c_l_exchanged : PySem.W.codeIn K cd_l_exchanged "_law_exchanged" = true)
    (k_l_exchanged : PySem.W.keepIn K (.ref f_l_exchanged) = true)
    (a_l_records : PySem.W.nsIn K mainGlobals "_law_records" = some (some (.ref f_l_records)))
    (l_l_records : K.lookup f_l_records = some ⟨oc_l_records, od_l_records, .func (PySem.W.fnOf "_law_records" "_law_records" (defArgs s_l_records) (defBody s_l_records) (defScope s_l_records) .none kV_l_records dc_l_records pm_l_records an_l_records cd_l_records ct_l_records), sl_l_records⟩)
    (c_l_records : PySem.W.codeIn K cd_l_records "_law_records" = true)
    (k_l_records : PySem.W.keepIn K (.ref f_l_records) = true)
    (a_trace_of : PySem.W.nsIn K mainGlobals "trace_of" = some (some (.ref f_trace_of)))
    (l_trace_of : K.lookup f_trace_of = some ⟨oc_trace_of, od_trace_of, .func (PySem.W.fnOf "trace_of" "trace_of" (defArgs s_trace_of) (defBody s_trace_of) (defScope s_trace_of) .none kV_trace_of dc_trace_of pm_trace_of an_trace_of cd_trace_of ct_trace_of), sl_trace_of⟩)
    (c_trace_of : PySem.W.codeIn K cd_trace_of "trace_of" = true)
    (k_trace_of : PySem.W.keepIn K (.ref f_trace_of) = true)
    (a_exchanged : PySem.W.nsIn K mainGlobals "exchanged" = some (some (.ref f_exchanged)))
    (l_exchanged : K.lookup f_exchanged = some ⟨oc_exchanged, od_exchanged, .func (PySem.W.fnOf "exchanged" "exchanged" (defArgs s_exchanged) (defBody s_exchanged) (defScope s_exchanged) .none kV_exchanged dc_exchanged pm_exchanged an_exchanged cd_exchanged ct_exchanged), sl_exchanged⟩)
    (c_exchanged : PySem.W.codeIn K cd_exchanged "exchanged" = true)
    (k_exchanged : PySem.W.keepIn K (.ref f_exchanged) = true)
    (a_exchanges : PySem.W.nsIn K mainGlobals "exchanges" = some (some (.ref f_exchanges)))
    (l_exchanges : K.lookup f_exchanges = some ⟨oc_exchanges, od_exchanges, .func (PySem.W.fnOf "exchanges" "exchanges" (defArgs s_exchanges) (defBody s_exchanges) (defScope s_exchanges) .none kV_exchanges dc_exchanges pm_exchanges an_exchanges cd_exchanges ct_exchanges), sl_exchanges⟩)
    (c_exchanges : PySem.W.codeIn K cd_exchanges "exchanges" = true)
    (k_exchanges : PySem.W.keepIn K (.ref f_exchanges) = true)
    (a_law : PySem.W.nsIn K mainGlobals "law" = some (some (.ref f_law)))
    (l_law : K.lookup f_law = some ⟨oc_law, od_law, .func (PySem.W.fnOf "law" "law" (defArgs s_law) (defBody s_law) (defScope s_law) .none kV_law dc_law pm_law an_law cd_law ct_law), sl_law⟩)
    (c_law : PySem.W.codeIn K cd_law "law" = true)
    (k_law : PySem.W.keepIn K (.ref f_law) = true)
    (z_list : PySem.W.nsIn K mainGlobals "list" = some none)
    (z_tuple : PySem.W.nsIn K mainGlobals "tuple" = some none)
    (z_range : PySem.W.nsIn K mainGlobals "range" = some none)
    (z_len : PySem.W.nsIn K mainGlobals "len" = some none)
    (z_sorted : PySem.W.nsIn K mainGlobals "sorted" = some none)
    (z_int : PySem.W.nsIn K mainGlobals "int" = some none)
    (z_str : PySem.W.nsIn K mainGlobals "str" = some none)
    (z_isinstance : PySem.W.nsIn K mainGlobals "isinstance" = some none)
    (z_bool : PySem.W.nsIn K mainGlobals "bool" = some none) :
    ∃ fd : FuncData, (∀ (s : Shared) (v : Value), BindsTo s fd ⟨[v], []⟩ [("_law_script", v)]) ∧ ∃ cv, ∀ base : Heap, K.In base → base.Ns mainGlobals mg → FnOk l.prog w K mg base (L2N.CX l.prog w) 11 fa fd ["_law_script"] (spM ⟨K, cv⟩ m_law) := by
  have e := hfa.symm.trans (PySem.W.mg_of X G a_law)
  cases e
  have F_l_pool := fun_mk (st := s_l_pool) l_l_pool c_l_pool k_l_pool
  have b_l_pool := F_l_pool.binds (ps := ["_law_script"]) fun _ _ _ _ _ _ us hl => match us, hl with | [_], _ => rfl
  have F_l_mixed := fun_mk (st := s_l_mixed) l_l_mixed c_l_mixed k_l_mixed
  have b_l_mixed := F_l_mixed.binds (ps := ["_law_cell", "_law_turn", "_law_limit"]) fun _ _ _ _ _ _ us hl => match us, hl with | [_, _, _], _ => rfl
  have F_l_draw := fun_mk (st := s_l_draw) l_l_draw c_l_draw k_l_draw
  have b_l_draw := F_l_draw.binds (ps := ["_law_pool_here", "_law_limit"]) fun _ _ _ _ _ _ us hl => match us, hl with | [_, _], _ => rfl
  have F_l_task := fun_mk (st := s_l_task) l_l_task c_l_task k_l_task
  have b_l_task := F_l_task.binds (ps := ["_law_pool_here"]) fun _ _ _ _ _ _ us hl => match us, hl with | [_], _ => rfl
  have F_l_word := fun_mk (st := s_l_word) l_l_word c_l_word k_l_word
  have b_l_word := F_l_word.binds (ps := ["_law_pool_here", "_law_first", "_law_signs", "_law_more"]) fun _ _ _ _ _ _ us hl => match us, hl with | [_, _, _, _], _ => rfl
  have F_l_kinds := fun_mk (st := s_l_kinds) l_l_kinds c_l_kinds k_l_kinds
  have b_l_kinds := F_l_kinds.binds (ps := []) fun _ _ _ _ _ _ us hl => match us, hl with | [], _ => rfl
  have F_l_fresh := fun_mk (st := s_l_fresh) l_l_fresh c_l_fresh k_l_fresh
  have b_l_fresh := F_l_fresh.binds (ps := ["_law_pool_here", "_law_used"]) fun _ _ _ _ _ _ us hl => match us, hl with | [_, _], _ => rfl
  have F_l_cell_text := fun_mk (st := s_l_cell_text) l_l_cell_text c_l_cell_text k_l_cell_text
  have b_l_cell_text := F_l_cell_text.binds (ps := ["_law_pool_here"]) fun _ _ _ _ _ _ us hl => match us, hl with | [_], _ => rfl
  have F_l_trace := fun_mk (st := s_l_trace) l_l_trace c_l_trace k_l_trace
  have b_l_trace := F_l_trace.binds (ps := ["_law_pool_here", "_law_bound_here"]) fun _ _ _ _ _ _ us hl => match us, hl with | [_, _], _ => rfl
  have F_l_is_int := fun_mk (st := s_l_is_int) l_l_is_int c_l_is_int k_l_is_int
  have b_l_is_int := F_l_is_int.binds (ps := ["_law_thing"]) fun _ _ _ _ _ _ us hl => match us, hl with | [_], _ => rfl
  have F_l_same := fun_mk (st := s_l_same) l_l_same c_l_same k_l_same
  have b_l_same := F_l_same.binds (ps := ["_law_mine", "_law_due"]) fun _ _ _ _ _ _ us hl => match us, hl with | [_, _], _ => rfl
  have F_l_bound := fun_mk (st := s_l_bound) l_l_bound c_l_bound k_l_bound
  have b_l_bound := F_l_bound.binds (ps := ["_law_one", "_law_other"]) fun _ _ _ _ _ _ us hl => match us, hl with | [_, _], _ => rfl
  have F_free := fun_mk (st := s_free) l_free c_free k_free
  have b_free := F_free.binds (ps := ["one", "other"]) fun _ _ _ _ _ _ us hl => match us, hl with | [_, _], _ => rfl
  have F_l_exchanged := fun_mk (st := s_l_exchanged) l_l_exchanged c_l_exchanged k_l_exchanged
  have b_l_exchanged := F_l_exchanged.binds (ps := ["_law_trace_here"]) fun _ _ _ _ _ _ us hl => match us, hl with | [_], _ => rfl
  have F_l_records := fun_mk (st := s_l_records) l_l_records c_l_records k_l_records
  have b_l_records := F_l_records.binds (ps := ["_law_pool_here", "_law_trace_here"]) fun _ _ _ _ _ _ us hl => match us, hl with | [_, _], _ => rfl
  have F_trace_of := fun_mk (st := s_trace_of) l_trace_of c_trace_of k_trace_of
  have b_trace_of := F_trace_of.binds (ps := ["records"]) fun _ _ _ _ _ _ us hl => match us, hl with | [_], _ => rfl
  have F_exchanged := fun_mk (st := s_exchanged) l_exchanged c_exchanged k_exchanged
  have b_exchanged := F_exchanged.binds (ps := ["trace", "at"]) fun _ _ _ _ _ _ us hl => match us, hl with | [_, _], _ => rfl
  have F_exchanges := fun_mk (st := s_exchanges) l_exchanges c_exchanges k_exchanges
  have b_exchanges := F_exchanges.binds (ps := ["trace"]) fun _ _ _ _ _ _ us hl => match us, hl with | [_], _ => rfl
  have F_law := fun_mk (st := s_law) l_law c_law k_law
  have b_law := F_law.binds (ps := ["_law_script"]) fun _ _ _ _ _ _ us hl => match us, hl with | [_], _ => rfl
  let T : Txt l.prog w K mg := { f_l_pool := f_l_pool, d_l_pool := _, F_l_pool := F_l_pool, g_l_pool := PySem.W.mg_of X G a_l_pool, b_l_pool := b_l_pool, f_l_mixed := f_l_mixed, d_l_mixed := _, F_l_mixed := F_l_mixed, g_l_mixed := PySem.W.mg_of X G a_l_mixed, b_l_mixed := b_l_mixed, f_l_draw := f_l_draw, d_l_draw := _, F_l_draw := F_l_draw, g_l_draw := PySem.W.mg_of X G a_l_draw, b_l_draw := b_l_draw, f_l_task := f_l_task, d_l_task := _, F_l_task := F_l_task, g_l_task := PySem.W.mg_of X G a_l_task, b_l_task := b_l_task, f_l_word := f_l_word, d_l_word := _, F_l_word := F_l_word, g_l_word := PySem.W.mg_of X G a_l_word, b_l_word := b_l_word, f_l_kinds := f_l_kinds, d_l_kinds := _, F_l_kinds := F_l_kinds, g_l_kinds := PySem.W.mg_of X G a_l_kinds, b_l_kinds := b_l_kinds, f_l_fresh := f_l_fresh, d_l_fresh := _, F_l_fresh := F_l_fresh, g_l_fresh := PySem.W.mg_of X G a_l_fresh, b_l_fresh := b_l_fresh, f_l_cell_text := f_l_cell_text, d_l_cell_text := _, F_l_cell_text := F_l_cell_text, g_l_cell_text := PySem.W.mg_of X G a_l_cell_text, b_l_cell_text := b_l_cell_text, f_l_trace := f_l_trace, d_l_trace := _, F_l_trace := F_l_trace, g_l_trace := PySem.W.mg_of X G a_l_trace, b_l_trace := b_l_trace, f_l_is_int := f_l_is_int, d_l_is_int := _, F_l_is_int := F_l_is_int, g_l_is_int := PySem.W.mg_of X G a_l_is_int, b_l_is_int := b_l_is_int, f_l_same := f_l_same, d_l_same := _, F_l_same := F_l_same, g_l_same := PySem.W.mg_of X G a_l_same, b_l_same := b_l_same, f_l_bound := f_l_bound, d_l_bound := _, F_l_bound := F_l_bound, g_l_bound := PySem.W.mg_of X G a_l_bound, b_l_bound := b_l_bound, f_free := f_free, d_free := _, F_free := F_free, g_free := PySem.W.mg_of X G a_free, b_free := b_free, f_l_exchanged := f_l_exchanged, d_l_exchanged := _, F_l_exchanged := F_l_exchanged, g_l_exchanged := PySem.W.mg_of X G a_l_exchanged, b_l_exchanged := b_l_exchanged, f_l_records := f_l_records, d_l_records := _, F_l_records := F_l_records, g_l_records := PySem.W.mg_of X G a_l_records, b_l_records := b_l_records, f_trace_of := f_trace_of, d_trace_of := _, F_trace_of := F_trace_of, g_trace_of := PySem.W.mg_of X G a_trace_of, b_trace_of := b_trace_of, f_exchanged := f_exchanged, d_exchanged := _, F_exchanged := F_exchanged, g_exchanged := PySem.W.mg_of X G a_exchanged, b_exchanged := b_exchanged, f_exchanges := f_exchanges, d_exchanges := _, F_exchanges := F_exchanges, g_exchanges := PySem.W.mg_of X G a_exchanges, b_exchanges := b_exchanges, f_law := fa, d_law := _, F_law := F_law, g_law := PySem.W.mg_of X G a_law, b_law := b_law, b_list := PySem.W.mg_none_of X G z_list, b_tuple := PySem.W.mg_none_of X G z_tuple, b_range := PySem.W.mg_none_of X G z_range, b_len := PySem.W.mg_none_of X G z_len, b_sorted := PySem.W.mg_none_of X G z_sorted, b_int := PySem.W.mg_none_of X G z_int, b_str := PySem.W.mg_none_of X G z_str, b_isinstance := PySem.W.mg_none_of X G z_isinstance, b_bool := PySem.W.mg_none_of X G z_bool }
  exact ⟨T.d_law, fun s v => .of_eq rfl, cvT T, fun base _ _ => ok_law T⟩
theorem walk {l : PySem.W.OpenLaw} {q : Program} {loose : List Str} {XP : (Str → Option Value) → Heap → Prop} {YP : World → Heap → Prop} {d : DefRec} {K : Params → PySem.W.Frag} (hn : l.most = some 63) (hdf : d.params.defaults = [])
    (hY : ∀ (w : World) (h : Heap), YP w h → (K w.params).In h)
    (F : ∀ (w : World) (mg : Str → Option Value) (fa : Addr) (h : Heap), (K w.params).In h → h.Ns mainGlobals mg → mg d.name = some (.ref fa) →
      ∃ fd : FuncData, (∀ (s : Shared) (u : Value), BindsTo s fd ⟨[u], []⟩ [("_law_script", u)]) ∧ ∃ cv, ∀ base : Heap, (K w.params).In base → base.Ns mainGlobals mg → FnOk l.prog w (K w.params) mg base (L2N.CX l.prog w) 11 fa fd ["_law_script"] (spM ⟨K w.params, cv⟩ m_law)) :
    PySem.W.WalkO q loose XP YP l.row.toRowW d [] (fun f vs => PySem.call f vs) :=
  L2.walk_of (n := 63) (k := 11) (x := "_law_script") (CX := fun w => L2N.CX l.prog w) (sp := fun w => spE (K w.params) m_law) hn (by decide) hdf ⟨rfl, by decide, by decide⟩ hY (fun w mg fa h a b c => by
    obtain ⟨fd, h1, cv, h2⟩ := F w mg fa h a b c
    exact ⟨fd, h1, fun base a b => spE_of (h2 base a b)⟩) (fun _ _ a ns hl _ hS => spE_law hS (law_mir ns hl)) fun _ _ _ _ _ z => cx_none z
end Q
open PySem PySem.W PyProof.Rows
set_option maxRecDepth 100000 in
set_option maxHeartbeats 0 in
theorem PySem.Challenge.cw_quickways_k26_free_events_exchange_holds : PySem.Challenge.rw_quickways_k26_free_events_exchange.Holds := by
  w_on; o_law; k_head; (case hw => w_witness2)
  k_fill
  refine Q.walk (l := PySem.Challenge.rw_quickways_k26_free_events_exchange) rfl rfl (fun w h Y => PySem.W.kIn_of Y) ?F
  case F =>
    intro w mg fa h KX G hmg
    refine' Q.all_mk KX G hmg ?a_l_pool ?l_l_pool ?c_l_pool ?k_l_pool ?a_l_mixed ?l_l_mixed ?c_l_mixed ?k_l_mixed ?a_l_draw ?l_l_draw ?c_l_draw ?k_l_draw ?a_l_task ?l_l_task ?c_l_task ?k_l_task ?a_l_word ?l_l_word ?c_l_word ?k_l_word ?a_l_kinds ?l_l_kinds ?c_l_kinds ?k_l_kinds ?a_l_fresh ?l_l_fresh ?c_l_fresh ?k_l_fresh ?a_l_cell_text ?l_l_cell_text ?c_l_cell_text ?k_l_cell_text ?a_l_trace ?l_l_trace ?c_l_trace ?k_l_trace ?a_l_is_int ?l_l_is_int ?c_l_is_int ?k_l_is_int ?a_l_same ?l_l_same ?c_l_same ?k_l_same ?a_l_bound ?l_l_bound ?c_l_bound ?k_l_bound ?a_free ?l_free ?c_free ?k_free ?a_l_exchanged ?l_l_exchanged ?c_l_exchanged ?k_l_exchanged ?a_l_records ?l_l_records ?c_l_records ?k_l_records ?a_trace_of ?l_trace_of ?c_trace_of ?k_trace_of ?a_exchanged ?l_exchanged ?c_exchanged ?k_exchanged ?a_exchanges ?l_exchanges ?c_exchanges ?k_exchanges ?a_law ?l_law ?c_law ?k_law ?z_list ?z_tuple ?z_range ?z_len ?z_sorted ?z_int ?z_str ?z_isinstance ?z_bool
    (case a_l_pool => k_is)
    (case l_l_pool => k_is)
    (case c_l_pool => k_is)
    (case k_l_pool => k_is)
    (case a_l_mixed => k_is)
    (case l_l_mixed => k_is)
    (case c_l_mixed => k_is)
    (case k_l_mixed => k_is)
    (case a_l_draw => k_is)
    (case l_l_draw => k_is)
    (case c_l_draw => k_is)
    (case k_l_draw => k_is)
    (case a_l_task => k_is)
    (case l_l_task => k_is)
    (case c_l_task => k_is)
    (case k_l_task => k_is)
    (case a_l_word => k_is)
    (case l_l_word => k_is)
    (case c_l_word => k_is)
    (case k_l_word => k_is)
    (case a_l_kinds => k_is)
    (case l_l_kinds => k_is)
    (case c_l_kinds => k_is)
    (case k_l_kinds => k_is)
    (case a_l_fresh => k_is)
    (case l_l_fresh => k_is)
    (case c_l_fresh => k_is)
    (case k_l_fresh => k_is)
    (case a_l_cell_text => k_is)
    (case l_l_cell_text => k_is)
    (case c_l_cell_text => k_is)
    (case k_l_cell_text => k_is)
    (case a_l_trace => k_is)
    (case l_l_trace => k_is)
    (case c_l_trace => k_is)
    (case k_l_trace => k_is)
    (case a_l_is_int => k_is)
    (case l_l_is_int => k_is)
    (case c_l_is_int => k_is)
    (case k_l_is_int => k_is)
    (case a_l_same => k_is)
    (case l_l_same => k_is)
    (case c_l_same => k_is)
    (case k_l_same => k_is)
    (case a_l_bound => k_is)
    (case l_l_bound => k_is)
    (case c_l_bound => k_is)
    (case k_l_bound => k_is)
    (case a_free => k_is)
    (case l_free => k_is)
    (case c_free => k_is)
    (case k_free => k_is)
    (case a_l_exchanged => k_is)
    (case l_l_exchanged => k_is)
    (case c_l_exchanged => k_is)
    (case k_l_exchanged => k_is)
    (case a_l_records => k_is)
    (case l_l_records => k_is)
    (case c_l_records => k_is)
    (case k_l_records => k_is)
    (case a_trace_of => k_is)
    (case l_trace_of => k_is)
    (case c_trace_of => k_is)
    (case k_trace_of => k_is)
    (case a_exchanged => k_is)
    (case l_exchanged => k_is)
    (case c_exchanged => k_is)
    (case k_exchanged => k_is)
    (case a_exchanges => k_is)
    (case l_exchanges => k_is)
    (case c_exchanges => k_is)
    (case k_exchanges => k_is)
    (case a_law => k_is)
    (case l_law => k_is)
    (case c_law => k_is)
    (case k_law => k_is)
    (case z_list => k_is)
    (case z_tuple => k_is)
    (case z_range => k_is)
    (case z_len => k_is)
    (case z_sorted => k_is)
    (case z_int => k_is)
    (case z_str => k_is)
    (case z_isinstance => k_is)
    (case z_bool => k_is)
#print axioms PySem.Challenge.cw_quickways_k26_free_events_exchange_holds
