import PyProof.Rows.All
import Wide.All
import OpenK.AllK
import Wide.FinOn
import HandS.Base
import HandS.Call
import HandS.List
import HandS.Comp
import HandS.Ends
import HandS.Dict
import HandS.Iter
import HandS.Text
import HandS.Words
import HandS.WordsList
import HandS.WordsDict
import HandS.IsInst
import HandS.TupAny
import HandS.Conv
import HandS.RevRange
import HandS.TryOnly
import HandS.Exc
import HandS.ExcOwn
import HandS.WordsExc
import PySem.Challenge.RW_quickways_k04_names_of_rows
set_option Elab.async false
set_option linter.all false
set_option maxRecDepth 100000
set_option maxHeartbeats 4000000
namespace PySem
open Sem (wp)
open PySem.AutoSeq1 in
theorem q_extend_tuple (l : Addr) (items : Array Value) (n : Nat) (b : Addr) (items2 : Array Value) (n2 : Nat) (dd : Option Addr) (sl : Array (Option Value)) (hs0 : ¬(!items.isEmpty && Builtin.List.listTooLong (items.size + items2.size)) = true) (hs1 : items.size ≤ sizeLine) (hs2 : items.size + items2.size ≤ sizeLine + 1) :
    Meets (Builtin.«list.extend» ⟨[.ref l, .ref b], []⟩) (fun _ R s => s.heap.get? l = some { cls := .type "list", dict := none, data := .seq items n, slots := #[] } ∧ s.heap.get? b = some { cls := .type "tuple", dict := dd, data := .seq items2 n2, slots := sl } ∧ R (.ok (.ret Value.none)) { s with heap := s.heap.update l (Obj.mapSeq fun x => x ++ items2), toks := s.toks }) :=
  .of_wp fun prog w A R s h => by
    obtain ⟨hp, g, d, tk, os⟩ := s; obtain ⟨hl, hb, h⟩ := h; have f1 := idx_int; have f2 := sub_tuple_tuple; have f3 := sub_list_list; have f4 := sub_tuple_list; have f5 := sub_list_tuple;
    have hz' : (items ++ items2).size ≤ sizeLine + 1 := by rw [Array.size_append]; exact hs2
    wp_walk using (wpAny_updateSeq hl rfl (hz := hs1) (_hz' := hz')), wpAny_loadPart' hl, wpAny_loadPart' hb; exact ⟨_, rfl, h⟩
end PySem
namespace Q
open PySem L2

/-! ### operators by what stands there -/
section
variable {X : Cx}
def rAddD (K : PySem.W.Frag) : R2 := fun x y H Q => match x, y with
  | .int i, .int j => Q (.int (i + j)) H
  | .str a, .str b => a.length + b.length ≤ sizeLine ∧ Q (.str (a ++ b)) H
  | .ref a, .ref b => rCat (.ref a) (.ref b) H Q ∨ rCatA K (.ref a) (.ref b) H Q
  | _, _ => False
theorem op_addD : OpR X (binaryOp .Add) (rAddD X.K) := by
  intro pins s σ H x y v u Q I rx ry h
  match x, y, h with
  | .int i, .int j, h => exact op_add pins s σ H _ _ v u Q I rx ry ⟨i, j, rfl, rfl, h⟩
  | .str a, .str b, h => exact op_add_str pins s σ H _ _ v u Q I rx ry ⟨a, b, rfl, rfl, h.1, h.2⟩
  | .ref a, .ref b, h =>
    rcases h with h | h
    · exact op_cat pins s σ H _ _ v u Q I rx ry h
    · exact op_catA pins s σ H _ _ v u Q I rx ry h
def rMulD : R2 := fun x y H Q => match x, y with
  | .int i, .int j => CMul i j ∧ Q (.int (i * j)) H
  | .ref a, .int j => rRep (.ref a) (.int j) H Q
  | _, _ => False
theorem op_mulD : OpR X (binaryOp .Mult) rMulD := by
  intro pins s σ H x y v u Q I rx ry h
  match x, y, h with
  | .int i, .int j, h => exact op_mul pins s σ H _ _ v u Q I rx ry ⟨i, j, rfl, rfl, h.1, h.2⟩
  | .ref a, .int j, h => exact op_rep pins s σ H _ _ v u Q I rx ry h
def rEqX (K : PySem.W.Frag) : R2 := fun x y H Q => rEq x y H Q ∨ rEqD K x y H Q
theorem op_eqX (hu : X.A.units + 64 < cLine) : OpR X (compareOp .Eq) (rEqX X.K) := by
  intro pins s σ H x y v u Q I rx ry h
  rcases h with h | h
  · exact op_eq pins s σ H _ _ v u Q I rx ry h
  · exact op_eqD hu pins s σ H _ _ v u Q I rx ry h
def rNeX (K : PySem.W.Frag) : R2 := fun x y H Q => rNe x y H Q ∨ rNeD K x y H Q
theorem op_neX (hu : X.A.units + 64 < cLine) : OpR X (compareOp .NotEq) (rNeX X.K) := by
  intro pins s σ H x y v u Q I rx ry h
  rcases h with h | h
  · exact op_ne pins s σ H _ _ v u Q I rx ry h
  · exact op_neD hu pins s σ H _ _ v u Q I rx ry h
def rSlX (K : PySem.W.Frag) : V → Option Int → Option Int → Hp → VK → Prop := fun x lo hi H Q => rSlL K x lo hi H Q ∨ rSlA K x lo hi H Q ∨ rSlS x lo hi H Q
theorem sl_X : SlR X (rSlX X.K) := by
  intro pins s σ H x v vl vu lo hi sl Q I rx hs pl pu h
  rcases h with h | h | h
  · exact sl_list pins s σ H x v vl vu lo hi sl Q I rx hs pl pu h
  · exact sl_tupA pins s σ H x v vl vu lo hi sl Q I rx hs pl pu h
  · exact sl_str pins s σ H x v vl vu lo hi sl Q I rx hs pl pu h

def rSubD : R2 := fun x y H Q => match x, y with
  | .int i, .int j => Q (.int (i - j)) H
  | _, _ => False
theorem op_subD : OpR X (binaryOp .Sub) rSubD := by
  intro pins s σ H x y v u Q I rx ry h
  match x, y, h with
  | .int i, .int j, h => exact op_sub pins s σ H _ _ v u Q I rx ry ⟨i, j, rfl, rfl, h⟩
def rFdivD : R2 := fun x y H Q => match x, y with
  | .int i, .int j => CDiv i j ∧ Q (.int (i / j)) H
  | _, _ => False
theorem op_fdivD : OpR X (binaryOp .FloorDiv) rFdivD := by
  intro pins s σ H x y v u Q I rx ry h
  match x, y, h with
  | .int i, .int j, h => exact op_fdiv pins s σ H _ _ v u Q I rx ry ⟨i, j, rfl, rfl, h.1, h.2⟩
def rModD : R2 := fun x y H Q => match x, y with
  | .int i, .int j => 0 < j ∧ Q (.int (i % j)) H
  | _, _ => False
theorem op_modD : OpR X (binaryOp .Mod) rModD := by
  intro pins s σ H x y v u Q I rx ry h
  match x, y, h with
  | .int i, .int j, h => exact op_mod pins s σ H _ _ v u Q I rx ry ⟨i, j, rfl, rfl, h.1, h.2⟩
def rPowD : R2 := fun x y H Q => match x, y with
  | .int i, .int j => CPow i j ∧ Q (.int (i ^ j.toNat)) H
  | _, _ => False
theorem op_powD : OpR X (binaryOp .Pow) rPowD := by
  intro pins s σ H x y v u Q I rx ry h
  match x, y, h with
  | .int i, .int j, h => exact op_pow pins s σ H _ _ v u Q I rx ry ⟨i, j, rfl, rfl, h.1, h.2⟩
def rLtD : R2 := fun x y H Q => match x, y with
  | .int i, .int j => Q (.bl (decide (i < j))) H
  | .str i, .str j => Q (.bl (decide (i.cps.toList < j.cps.toList))) H
  | _, _ => False
theorem op_ltD : OpR X (compareOp .Lt) rLtD := by
  intro pins s σ H x y v u Q I rx ry h
  match x, y, h with
  | .int i, .int j, h => exact op_lt pins s σ H _ _ v u Q I rx ry ⟨i, j, rfl, rfl, h⟩
  | .str i, .str j, h => exact op_lt_str pins s σ H _ _ v u Q I rx ry ⟨i, j, rfl, rfl, h⟩
def rLeD : R2 := fun x y H Q => match x, y with
  | .int i, .int j => Q (.bl (decide (i ≤ j))) H
  | .str i, .str j => Q (.bl (!decide (j.cps.toList < i.cps.toList))) H
  | _, _ => False
theorem op_leD : OpR X (compareOp .LtE) rLeD := by
  intro pins s σ H x y v u Q I rx ry h
  match x, y, h with
  | .int i, .int j, h => exact op_le pins s σ H _ _ v u Q I rx ry ⟨i, j, rfl, rfl, h⟩
  | .str i, .str j, h => exact op_le_str pins s σ H _ _ v u Q I rx ry ⟨i, j, rfl, rfl, h⟩
def rGtD : R2 := fun x y H Q => match x, y with
  | .int i, .int j => Q (.bl (decide (j < i))) H
  | .str i, .str j => Q (.bl (decide (j.cps.toList < i.cps.toList))) H
  | _, _ => False
theorem op_gtD : OpR X (compareOp .Gt) rGtD := by
  intro pins s σ H x y v u Q I rx ry h
  match x, y, h with
  | .int i, .int j, h => exact op_gt pins s σ H _ _ v u Q I rx ry ⟨i, j, rfl, rfl, h⟩
  | .str i, .str j, h => exact op_gt_str pins s σ H _ _ v u Q I rx ry ⟨i, j, rfl, rfl, h⟩
def rGeD : R2 := fun x y H Q => match x, y with
  | .int i, .int j => Q (.bl (decide (j ≤ i))) H
  | .str i, .str j => Q (.bl (!decide (i.cps.toList < j.cps.toList))) H
  | _, _ => False
theorem op_geD : OpR X (compareOp .GtE) rGeD := by
  intro pins s σ H x y v u Q I rx ry h
  match x, y, h with
  | .int i, .int j, h => exact op_ge pins s σ H _ _ v u Q I rx ry ⟨i, j, rfl, rfl, h⟩
  | .str i, .str j, h => exact op_ge_str pins s σ H _ _ v u Q I rx ry ⟨i, j, rfl, rfl, h⟩
def rNeg : V → Hp → VK → Prop := rU fun i => .int (-i)
/-- is None, is not None -/
def rIsD : R2 := fun x y H Q => y = .non ∧ Q (.bl (decide (x = .non))) H
theorem op_isD : OpR X (compareOp .Is) rIsD := op_isN
def rIsnotD : R2 := fun x y H Q => y = .non ∧ Q (.bl (!decide (x = .non))) H
theorem op_isnotD : OpR X (compareOp .IsNot) rIsnotD := op_notN
/-- in: a flat sequence, a dict, a text -/
def rInD (K : PySem.W.Frag) : R2 := fun x y H Q => rIn K false x y H Q ∨ (∃ a o, y = .ref a ∧ DGet H a x o ∧ Q (.bl o.isSome) H) ∨
  ∃ (c : Nat) (z : Str), x = .str ⟨#[c]⟩ ∧ y = .str z ∧ Q (.bl (decide (c ∈ z.cps.toList))) H
theorem op_inD (hu : X.A.units + 64 < cLine) : OpR X (compareOp .In) (rInD X.K) := by
  intro pins s σ H x y v u Q I rx ry h
  rcases h with h | h | h
  · exact op_in_seq pins s σ H _ _ v u Q I rx ry h
  · obtain ⟨a, o, rfl, g, q⟩ := h
    obtain rfl : u = Value.ref a := ry
    exact d_in (Nat.lt_of_le_of_lt (by omega) hu) I g rx fun s3 I3 => ⟨.bl o.isSome, H, I3, rfl, q⟩
  · exact op_in_sign pins s σ H _ _ v u Q I rx ry h
def rNotInD (K : PySem.W.Frag) : R2 := fun x y H Q => rIn K true x y H Q ∨ (∃ a o, y = .ref a ∧ DGet H a x o ∧ Q (.bl (!o.isSome)) H) ∨
  ∃ (c : Nat) (z : Str), x = .str ⟨#[c]⟩ ∧ y = .str z ∧ Q (.bl (!decide (c ∈ z.cps.toList))) H
theorem op_notInD (hu : X.A.units + 64 < cLine) : OpR X (compareOp .NotIn) (rNotInD X.K) := by
  intro pins s σ H x y v u Q I rx ry h
  rcases h with h | h | h
  · exact op_notIn_seq pins s σ H _ _ v u Q I rx ry h
  · obtain ⟨a, o, rfl, g, q⟩ := h
    obtain rfl : u = Value.ref a := ry
    exact d_notIn (Nat.lt_of_le_of_lt (by omega) hu) I g rx fun s3 I3 => ⟨.bl (!o.isSome), H, I3, rfl, q⟩
  · exact op_notIn_sign pins s σ H _ _ v u Q I rx ry h
/-- o[i] -/
def rIxD (K : PySem.W.Frag) : R2 := fun x y H Q => rIx K x y H Q ∨ ∃ a v, x = .ref a ∧ DGet H a y (some v) ∧ Q v H
theorem ix_D (hu : X.A.units + 64 < cLine) : IxR X (rIxD X.K) := by
  intro value slice pins s σ H x y v u Q I rx ry h hs
  rcases h with h | ⟨a, z, rfl, g, q⟩
  · exact ix_seq value slice pins s σ H x y v u Q I rx ry h hs
  · obtain rfl : v = Value.ref a := rx
    exact PyProof.Rows.tail_any (dict_typeIs I g) PySem.F.slot_dict_getitem.lookup (d_getItem (Nat.lt_of_le_of_lt (by omega) hu) I g ry fun w' s3 I3 rw' => ⟨z, H, I3, rw', q⟩) hs
/-- o[i] = v -/
def rSetD : V → V → V → Hp → (Hp → Prop) → Prop := fun o i v H Q => rSetL o i v H Q ∨ ∃ a H', o = .ref a ∧ DPut H a i v H' ∧ Q H'
theorem set_D (hu : X.A.units + 64 < cLine) : PSet X rSetD := by
  intro pins s σ H o i v ov iv u Q I ro ri rv h
  rcases h with h | ⟨a, H', rfl, g, q⟩
  · exact set_list pins s σ H o i v ov iv u Q I ro ri rv h
  · obtain rfl : ov = Value.ref a := ro
    exact d_setItem (Nat.lt_of_le_of_lt (by omega) hu) I g ri rv fun s4 I4 => ⟨H', I4, q⟩
/-! ### built-ins -/
def rLenD (K : PySem.W.Frag) : List V → Hp → VK → Prop := fun xs H Q => (∃ x n, xs = [x] ∧ LenV K x H n ∧ (n ≤ 16777216 → Q (.int n) H)) ∨ ∃ a kvs, xs = [.ref a] ∧ H a = some (.dK kvs) ∧ Q (.int kvs.length) H
theorem call_lenX : CallR X (.builtin "len") (rLenD X.K) := by
  intro pins s σ H xs us Q I r h
  rcases h with ⟨x, n, rfl, e, q⟩ | h
  · refine call_len pins s σ H _ us Q I r ⟨x, n, rfl, e, q ?_⟩
    have hs : sizeLine = 16777216 := sizeLine_eq
    cases x with
    | str y => obtain ⟨h1, h2⟩ : y.length ≤ sizeLine ∧ n = y.length := e; omega
    | byt y => obtain ⟨h1, h2⟩ : y.size ≤ sizeLine ∧ n = y.size := e; omega
    | ref p =>
      rcases e with ⟨xs, hS, rfl⟩ | ⟨xs, hS, rfl⟩
      · obtain ⟨_, _, _, hz⟩ := I.list hS; omega
      · obtain ⟨_, _, _, hz⟩ := I.tuple hS; omega
    | _ => exact e.elim
  · exact call_lenD pins s σ H _ us Q I r h
def rIntD : List V → Hp → VK → Prop := fun xs H Q => match xs with
  | [.int i] => Q (.int i) H
  | _ => False
theorem call_intD : CallR X (.type "int") rIntD := by
  intro pins s σ H xs us Q I r h
  match xs, h with
  | [.int i], h => exact call_int1 pins s σ H _ us Q I r (.inl ⟨i, rfl, h⟩)
def rListD (K : PySem.W.Frag) : List V → Hp → VK → Prop := fun xs H Q => ∃ p ys, xs = [.ref p] ∧ (SqL K H p ys ∨ SqT K H p ys) ∧ ∀ l, H l = none → Q (.ref l) (upd H l (.lst ys))
theorem call_listD : CallR X (.type "list") (rListD X.K) := call_list_of
def rTupleD (K : PySem.W.Frag) : List V → Hp → VK → Prop := fun xs H Q => ∃ p ys, xs = [.ref p] ∧ ((SqL K H p ys ∧ ∀ l, H l = none → Q (.ref l) (upd H l (.tup ys))) ∨ (SqT K H p ys ∧ Q (.ref p) H))
theorem call_tupleD : CallR X (.type "tuple") (rTupleD X.K) := call_tuple_of
def rStrD : List V → Hp → VK → Prop := fun xs H Q => match xs with
  | [.int i] => i.natAbs.log2 < 1920 ∧ Q (.str (toString i)) H
  | _ => False
theorem call_strD : CallR X (.type "str") rStrD := by
  intro pins s σ H xs us Q I r h
  match xs, h with
  | [.int i], h => exact call_str_int pins s σ H _ us Q I r ⟨i, rfl, h.1, h.2⟩
def rMinD (K : PySem.W.Frag) : List V → Hp → VK → Prop := fun xs H Q => match xs with
  | [.int i, .int j] => Q (.int (if j < i then j else i)) H
  | xs => rMin K xs H Q
theorem call_minD (hc : X.calm = true) : CallR X (.builtin "min") (rMinD X.K) := by
  intro pins s σ H xs us Q I r h
  unfold rMinD at h
  split at h
  · exact call_min2 hc pins s σ H _ us Q I r ⟨_, _, rfl, h⟩
  · exact cr_min hc pins s σ H _ us Q I r h
def rMaxD (K : PySem.W.Frag) : List V → Hp → VK → Prop := fun xs H Q => match xs with
  | [.int i, .int j] => Q (.int (if j > i then j else i)) H
  | xs => rMax K xs H Q
theorem call_maxD (hc : X.calm = true) : CallR X (.builtin "max") (rMaxD X.K) := by
  intro pins s σ H xs us Q I r h
  unfold rMaxD at h
  split at h
  · exact call_max2 hc pins s σ H _ us Q I r ⟨_, _, rfl, h⟩
  · exact cr_max hc pins s σ H _ us Q I r h
theorem call_isiD : CallR X (.builtin "isinstance") (rIsi X.K) := call_isi
def rExtendD (K : PySem.W.Frag) : V → List V → Hp → VK → Prop := fun x vs H Q => rExtend x vs H Q ∨
  ∃ l b xs zs, x = .ref l ∧ vs = [.ref b] ∧ H l = some (.lst xs) ∧ SqT K H b zs ∧ xs.length + zs.length ≤ sizeLine ∧ Q .non (upd H l (.lst (xs ++ zs)))
theorem mt_extendM : MtM X "list.extend" (rExtendD X.K) := by
  intro pins s σ H x vs v us Q I rx rv h
  rcases h with h | h
  · exact mt_extend pins s σ H x vs v us Q I rx rv h
  obtain ⟨l, b, xs, zs, rfl, rfl, hH, hB, hz, q⟩ := h
  cases rx
  obtain ⟨u, rfl, ru⟩ := rv.one
  cases ru
  obtain ⟨z, its, n, r, hl, e⟩ := I.lstM hH
  obtain ⟨its2, r2, ⟨⟨cls, dd, data, sl⟩, e2, hc, n2, hd⟩, hz2⟩ := I.tuple hB
  simp only at hc hd
  subst hc hd
  have hl2 := r2.length
  have hsz : its.toArray.size + its2.toArray.size ≤ sizeLine := by rw [List.size_toArray, List.size_toArray]; omega
  have hlong : ¬ (!its.toArray.isEmpty && Builtin.List.listTooLong (its.toArray.size + its2.toArray.size)) = true := by
    rw [notLongL hsz, Bool.and_false]
    exact Bool.false_ne_true
  refine call_meets F.slot_list_extend ⟨_, e, rfl⟩ F.entry_list_extend (F.args_list_extend_2 _ _)
    (q_extend_tuple l its.toArray n b its2.toArray n2 dd sl hlong (by rw [List.size_toArray]; omega) (by omega)) ⟨e, e2, ?_⟩
  refine ⟨.non, _, I.lset (its' := its ++ its2) hH e (by simp) (r.append r2) ?_, rfl, q⟩
  rw [List.length_append]
  omega
/-! ### tests, loops, targets -/
def tTru (K : PySem.W.Frag) (ta : TE) : TT := fun σ H Q => ta σ H fun x H' => ∃ k, TruV K x H' k ∧ Q k H'
theorem pt_truthD {a : Expr} {ta : TE} (ha : PE X a ta) (he : ∀ whole, isTrue a X.env whole = (do let v ← whole; standAt a.pos; holding [v] (truthy v))) : PT X a (tTru X.K ta) := pt_truth ha he
def iSeq (K : PySem.W.Frag) (tl : TE) : TI := fun σ H R => tl σ H fun x H1 => ∃ a, x = .ref a ∧ (((∃ xs, SqL K H1 a xs) ∧ R (Itl K a) H1) ∨ ((∃ xs, SqT K H1 a xs) ∧ R (Itt K a) H1))
theorem pe_only {e : Expr} {te : TE} (h : PE X e te) (k : V → Hp → VK → Prop) : True := trivial
theorem pi_seq {tg l : Expr} {tl : TE} (hl : PE X l tl) : PI X tg l (iSeq X.K tl) := by
  refine ⟨fun pins s σ H R I h => ?_⟩
  refine thn (hl.run pins s σ H _ I h) fun v s1 ⟨x, H1, I1, r1, q1⟩ => ?_
  obtain ⟨a, e, q⟩ := q1
  subst e
  rcases q with ⟨hq, q⟩ | ⟨hq, q⟩
  · cases r1
    obtain ⟨xs, hq⟩ := hq
    obtain ⟨its, rv, p, hz⟩ := I1.list hq
    refine wpAny_pyIter_list p.isList ?_
    refine ⟨s1.heap.objs.size, [s1.heap.objs.size], _, _, H1, rfl, I1.kept (t' := s1.toks) fun b o e => Heap.get?_push_of_some _ e, turn_list a _, ⟨_, Heap.get?_push_size _ rfl, rfl, rfl⟩, fun b hb => ?_, q⟩
    have e : b = s1.heap.objs.size := by simpa using hb
    subst e
    exact I1.fpOk (Nat.le_refl _) (I1.hok.fresh (Nat.le_refl _))
  · cases r1
    obtain ⟨xs, hq⟩ := hq
    obtain ⟨its, rv, p, hz⟩ := I1.tuple hq
    refine wpAny_pyIter_tuple (show s1.heap.IsTuple a its.toArray from p) ?_
    refine ⟨s1.heap.objs.size, [s1.heap.objs.size], _, _, H1, rfl, I1.kept (t' := s1.toks) fun b o e => Heap.get?_push_of_some _ e, turn_tuple a _, ⟨_, Heap.get?_push_size _ rfl, rfl, rfl⟩, fun b hb => ?_, q⟩
    have e : b = s1.heap.objs.size := by simpa using hb
    subst e
    exact I1.fpOk (Nat.le_refl _) (I1.hok.fresh (Nat.le_refl _))
theorem gn (i : Nat) {x : Str} {pos : Pos} (nd : X.N.Nodup) (hN : X.N[i]? = some x := by rfl) (hx : Loc X.env.scope x := by first | exact Or.inl rfl | exact Or.inr rfl)
    (hf : X.fn x = true ∨ X.env.scope.names.lookup x = some .local := by first | exact .inl rfl | exact .inr rfl | assumption) : PG X (.Name x pos) (gName i) := pg_name nd hN hx hf
theorem sset (i : Nat) {x : Str} {e : Expr} {te : TE} {pos pos' : Pos} (nd : X.N.Nodup) (he : PE X e te) (hN : X.N[i]? = some x := by rfl) (hx : Loc X.env.scope x := by first | exact Or.inl rfl | exact Or.inr rfl)
    (hs : swapsWith e (some (.Name x pos')) pos.line X.env = pure false := by rfl) (hf : X.fn x = true ∨ X.env.scope.names.lookup x = some .local := by first | exact .inl rfl | exact .inr rfl | assumption) :
    PS X (.Assign [.Name x pos'] e pos) (tAsg te (gName i)) := ps_set nd hN hx he hs hf
theorem bt_len : bootBuiltins "len" = some (.builtin "len") := by decide +kernel
theorem bt_isinstance : bootBuiltins "isinstance" = some (.builtin "isinstance") := by decide +kernel
theorem bt_min : bootBuiltins "min" = some (.builtin "min") := by decide +kernel
theorem bt_max : bootBuiltins "max" = some (.builtin "max") := by decide +kernel
theorem bt_sum : bootBuiltins "sum" = some (.builtin "sum") := by decide +kernel
theorem bt_any : bootBuiltins "any" = some (.builtin "any") := by decide +kernel
theorem bt_all : bootBuiltins "all" = some (.builtin "all") := by decide +kernel
theorem bt_sorted : bootBuiltins "sorted" = some (.builtin "sorted") := by decide +kernel
theorem bt_int : bootBuiltins "int" = some (.type "int") := by decide +kernel
theorem bt_str : bootBuiltins "str" = some (.type "str") := by decide +kernel
theorem bt_bool : bootBuiltins "bool" = some (.type "bool") := by decide +kernel
theorem bt_list : bootBuiltins "list" = some (.type "list") := by decide +kernel
theorem bt_tuple : bootBuiltins "tuple" = some (.type "tuple") := by decide +kernel
theorem bt_dict : bootBuiltins "dict" = some (.type "dict") := by decide +kernel
theorem bt_set : bootBuiltins "set" = some (.type "set") := by decide +kernel
theorem bt_ValueError : bootBuiltins "ValueError" = some (.type "ValueError") := by decide +kernel

def gUnp (K : PySem.W.Frag) (n : Nat) (t : TGs) : TG := fun v σ H Q => gTup K n t v σ H Q ∨ gLst K n t v σ H Q
theorem pg_unp {pos : Pos} {es : List Expr} {k : Nat} {t : TGs} {n : Nat} (hc : X.calm = true) (h : PGs X es t)
    (hn : (assignEach es X.env).length = n := by rfl) (hst : (assignEach es X.env).findIdx? (·.1) = none := by rfl) : PG X (.Tuple es k pos) (gUnp X.K n t) := by
  refine ⟨fun pins s σ H v u Q I r hw => ?_⟩
  rcases hw with hw | hw
  · exact (pg_tup hc h hn hst).run pins s σ H v u Q I r hw
  · exact (pg_lst hc h hn hst).run pins s σ H v u Q I r hw
end
/-! ### step by step -/
section
variable {K : PySem.W.Frag} {D : Ends} {σ : St} {H : Hp} {Q : VK} {R : Bool → Hp → Prop} {S : List V → Hp → Prop} {te ta tb : TE} {tt tu : TT} {t u : TS} {i j : Int} {v x y : V} {n : Nat}
theorem w_seq (h : t { D with nx := u D } σ H) : tSeq t u D σ H := h
theorem w_next (h : D.nx σ H) : tNext D σ H := h
theorem w_asg {g : TG} (h : te σ H fun x H1 => g x σ H1 D.nx) : tAsg te g D σ H := h
theorem w_gname {N : St → Hp → Prop} (h : N (σ.set n (some v)) H) : gName n v σ H N := h
theorem w_gsub {to ti : TE} {ts : TSet} {N : St → Hp → Prop} (h : to σ H fun o H1 => ti σ H1 fun i H2 => ts o i v H2 fun H3 => N σ H3) : gSub to ti ts v σ H N := h
theorem w_drop (h : te σ H fun _ H1 => D.nx σ H1) : tDrop te D σ H := h
theorem w_ret (h : te σ H D.rt) : tRet te D σ H := h
theorem w_retN (h : D.rt .non H) : tRetN D σ H := h
theorem w_ifs (h : tt σ H fun b H1 => if b = true then t D σ H1 else u D σ H1) : tIfS tt t u D σ H := h
theorem w_var (e : σ[n]? = some (some v)) (h : Q v H) : tVar n σ H Q := ⟨v, e, h⟩
theorem w_c (h : Q v H) : tC v σ H Q := h
theorem w_op {r : R2} (h : ta σ H fun x H1 => tb σ H1 fun y H2 => r x y H2 Q) : tOp r ta tb σ H Q := h
theorem w_un {r : V → Hp → VK → Prop} (h : ta σ H fun x H1 => r x H1 Q) : tUn r ta σ H Q := h
theorem w_neg (h : Q (.int (-i)) H) : rNeg (.int i) H Q := ⟨i, rfl, h⟩
theorem w_test (h : te σ H fun x H' => ∃ k, x = .bl k ∧ R k H') : tTest te σ H R := h
theorem w_tB (h : te σ H fun x H' => ∃ k, x = .bl k ∧ R k H') : tB te σ H R := h
theorem w_tru (h : te σ H fun x H' => ∃ k, TruV K x H' k ∧ R k H') : tTru K te σ H R := h
theorem w_trub {b : Bool} {F : Bool → Prop} (h : F b) : ∃ k, TruV K (.bl b) H k ∧ F k := ⟨b, rfl, h⟩
theorem w_bl {b : Bool} {F : Bool → Prop} (h : F b) : ∃ k, V.bl b = .bl k ∧ F k := ⟨b, rfl, h⟩
theorem w_and (h : tt σ H fun c H1 => if c = true then tu σ H1 R else R false H1) : tAnd tt tu σ H R := h
theorem w_or (h : tt σ H fun c H1 => if c = true then R true H1 else tu σ H1 R) : tOr tt tu σ H R := h
theorem w_not (h : tt σ H fun c H1 => R (!c) H1) : tNot tt σ H R := h
theorem w_andV (h : ta σ H fun x H1 => ∃ c, x = .bl c ∧ if c = true then tb σ H1 Q else Q (.bl false) H1) : tAndV ta tb σ H Q := h
theorem w_orV (h : ta σ H fun x H1 => ∃ c, x = .bl c ∧ if c = true then Q (.bl true) H1 else tb σ H1 Q) : tOrV ta tb σ H Q := h
theorem w_notV (h : ta σ H fun x H1 => ∃ c, x = .bl c ∧ Q (.bl (!c)) H1) : tNotV ta σ H Q := h
theorem w_ifE (h : tt σ H fun c H1 => if c = true then ta σ H1 Q else tb σ H1 Q) : tIf tt ta tb σ H Q := h
theorem w_nil (h : S [] H) : tNil σ H S := h
theorem w_cons {tr : TA} (h : ta σ H fun x H1 => tr σ H1 fun xs H2 => S (x :: xs) H2) : tCons ta tr σ H S := h
theorem w_tup {ts : TA} (h : ts σ H fun xs H1 => xs.length ≤ sizeLine ∧ ∀ p, H1 p = none → Q (.ref p) (upd H1 p (.tup xs))) : tTup ts σ H Q := h
theorem w_lst {ts : TA} (h : ts σ H fun xs H1 => xs.length ≤ sizeLine ∧ ∀ p, H1 p = none → Q (.ref p) (upd H1 p (.lst xs))) : tLst ts σ H Q := h
theorem w_cb {r : List V → Hp → VK → Prop} {ts : TA} (h : ts σ H fun vs H1 => r vs H1 Q) : tCB r ts σ H Q := h
theorem w_call {sp : Sp} {E : XK} {ts : TA} (h : ts σ H fun vs H1 => sp vs H1 Q E) : tCall sp [] E ts σ H Q := by
  have e : (fun (vs : List V) (H1 : Hp) => sp (vs ++ []) H1 Q E) = fun vs H1 => sp vs H1 Q E := by funext vs H1; rw [List.append_nil]
  show ts σ H fun vs H1 => sp (vs ++ []) H1 Q E
  rw [e]; exact h
theorem w_sl {r : V → Option Int → Option Int → Hp → VK → Prop} {tl th : TO} (h : te σ H fun x H1 => tl σ H1 fun l H2 => th σ H2 fun u H3 => r x l u H3 Q) : tSl r te tl th σ H Q := h
theorem w_nopart {N : Option Int → Hp → Prop} (h : N none H) : tNoPart σ H N := h
theorem w_part {N : Option Int → Hp → Prop} (h : te σ H fun x H1 => ∃ i, x = .int i ∧ N (some i) H1) : tPart te σ H N := h
theorem w_pint {F : Int → Prop} (h : F i) : ∃ k, V.int i = .int k ∧ F k := ⟨i, rfl, h⟩
theorem w_bm {T : String} {r : V → List V → Hp → VK → Prop} {ts : TA} (h : te σ H fun x H1 => tyV K T x H1 ∧ ts σ H1 fun xs H2 => r x xs H2 Q) : tBM K T r te ts σ H Q := h
theorem w_bm0 {T : String} {r : V → List V → Hp → VK → Prop} (h : te σ H fun x H1 => tyV K T x H1 ∧ r x [] H1 Q) : tBM0 K T r te σ H Q := h
theorem w_addI (h : Q (.int (i + j)) H) : rAddD K (.int i) (.int j) H Q := h
theorem w_subI (h : Q (.int (i - j)) H) : rSubD (.int i) (.int j) H Q := h
theorem w_mulI (c : CMul i j) (h : Q (.int (i * j)) H) : rMulD (.int i) (.int j) H Q := ⟨c, h⟩
theorem w_mulR (c : -(2 ^ 64) < j ∧ j < 2 ^ 64) (h : Q (.int (i * j)) H) : rMulD (.int i) (.int j) H Q := ⟨.inr c, h⟩
theorem w_modI (c : 0 < j) (h : Q (.int (i % j)) H) : rModD (.int i) (.int j) H Q := ⟨c, h⟩
theorem w_fdivI (c : 0 < j ∧ j < 1073741824) (h : Q (.int (i / j)) H) : rFdivD (.int i) (.int j) H Q := ⟨c, h⟩
theorem w_powI (c : CPow i j) (h : Q (.int (i ^ j.toNat)) H) : rPowD (.int i) (.int j) H Q := ⟨c, h⟩
theorem w_ltI (h : Q (.bl (decide (i < j))) H) : rLtD (.int i) (.int j) H Q := h
theorem w_leI (h : Q (.bl (decide (i ≤ j))) H) : rLeD (.int i) (.int j) H Q := h
theorem w_gtI (h : Q (.bl (decide (j < i))) H) : rGtD (.int i) (.int j) H Q := h
theorem w_geI (h : Q (.bl (decide (j ≤ i))) H) : rGeD (.int i) (.int j) H Q := h
theorem w_eqI (h : Q (.bl (decide (i = j))) H) : rEqX K (.int i) (.int j) H Q := .inl ⟨rfl, by
  have e : decide (V.int i = V.int j) = decide (i = j) := by simp
  rw [e]; exact h⟩
theorem w_neI (h : Q (.bl (!decide (i = j))) H) : rNeX K (.int i) (.int j) H Q := .inl ⟨rfl, by
  have e : decide (V.int i = V.int j) = decide (i = j) := by simp
  rw [e]; exact h⟩
theorem w_eqS {i j : Str} (h : Q (.bl (decide (i = j))) H) : rEqX K (.str i) (.str j) H Q := .inl ⟨rfl, by
  have e : decide (V.str i = V.str j) = decide (i = j) := by simp
  rw [e]; exact h⟩
theorem w_eqB {i j : Bool} (h : Q (.bl (decide (i = j))) H) : rEqX K (.bl i) (.bl j) H Q := .inl ⟨rfl, by
  have e : decide (V.bl i = V.bl j) = decide (i = j) := by simp
  rw [e]; exact h⟩
theorem w_neS {i j : Str} (h : Q (.bl (!decide (i = j))) H) : rNeX K (.str i) (.str j) H Q := .inl ⟨rfl, by
  have e : decide (V.str i = V.str j) = decide (i = j) := by simp
  rw [e]; exact h⟩
theorem w_intI (h : Q (.int i) H) : rIntD [.int i] H Q := h
theorem w_isN (h : Q (.bl (decide (x = .non))) H) : rIsD x .non H Q := ⟨rfl, h⟩
theorem w_isnotN (h : Q (.bl (!decide (x = .non))) H) : rIsnotD x .non H Q := ⟨rfl, h⟩
theorem w_ite {c : Prop} {_ : Decidable c} {A B : Prop} (h1 : c → A) (h2 : ¬ c → B) : if decide c = true then A else B := by
  by_cases h : c
  · rw [if_pos (decide_eq_true h)]; exact h1 h
  · rw [if_neg (by simpa using h)]; exact h2 h
theorem w_iteN {c : Prop} {_ : Decidable c} {A B : Prop} (h1 : ¬ c → A) (h2 : c → B) : if (!decide c) = true then A else B := by
  by_cases h : c
  · rw [if_neg (by simpa using h)]; exact h2 h
  · rw [if_pos (by simpa using h)]; exact h1 h
theorem w_T {c : Prop} {_ : Decidable c} {A B : Prop} (hc : c) (h : A) : if decide c = true then A else B := by
  rw [if_pos (decide_eq_true hc)]; exact h
theorem w_F {c : Prop} {_ : Decidable c} {A B : Prop} (hc : ¬ c) (h : B) : if decide c = true then A else B := by
  rw [if_neg (by simpa using hc)]; exact h
theorem w_NT {c : Prop} {_ : Decidable c} {A B : Prop} (hc : ¬ c) (h : A) : if (!decide c) = true then A else B := by
  rw [if_pos (by simpa using hc)]; exact h
theorem w_NF {c : Prop} {_ : Decidable c} {A B : Prop} (hc : c) (h : B) : if (!decide c) = true then A else B := by
  rw [if_neg (by simpa using hc)]; exact h
theorem w_tt {A B : Prop} (h : A) : if true = true then A else B := by rw [if_pos rfl]; exact h
theorem w_ff {A B : Prop} (h : B) : if false = true then A else B := by rw [if_neg Bool.false_ne_true]; exact h
theorem w_ntt {A B : Prop} (h : A) : if (!false) = true then A else B := by rw [if_pos (by decide)]; exact h
theorem w_nff {A B : Prop} (h : B) : if (!true) = true then A else B := by rw [if_neg (by decide)]; exact h
/-! places -/
variable {p : Addr} {xs ys : List V}
theorem w_ixL (hp : H p = some (.lst xs)) (e : atI xs i = some v) (h : Q v H) : rIxD K (.ref p) (.int i) H Q := .inl (.inl ⟨p, xs, i, v, rfl, rfl, SqL.of hp, e, h⟩)
theorem w_ixT (hp : SqT K H p xs) (e : atI xs i = some v) (h : Q v H) : rIxD K (.ref p) (.int i) H Q := .inl (.inr (.inl ⟨p, xs, i, v, rfl, rfl, hp, e, h⟩))
theorem w_setL {N : Hp → Prop} {k : Nat} (hp : H p = some (.lst xs)) (e : ixN xs.length i = some k) (h : N (upd H p (.lst (xs.set k v)))) : rSetD (.ref p) (.int i) v H N := .inl ⟨p, xs, i, k, rfl, rfl, hp, e, h⟩
theorem w_lenL (hp : H p = some (.lst xs)) (h : xs.length ≤ 16777216 → Q (.int (xs.length : Int)) H) : rLenD K [.ref p] H Q := .inl ⟨_, xs.length, rfl, .inl ⟨xs, SqL.of hp, rfl⟩, h⟩
theorem w_lenT (hp : SqT K H p xs) (h : xs.length ≤ 16777216 → Q (.int (xs.length : Int)) H) : rLenD K [.ref p] H Q := .inl ⟨_, xs.length, rfl, .inr ⟨xs, hp, rfl⟩, h⟩
theorem w_ixS {z : Str} {c : Nat} (hz : z.length ≤ sizeLine) (e : atI z.cps.toList i = some c) (h : Q (.str ⟨#[c]⟩) H) : rIxD K (.str z) (.int i) H Q := .inl (.inr (.inr ⟨z, i, c, rfl, rfl, hz, e, h⟩))
theorem w_addS {a b : Str} (hz : a.length + b.length ≤ sizeLine) (h : Q (.str (a ++ b)) H) : rAddD K (.str a) (.str b) H Q := ⟨hz, h⟩
theorem w_slS {z : Str} {lo hi : Option Int} (hz : z.length ≤ sizeLine) (h : Q (.str (cutS z lo hi)) H) : rSlX K (.str z) lo hi H Q := .inr (.inr ⟨z, rfl, hz, h⟩)
theorem w_strI (c : i.natAbs.log2 < 1920) (h : Q (.str (toString i)) H) : rStrD [.int i] H Q := ⟨c, h⟩
theorem w_lenS {z : Str} (hz : z.length ≤ sizeLine) (h : z.length ≤ 16777216 → Q (.int (z.length : Int)) H) : rLenD K [.str z] H Q := .inl ⟨_, z.length, rfl, ⟨hz, rfl⟩, h⟩
theorem w_cat {q : Addr} (hp : H p = some (.lst xs)) (hq : H q = some (.lst ys)) (hl : xs.length + ys.length ≤ sizeLine) (h : ∀ r, H r = none → Q (.ref r) (upd H r (.lst (xs ++ ys)))) : rAddD K (.ref p) (.ref q) H Q :=
  .inl ⟨p, q, xs, ys, rfl, rfl, hp, hq, hl, h⟩
theorem w_append (hp : H p = some (.lst xs)) (hl : xs.length < sizeLine) (h : Q .non (upd H p (.lst (xs ++ [v])))) : tyV K "list" (.ref p) H ∧ rAppend (.ref p) [v] H Q :=
  ⟨Or.inl ⟨rfl, _, SqL.of hp⟩, p, xs, v, rfl, rfl, hp, hl, h⟩
theorem w_app (hp : H p = some (.lst xs)) (hl : xs.length < sizeLine) (h : Q .non (upd H p (.lst (xs ++ [v])))) : rAppend (.ref p) [v] H Q := ⟨p, xs, v, rfl, rfl, hp, hl, h⟩
theorem tyL (hp : H p = some (.lst xs)) : tyV K "list" (.ref p) H := Or.inl ⟨rfl, _, SqL.of hp⟩
theorem w_unpL {n : Nat} {ts : TGs} {N : St → Hp → Prop} (hp : H p = some (.lst xs)) (e : xs.length = n) (h : ts xs σ H N) : gUnp K n ts (.ref p) σ H N := .inr ⟨p, xs, rfl, SqL.of hp, e, h⟩
theorem w_unpT {n : Nat} {ts : TGs} {N : St → Hp → Prop} (hp : SqT K H p xs) (e : xs.length = n) (h : ts xs σ H N) : gUnp K n ts (.ref p) σ H N := .inl ⟨p, xs, rfl, hp, e, h⟩
theorem w_gcons {g : TG} {ts : TGs} {N : St → Hp → Prop} (h : g x σ H fun σ' H' => ts xs σ' H' N) : gCons g ts (x :: xs) σ H N := ⟨x, xs, rfl, h⟩
theorem w_gnil {N : St → Hp → Prop} (h : N σ H) : gNil [] σ H N := ⟨rfl, h⟩
theorem w_min2 (h : Q (.int (if j < i then j else i)) H) : rMinD K [.int i, .int j] H Q := h
theorem w_max2 (h : Q (.int (if j > i then j else i)) H) : rMaxD K [.int i, .int j] H Q := h
theorem w_listL (hp : H p = some (.lst xs)) (h : ∀ l, H l = none → Q (.ref l) (upd H l (.lst xs))) : rListD K [.ref p] H Q := ⟨p, xs, rfl, .inl (SqL.of hp), h⟩
theorem w_slL {lo hi : Option Int} (hp : H p = some (.lst xs)) (h : ∀ l, H l = none → Q (.ref l) (upd H l (.lst (cutV xs lo hi)))) : rSlX K (.ref p) lo hi H Q := .inl ⟨p, xs, rfl, SqL.of hp, h⟩
end

/-! ### loops -/
def LoopR (J : It) (g : TG) (tb : TS) (D : Ends) (σ : St) (H : Hp) : Prop := ∃ W : Nat → Nat → St → Hp → Prop, (∃ m, W 0 m σ H) ∧ ∀ i m σ H, W i m σ H →
  (J.stop i H ∧ D.nx σ H) ∨ (J.go i H ∧ ∃ N : St → Hp → Prop, (∀ σ' H', N σ' H' → ∃ m', m' < m ∧ W (i + 1) m' σ' H') ∧ ∀ x H', J.yld i H x H' → g x σ H' fun σ2 H2 => tb { D with nx := N, ct := N, bk := D.nx } σ2 H2)
section
variable {K : PySem.W.Frag} {D : Ends} {σ : St} {H : Hp} {Q : VK} {wi : TI} {g : TG} {tb : TS} {te : TE} {R : It → Hp → Prop}
theorem w_for (h : wi σ H fun J H1 => LoopR J g tb D σ H1) : tFor wi g tb D σ H := h
theorem w_rng1 {ta : TA} (h : ta σ H fun vs H1 => ∃ j : Int, vs = [.int j] ∧ -(2 ^ 62) ≤ j ∧ j < 2 ^ 62 ∧ R (Itr 0 j.toNat) H1) : iRng1 ta σ H R := h
theorem w_rng2 {ta : TA} (h : ta σ H fun vs H1 => ∃ i j : Int, vs = [.int i, .int j] ∧ (-(2 ^ 62) ≤ i ∧ i < 2 ^ 62 ∧ -(2 ^ 62) ≤ j ∧ j < 2 ^ 62) ∧ R (Itr i (j - i).toNat) H1) : iRng2 ta σ H R := h
theorem w_rI {n : Int} {F : Int → Prop} (c : -(2 ^ 62) ≤ n ∧ n < 2 ^ 62) (h : F n) : ∃ j : Int, [V.int n] = [.int j] ∧ -(2 ^ 62) ≤ j ∧ j < 2 ^ 62 ∧ F j := ⟨n, rfl, c.1, c.2, h⟩
theorem w_rI2 {n m : Int} {F : Int → Int → Prop} (c : -(2 ^ 62) ≤ n ∧ n < 2 ^ 62 ∧ -(2 ^ 62) ≤ m ∧ m < 2 ^ 62) (h : F n m) : ∃ i j : Int, [V.int n, V.int m] = [.int i, .int j] ∧ (-(2 ^ 62) ≤ i ∧ i < 2 ^ 62 ∧ -(2 ^ 62) ≤ j ∧ j < 2 ^ 62) ∧ F i j := ⟨n, m, rfl, c, h⟩
theorem w_iseq (h : te σ H fun x H1 => ∃ a, x = .ref a ∧ (((∃ xs, SqL K H1 a xs) ∧ R (Itl K a) H1) ∨ ((∃ xs, SqT K H1 a xs) ∧ R (Itt K a) H1))) : iSeq K te σ H R := h
theorem w_seqL {a : Addr} {xs : List V} {F G : Addr → Prop} (hp : H a = some (.lst xs)) (h : F a) : ∃ b, V.ref a = .ref b ∧ (((∃ xs, SqL K H b xs) ∧ F b) ∨ ((∃ xs, SqT K H b xs) ∧ G b)) := ⟨a, rfl, .inl ⟨⟨xs, SqL.of hp⟩, h⟩⟩
theorem w_seqT {a : Addr} {xs : List V} {F G : Addr → Prop} (hp : SqT K H a xs) (h : G a) : ∃ b, V.ref a = .ref b ∧ (((∃ xs, SqL K H b xs) ∧ F b) ∨ ((∃ xs, SqT K H b xs) ∧ G b)) := ⟨a, rfl, .inr ⟨⟨xs, hp⟩, h⟩⟩
theorem w_revR {tr : St → Hp → (Int → Int → Hp → Prop) → Prop} (h : tr σ H fun a b H1 => -(2 ^ 62) ≤ a ∧ a < 2 ^ 62 ∧ -(2 ^ 62) ≤ b ∧ b < 2 ^ 62 ∧ R (Itc (a + (((b - a).toNat : Nat) : Int) - 1) (-1) (b - a).toNat) H1) : iRevR tr σ H R := h
theorem w_rg1 {N : Int → Int → Hp → Prop} (h : te σ H fun x H1 => ∃ n, x = .int n ∧ N 0 n H1) : tRg1 te σ H N := h
theorem loop_range {lo : Int} {n : Nat} (Pv : Nat → St → Hp → Prop) (h0 : Pv 0 σ H)
    (hs : ∀ i σ H, i < n → Pv i σ H → g (.int (lo + i)) σ H fun σ2 H2 => tb { D with nx := Pv (i + 1), ct := Pv (i + 1), bk := D.nx } σ2 H2) (hd : ∀ σ H, Pv n σ H → D.nx σ H) : LoopR (Itr lo n) g tb D σ H := for_range Pv h0 hs hd
theorem loop_rangeC {lo c : Int} {n : Nat} (Pv : Nat → St → Hp → Prop) (h0 : Pv 0 σ H)
    (hs : ∀ i σ H, i < n → Pv i σ H → g (.int (lo + (i : Nat) * c)) σ H fun σ2 H2 => tb { D with nx := Pv (i + 1), ct := Pv (i + 1), bk := D.nx } σ2 H2) (hd : ∀ σ H, Pv n σ H → D.nx σ H) : LoopR (Itc lo c n) g tb D σ H := for_rangeC Pv h0 hs hd
theorem loop_list {a : Addr} {xs : List V} (Pv : Nat → St → Hp → Prop) (h0 : Pv 0 σ H) (hl : ∀ i σ H, i ≤ xs.length → Pv i σ H → H a = some (.lst xs))
    (hs : ∀ i x σ H, xs[i]? = some x → Pv i σ H → g x σ H fun σ2 H2 => tb { D with nx := Pv (i + 1), ct := Pv (i + 1), bk := D.nx } σ2 H2) (hd : ∀ σ H, Pv xs.length σ H → D.nx σ H) : LoopR (Itl K a) g tb D σ H :=
  for_list Pv h0 (fun i σ H c p => SqL.of (hl i σ H c p)) hs hd
theorem loop_tup {a : Addr} {xs : List V} (Pv : Nat → St → Hp → Prop) (h0 : Pv 0 σ H) (hl : ∀ i σ H, i ≤ xs.length → Pv i σ H → SqT K H a xs)
    (hs : ∀ i x σ H, xs[i]? = some x → Pv i σ H → g x σ H fun σ2 H2 => tb { D with nx := Pv (i + 1), ct := Pv (i + 1), bk := D.nx } σ2 H2) (hd : ∀ σ H, Pv xs.length σ H → D.nx σ H) : LoopR (Itt K a) g tb D σ H :=
  for_tup Pv h0 hl hs hd
/-! comprehensions -/
def CompR (J : It) (g : TG) (tt : TT) (te : TE) (vs : List Nat) (Q : VK) (σ : St) (H1 : Hp) : Prop := ∀ E, H1 E = none → ∃ W : Nat → Nat → Hp → Prop, (∃ m, W 0 m (upd H1 E (.lst []))) ∧ ∀ i m H, W i m H →
  (J.stop i H ∧ Q (.ref E) H) ∨ (J.go i H ∧ ∃ Nx : Hp → Prop, (∀ H', Nx H' → ∃ m', m' < m ∧ W (i + 1) m' H') ∧ ∀ x H', J.yld i H x H' → g x (wipe σ vs) H' fun σ2 H2 => wipe σ2 vs = wipe σ vs ∧ tt σ2 H2 fun b H3 =>
    if b = true then te σ2 H3 fun y H4 => ∃ acc, H4 E = some (.lst acc) ∧ acc.length < sizeLine ∧ Nx (upd H4 E (.lst (acc ++ [y]))) else Nx H3)
theorem w_lc {tt : TT} {vs : List Nat} (h : wi σ H fun J H1 => CompR J g tt te vs Q σ H1) : tLc wi g tt te vs σ H Q := h
theorem comp_range {lo : Int} {n : Nat} {tt : TT} {vs : List Nat} (Pv : Addr → Nat → Hp → Prop) (h0 : ∀ E, H E = none → Pv E 0 (upd H E (.lst [])))
    (hs : ∀ E, H E = none → ∀ i H', i < n → Pv E i H' → g (.int (lo + i)) (wipe σ vs) H' fun σ2 H2 => wipe σ2 vs = wipe σ vs ∧ tt σ2 H2 fun b H3 =>
      if b = true then te σ2 H3 fun y H4 => ∃ acc, H4 E = some (.lst acc) ∧ acc.length < sizeLine ∧ Pv E (i + 1) (upd H4 E (.lst (acc ++ [y]))) else Pv E (i + 1) H3)
    (hd : ∀ E, H E = none → ∀ H', Pv E n H' → Q (.ref E) H') : CompR (Itr lo n) g tt te vs Q σ H := fun E hE => lc_range (Pv E) (h0 E hE) (hs E hE) (hd E hE)
theorem comp_list {a : Addr} {xs : List V} {tt : TT} {vs : List Nat} (Pv : Addr → Nat → Hp → Prop) (h0 : ∀ E, H E = none → Pv E 0 (upd H E (.lst []))) (hl : ∀ E, H E = none → ∀ i H', i ≤ xs.length → Pv E i H' → H' a = some (.lst xs))
    (hs : ∀ E, H E = none → ∀ i x H', xs[i]? = some x → Pv E i H' → g x (wipe σ vs) H' fun σ2 H2 => wipe σ2 vs = wipe σ vs ∧ tt σ2 H2 fun b H3 =>
      if b = true then te σ2 H3 fun y H4 => ∃ acc, H4 E = some (.lst acc) ∧ acc.length < sizeLine ∧ Pv E (i + 1) (upd H4 E (.lst (acc ++ [y]))) else Pv E (i + 1) H3)
    (hd : ∀ E, H E = none → ∀ H', Pv E xs.length H' → Q (.ref E) H') : CompR (Itl K a) g tt te vs Q σ H := fun E hE => lc_list (Pv E) (h0 E hE) (fun i H' c p => SqL.of (hl E hE i H' c p)) (hs E hE) (hd E hE)
theorem comp_tup {a : Addr} {xs : List V} {tt : TT} {vs : List Nat} (Pv : Addr → Nat → Hp → Prop) (h0 : ∀ E, H E = none → Pv E 0 (upd H E (.lst []))) (hl : ∀ E, H E = none → ∀ i H', i ≤ xs.length → Pv E i H' → SqT K H' a xs)
    (hs : ∀ E, H E = none → ∀ i x H', xs[i]? = some x → Pv E i H' → g x (wipe σ vs) H' fun σ2 H2 => wipe σ2 vs = wipe σ vs ∧ tt σ2 H2 fun b H3 =>
      if b = true then te σ2 H3 fun y H4 => ∃ acc, H4 E = some (.lst acc) ∧ acc.length < sizeLine ∧ Pv E (i + 1) (upd H4 E (.lst (acc ++ [y]))) else Pv E (i + 1) H3)
    (hd : ∀ E, H E = none → ∀ H', Pv E xs.length H' → Q (.ref E) H') : CompR (Itt K a) g tt te vs Q σ H := fun E hE => lc_tup (Pv E) (h0 E hE) (hl E hE) (hs E hE) (hd E hE)
theorem w_yes {R : Bool → Hp → Prop} (h : R true H) : tYes σ H R := h
end
end Q


namespace Q
open PySem L2
/-! ### what is kept -/
structure Kp (ps : Addr → Prop) (H H' : Hp) : Prop where
  get : ∀ b o, ¬ ps b → H b = some o → H' b = some o
  dom : ∀ b, H' b = none → H b = none
section
variable {ps qs : Addr → Prop} {H H1 H2 : Hp} {p : Addr} {o : HO}
theorem upd_none {b : Addr} (h : upd H p o b = none) : H b = none ∧ b ≠ p := by
  by_cases e : b = p
  · subst e; rw [upd_same] at h; cases h
  · rw [upd_ne e] at h; exact ⟨h, e⟩
theorem Kp.refl : Kp ps H H := ⟨fun _ _ _ h => h, fun _ h => h⟩
theorem Kp.trans (a : Kp ps H H1) (b : Kp ps H1 H2) : Kp ps H H2 := ⟨fun c o n h => b.get c o n (a.get c o n h), fun c h => a.dom c (b.dom c h)⟩
theorem Kp.new (h : H p = none) : Kp ps H (upd H p o) := ⟨fun b u _ e => by rw [upd_ne (ne_of_none e h)]; exact e, fun b e => (upd_none e).1⟩
theorem Kp.mut (h : ps p) : Kp ps H (upd H p o) := ⟨fun b u n e => by
  have hb : b ≠ p := fun z => by subst z; exact n h
  rw [upd_ne hb]; exact e, fun b e => (upd_none e).1⟩
theorem Kp.more (a : Kp ps H H1) (h : ∀ x, ps x → qs x) : Kp qs H H1 := ⟨fun b u n e => a.get b u (fun z => n (h b z)) e, a.dom⟩
/-- an object that was made since may change -/
theorem Kp.loc (a : Kp ps H H1) (h : ps p ∨ H p = none) : Kp ps H (upd H1 p o) := ⟨fun b u n e => by
  have hb : b ≠ p := fun z => by
    subst z
    rcases h with h | h
    · exact n h
    · rw [h] at e; cases e
  rw [upd_ne hb]; exact a.get b u n e, fun b e => a.dom b (upd_none e).1⟩
end
/-! ### data -/
/-- plain data; lst: a list that stays; mls: a list that one slot alone has; rol: a list that is read only; al: what slot i has -/
inductive D where
  | non | bl (b : Bool) | int (i : Int) | str (s : Str) | cst (v : V)
  | tup (ds : List D) | lst (ds : List D) | rol (ds : List D) | mls (ds : List D) | al (i : Nat)
structure Xc where
  cls : Str
  fs : List (Str × D)
def TupAt (K : PySem.W.Frag) (ps : Addr → Prop) (H : Hp) (a : Addr) (xs : List V) : Prop :=
  (H a = some (.tup xs) ∧ ¬ ps a) ∨ ∃ (o : Obj) (its : Array Value) (n : Nat), K.lookup a = some o ∧ o.cls = .type "tuple" ∧ o.data = .seq its n ∧ its.size ≤ sizeLine ∧ Vals xs its.toList
theorem TupAt.sq {K : PySem.W.Frag} {ps : Addr → Prop} {H : Hp} {a : Addr} {xs : List V} (h : TupAt K ps H a xs) : SqT K H a xs := by
  rcases h with ⟨h, _⟩ | h
  · exact .inl (.inl h)
  · exact .inr h
/-- a list that is read only: locked or written -/
def RolAt (K : PySem.W.Frag) (ps : Addr → Prop) (H : Hp) (a : Addr) (xs : List V) : Prop :=
  (Rd H a (.lst xs) ∧ ¬ ps a) ∨ ∃ (o : Obj) (its : Array Value) (n : Nat), K.lookup a = some o ∧ o.cls = .type "list" ∧ o.dict = none ∧ o.data = .seq its n ∧ its.size ≤ sizeLine ∧ Vals xs its.toList
theorem RolAt.sq {K : PySem.W.Frag} {ps : Addr → Prop} {H : Hp} {a : Addr} {xs : List V} (h : RolAt K ps H a xs) : SqL K H a xs := by
  rcases h with ⟨h, _⟩ | h
  · exact .inl h
  · exact .inr h
inductive Dt (K : PySem.W.Frag) (ps : Addr → Prop) (H : Hp) : V → D → Prop
  | non : Dt K ps H .non .non
  | bl (b : Bool) : Dt K ps H (.bl b) (.bl b)
  | int (i : Int) : Dt K ps H (.int i) (.int i)
  | str (x : Str) : Dt K ps H (.str x) (.str x)
  | cst (v : V) : Dt K ps H v (.cst v)
  | lst {a : Addr} {xs : List V} {ds : List D} : H a = some (.lst xs) → ¬ ps a → xs.length = ds.length → (∀ (i : Nat) x d, xs[i]? = some x → ds[i]? = some d → Dt K ps H x d) → Dt K ps H (.ref a) (.lst ds)
  | rol {a : Addr} {xs : List V} {ds : List D} : RolAt K ps H a xs → xs.length = ds.length → (∀ (i : Nat) x d, xs[i]? = some x → ds[i]? = some d → Dt K ps H x d) → Dt K ps H (.ref a) (.rol ds)
  | tup {a : Addr} {xs : List V} {ds : List D} : TupAt K ps H a xs → xs.length = ds.length → (∀ (i : Nat) x d, xs[i]? = some x → ds[i]? = some d → Dt K ps H x d) → Dt K ps H (.ref a) (.tup ds)
def DtA (K : PySem.W.Frag) (ps : Addr → Prop) (H : Hp) (xs : List V) (ds : List D) : Prop := xs.length = ds.length ∧ ∀ (i : Nat) x d, xs[i]? = some x → ds[i]? = some d → Dt K ps H x d
section
variable {K : PySem.W.Frag} {ps qs : Addr → Prop} {H H1 H2 : Hp} {p q a : Addr} {o : HO} {v x : V} {d e : D} {xs ys : List V} {ds es : List D}
theorem Dt.move (h : Dt K ps H v d) (k : Kp ps H H1) (hq : ∀ a, qs a → ps a ∨ H a = none) : Dt K qs H1 v d := by
  induction h with
  | non => exact .non
  | bl b => exact .bl b
  | int i => exact .int i
  | str x => exact .str x
  | cst v => exact .cst v
  | lst h1 h2 h3 h4 ih =>
    refine .lst (k.get _ _ h2 h1) (fun z => ?_) h3 ih
    rcases hq _ z with z | z
    · exact h2 z
    · rw [h1] at z; cases z
  | rol h1 h3 h4 ih =>
    refine .rol ?_ h3 ih
    rcases h1 with ⟨h1, h2⟩ | h1
    · refine .inl ⟨?_, fun z => ?_⟩
      · rcases h1 with h1 | ⟨ob, h1⟩
        · exact .inl (k.get _ _ h2 h1)
        · exact .inr ⟨ob, k.get _ _ h2 h1⟩
      · rcases hq _ z with z | z
        · exact h2 z
        · rcases h1 with h1 | ⟨ob, h1⟩ <;> (rw [h1] at z; cases z)
    · exact .inr h1
  | tup h1 h3 h4 ih =>
    refine .tup ?_ h3 ih
    rcases h1 with ⟨h1, h2⟩ | h1
    · refine .inl ⟨k.get _ _ h2 h1, fun z => ?_⟩
      rcases hq _ z with z | z
      · exact h2 z
      · rw [h1] at z; cases z
    · exact .inr h1
theorem DtA.move (h : DtA K ps H xs ds) (k : Kp ps H H1) (hq : ∀ a, qs a → ps a ∨ H a = none) : DtA K qs H1 xs ds := ⟨h.1, fun i x d e1 e2 => (h.2 i x d e1 e2).move k hq⟩
theorem DtA.nil : DtA K ps H [] [] := ⟨rfl, fun i x d e => by simp at e⟩
theorem DtA.cons (h : Dt K ps H x d) (t : DtA K ps H xs ds) : DtA K ps H (x :: xs) (d :: ds) := ⟨by simp [t.1], fun i y f e1 e2 => by
  cases i with
  | zero => simp at e1 e2; subst e1 e2; exact h
  | succ i => simp at e1 e2; exact t.2 i y f e1 e2⟩
theorem DtA.append (h : DtA K ps H xs ds) (t : DtA K ps H ys es) : DtA K ps H (xs ++ ys) (ds ++ es) := ⟨by simp [h.1, t.1], fun i y f e1 e2 => by
  have hl := h.1
  by_cases hi : i < xs.length
  · rw [List.getElem?_append_left hi] at e1
    rw [List.getElem?_append_left (by omega)] at e2
    exact h.2 i y f e1 e2
  · rw [List.getElem?_append_right (by omega)] at e1
    rw [List.getElem?_append_right (by omega), ← hl] at e2
    exact t.2 _ y f e1 e2⟩
theorem DtA.snoc (h : DtA K ps H xs ds) (t : Dt K ps H x d) : DtA K ps H (xs ++ [x]) (ds ++ [d]) := h.append (.cons t .nil)
theorem DtA.take (h : DtA K ps H xs ds) (n : Nat) : DtA K ps H (xs.take n) (ds.take n) := ⟨by simp [h.1], fun i y f e1 e2 => by
  rw [List.getElem?_take] at e1 e2
  split at e1
  · rename_i c; rw [if_pos c] at e2; exact h.2 i y f e1 e2
  · cases e1⟩
theorem DtA.drop (h : DtA K ps H xs ds) (n : Nat) : DtA K ps H (xs.drop n) (ds.drop n) := ⟨by simp [h.1], fun i y f e1 e2 => by
  rw [List.getElem?_drop] at e1 e2; exact h.2 _ y f e1 e2⟩
theorem DtA.set (h : DtA K ps H xs ds) (t : Dt K ps H x d) (n : Nat) : DtA K ps H (xs.set n x) (ds.set n d) := ⟨by simp [h.1], fun i y f e1 e2 => by
  rw [List.getElem?_set] at e1 e2
  have hl := h.1
  split at e1
  · rename_i c
    rw [if_pos c] at e2
    split at e1
    · split at e2
      · cases e1; cases e2; exact t
      · cases e2
    · cases e1
  · rename_i c
    rw [if_neg c] at e2
    exact h.2 i y f e1 e2⟩
theorem DtA.get (h : DtA K ps H xs ds) {i : Nat} (e : ds[i]? = some d) : ∃ x, xs[i]? = some x ∧ Dt K ps H x d := by
  have hi : i < xs.length := by rw [h.1]; exact (List.getElem?_eq_some_iff.mp e).1
  exact ⟨xs[i], by simp [hi], h.2 i _ _ (by simp [hi]) e⟩
theorem DtA.get' (h : DtA K ps H xs ds) {i : Nat} (e : xs[i]? = some x) : ∃ d, ds[i]? = some d ∧ Dt K ps H x d := by
  have hi : i < ds.length := by rw [← h.1]; exact (List.getElem?_eq_some_iff.mp e).1
  exact ⟨ds[i], by simp [hi], h.2 i _ _ e (by simp [hi])⟩
theorem DtA.flat (m : Nat) (h : DtA K ps H xs ds) : DtA K ps H (List.replicate m xs).flatten (List.replicate m ds).flatten := by
  induction m with
  | zero => exact .nil
  | succ m ih => simp only [List.replicate_succ, List.flatten_cons]; exact h.append ih
theorem Dt.inv_lst (h : Dt K ps H v (.lst ds)) : (∃ a xs, v = .ref a ∧ H a = some (.lst xs) ∧ ¬ ps a ∧ DtA K ps H xs ds) := by
  cases h with
  | lst h1 h2 h3 h4 => exact ⟨_, _, rfl, h1, h2, h3, h4⟩
theorem Dt.inv_rol (h : Dt K ps H v (.rol ds)) : (∃ a xs, v = .ref a ∧ RolAt K ps H a xs ∧ DtA K ps H xs ds) := by
  cases h with
  | rol h1 h3 h4 => exact ⟨_, _, rfl, h1, h3, h4⟩
theorem Dt.inv_tup (h : Dt K ps H v (.tup ds)) : ∃ a xs, v = .ref a ∧ TupAt K ps H a xs ∧ DtA K ps H xs ds := by
  cases h with
  | tup h1 h3 h4 => exact ⟨_, _, rfl, h1, h3, h4⟩
theorem Dt.inv_int {i : Int} (h : Dt K ps H v (.int i)) : v = .int i := by cases h; rfl
theorem Dt.inv_str {z : Str} (h : Dt K ps H v (.str z)) : v = .str z := by cases h; rfl
theorem Dt.inv_bl {b : Bool} (h : Dt K ps H v (.bl b)) : v = .bl b := by cases h; rfl
theorem Dt.inv_non (h : Dt K ps H v .non) : v = .non := by cases h; rfl
theorem Dt.inv_cst {c : V} (h : Dt K ps H v (.cst c)) : v = c := by cases h; rfl
theorem Dt.no_mls (h : Dt K ps H v (.mls ds)) : False := by cases h
theorem Dt.no_al {k : Nat} (h : Dt K ps H v (.al k)) : False := by cases h
theorem Dt.lstA (h : H a = some (.lst xs)) (n : ¬ ps a) (k : DtA K ps H xs ds) : Dt K ps H (.ref a) (.lst ds) := .lst h n k.1 k.2
theorem Dt.tupA (h : H a = some (.tup xs)) (n : ¬ ps a) (k : DtA K ps H xs ds) : Dt K ps H (.ref a) (.tup ds) := .tup (.inl ⟨h, n⟩) k.1 k.2
theorem DtA.ints_eq : ∀ {xs : List V} {ns : List Int}, DtA K ps H xs (ns.map D.int) → xs = ns.map V.int
  | [], [], _ => rfl
  | [], n :: ns, h => by have := h.1; simp at this
  | x :: xs, [], h => by have := h.1; simp at this
  | x :: xs, n :: ns, h => by
    have h1 := h.2 0 x (.int n) rfl rfl
    have h2 : DtA K ps H xs (ns.map D.int) := ⟨by have := h.1; simpa using this, fun i y f e1 e2 => h.2 (i + 1) y f (by simpa using e1) (by simpa using e2)⟩
    cases h1
    rw [DtA.ints_eq h2]; rfl
theorem DtA.ints (ns : List Int) : DtA K ps H (ns.map V.int) (ns.map D.int) := ⟨by simp, fun i x d e1 e2 => by
  rw [List.getElem?_map] at e1 e2
  cases e : ns[i]? with
  | none => rw [e] at e1; cases e1
  | some z => rw [e] at e1 e2; cases e1; cases e2; exact .int z⟩
/-! ### what is owned -/
inductive Ow (K : PySem.W.Frag) (ps : Addr → Prop) (H : Hp) : V → D → (Addr → Prop) → Prop
  | fz {v : V} {d : D} {S : Addr → Prop} : Dt K ps H v d → (∀ b, ¬ S b) → Ow K ps H v d S
  | mls {a : Addr} {xs : List V} {ds : List D} {S : Addr → Prop} : H a = some (.lst xs) → DtA K ps H xs ds → (∀ b, S b ↔ b = a) → Ow K ps H (.ref a) (.mls ds) S
theorem Ow.move {S : Addr → Prop} (h : Ow K ps H v d S) (k : Kp ps H H1) (hq : ∀ a, qs a → ps a ∨ H a = none) (hs : ∀ a, S a → H1 a = H a) : Ow K qs H1 v d S := by
  cases h with
  | fz h n => exact .fz (h.move k hq) n
  | mls h1 h2 h3 => exact .mls (by rw [hs _ ((h3 _).mpr rfl)]; exact h1) (h2.move k hq) h3
theorem Ow.trk {S : Addr → Prop} (h : Ow K ps H v d S) (hb : S a) : H a ≠ none := by
  cases h with
  | fz h n => exact absurd hb (n _)
  | mls h1 h2 h3 => rw [(h3 _).mp hb, h1]; simp
def isFz : D → Bool | .mls _ => false | .al _ => false | _ => true
def isAl : D → Bool | .al _ => true | _ => false
def frz : D → D | .mls ds => .lst ds | d => d
theorem Ow.noAl {S : Addr → Prop} (h : Ow K ps H v d S) : isAl d = false := by
  cases h with
  | fz h n => cases h <;> rfl
  | mls _ _ _ => rfl
theorem Ow.dt {S : Addr → Prop} (h : Ow K ps H v d S) (f : isFz d = true) : Dt K ps H v d := by
  cases h with
  | fz h n => exact h
  | mls _ _ _ => cases f
theorem Ow.emp {S : Addr → Prop} (h : Ow K ps H v d S) (f : isFz d = true) : ∀ b, ¬ S b := by
  cases h with
  | fz h n => exact n
  | mls _ _ _ => cases f
/-- given up, it is data for all that keep off -/
theorem Ow.frz {S : Addr → Prop} (h : Ow K ps H v d S) (hq : ∀ a, qs a → ps a ∧ ¬ S a) : Dt K qs H v (frz d) := by
  cases h with
  | fz h n =>
    have : Q.frz d = d := by cases h <;> rfl
    rw [this]
    exact h.move .refl fun a z => .inl (hq a z).1
  | mls h1 h2 h3 => exact .lstA h1 (fun z => (hq _ z).2 ((h3 _).mpr rfl)) (h2.move .refl fun a z => .inl (hq a z).1)
theorem Ow.iff {S T : Addr → Prop} (h : Ow K ps H v d S) (e : ∀ b, T b ↔ S b) : Ow K ps H v d T := by
  cases h with
  | fz h n => exact .fz h fun b z => n b ((e b).mp z)
  | mls h1 h2 h3 => exact .mls h1 h2 fun b => (e b).trans (h3 b)
end
/-! ### the state -/
abbrev Env := List (Option D)
/-- where a def stands: what is owned elsewhere (ps0), the heap at the entry, what it was lent -/
structure Bs where
  ps0 : Addr → Prop
  H0 : Hp
  S0 : Addr → Prop
structure Cn where
  K : PySem.W.Frag
  W : WX
  cv : Str → Value
  A : Nat → Bool
abbrev Ix := Sum Nat Nat
def pset (B : Bs) (S : Ix → Addr → Prop) : Addr → Prop := fun a => B.ps0 a ∨ ∃ i, S i a
structure Good (C : Cn) (B : Bs) (σ0 : St) (H : Hp) (σ : St) (env : Env) (ts : List (V × D)) (S : Ix → Addr → Prop) : Prop where
  kp : Kp B.S0 B.H0 H
  fr : ∀ a, B.ps0 a → B.H0 a ≠ none ∧ ¬ B.S0 a
  sub : ∀ i a, S i a → (B.S0 a ∨ B.H0 a = none) ∧ ¬ B.ps0 a
  trk : ∀ i a, S i a → H a ≠ none
  dis : ∀ i j a, S i a → S j a → i = j
  len : σ.length = env.length
  keep : (∀ j, C.A j = false → σ[j]? = σ0[j]?) ∧ σ.length = σ0.length
  slot : ∀ (i : Nat) d, env[i]? = some (some d) → ∃ v, σ[i]? = some (some v) ∧ Ow C.K (pset B S) H v d (S (.inl i))
  tmp : ∀ (j : Nat) v d, ts[j]? = some (v, d) → (∃ k, d = .al k ∧ σ[k]? = some (some v)) ∨ Ow C.K (pset B S) H v d (S (.inr j))
def Rep (C : Cn) (B : Bs) (σ0 : St) (H : Hp) (σ : St) (env : Env) (ts : List (V × D)) : Prop := ∃ S, Good C B σ0 H σ env ts S
def su (S : Ix → Addr → Prop) (k : Ix) (s : Addr → Prop) : Ix → Addr → Prop := fun i a => (i = k ∧ s a) ∨ (i ≠ k ∧ S i a)
theorem su_same {S : Ix → Addr → Prop} {k : Ix} {s : Addr → Prop} {a : Addr} : su S k s k a ↔ s a := by simp [su]
theorem su_ne {S : Ix → Addr → Prop} {k i : Ix} {s : Addr → Prop} {a : Addr} (h : i ≠ k) : su S k s i a ↔ S i a := by simp [su, h]
section
variable {C : Cn} {B : Bs} {σ0 σ : St} {H H1 : Hp} {env env1 : Env} {ts ts1 : List (V × D)} {S : Ix → Addr → Prop} {v : V} {d : D}
theorem Good.ptrk (g : Good C B σ0 H σ env ts S) {a : Addr} (h : pset B S a) : H a ≠ none := by
  rcases h with h | ⟨i, h⟩
  · exact fun z => (g.fr a h).1 (g.kp.dom a z)
  · exact g.trk i a h
/-- cells at k are taken by s' : s' among those at k or new; all others stay -/
theorem Good.upd (g : Good C B σ0 H σ env ts S) (k : Ix) (s' : Addr → Prop) (hk : Kp (S k) H H1) (hs : ∀ a, s' a → (S k a ∨ H a = none) ∧ H1 a ≠ none) :
    Kp B.S0 B.H0 H1 ∧ (∀ i a, su S k s' i a → (B.S0 a ∨ B.H0 a = none) ∧ ¬ B.ps0 a) ∧ (∀ i a, su S k s' i a → H1 a ≠ none) ∧ (∀ i j a, su S k s' i a → su S k s' j a → i = j) ∧
    (∀ a, pset B (su S k s') a → pset B S a ∨ H a = none) ∧ Kp (pset B S) H H1 ∧ ∀ i v d, i ≠ k → Ow C.K (pset B S) H v d (S i) → Ow C.K (pset B (su S k s')) H1 v d (su S k s' i) := by
  have hp : ∀ a, pset B (su S k s') a → pset B S a ∨ H a = none := by
    rintro a (h | ⟨i, ⟨rfl, h⟩ | ⟨_, h⟩⟩)
    · exact .inl (.inl h)
    · rcases (hs a h).1 with h | h
      · exact .inl (.inr ⟨_, h⟩)
      · exact .inr h
    · exact .inl (.inr ⟨_, h⟩)
  have hkp : Kp (pset B S) H H1 := hk.more fun x z => .inr ⟨_, z⟩
  refine ⟨?_, ?_, ?_, ?_, hp, hkp, ?_⟩
  · refine ⟨fun b o n e => ?_, fun b e => g.kp.dom b (hk.dom b e)⟩
    have e1 := g.kp.get b o n e
    refine hk.get b o (fun z => ?_) e1
    rcases (g.sub k b z).1 with z | z
    · exact n z
    · rw [z] at e; cases e
  · rintro i a (⟨rfl, h⟩ | ⟨_, h⟩)
    · rcases (hs a h).1 with z | z
      · exact g.sub _ a z
      · exact ⟨.inr (g.kp.dom a z), fun w => (g.fr a w).1 (g.kp.dom a z)⟩
    · exact g.sub i a h
  · rintro i a (⟨rfl, h⟩ | ⟨hi, h⟩)
    · exact (hs a h).2
    · intro z
      exact g.trk i a h (hk.dom a z)
  · rintro i j a (⟨rfl, h⟩ | ⟨hi, h⟩) (⟨rfl, h'⟩ | ⟨hj, h'⟩)
    · rfl
    · rcases (hs a h).1 with z | z
      · exact g.dis _ _ a z h'
      · exact absurd z (g.trk j a h')
    · rcases (hs a h').1 with z | z
      · exact g.dis _ _ a h z
      · exact absurd z (g.trk i a h)
    · exact g.dis i j a h h'
  · intro i v d hi h
    refine (h.move hkp hp fun a z => ?_).iff fun b => su_ne hi
    have hn : ¬ S k a := fun w => hi (g.dis _ _ a z w)
    cases e : H a with
    | none => exact absurd e (g.trk i a z)
    | some o => exact hk.get a o hn e
/-- a temporary is set down at place n (all above it go) -/
theorem Good.push (g : Good C B σ0 H σ env ts S) (n : Nat) (hn : n ≤ ts.length) (s' : Addr → Prop) (hk : Kp (S (.inr n)) H H1) (hs : ∀ a, s' a → (S (.inr n) a ∨ H a = none) ∧ H1 a ≠ none)
    (ho : Ow C.K (pset B (su S (.inr n) s')) H1 v d s') : Good C B σ0 H1 σ env (ts.take n ++ [(v, d)]) (su S (.inr n) s') := by
  obtain ⟨a1, a2, a3, a4, a5, a6, a7⟩ := g.upd (.inr n) s' hk hs
  refine ⟨a1, g.fr, a2, a3, a4, g.len, g.keep, fun i d' e => ?_, fun j v' d' e => ?_⟩
  · obtain ⟨v', h1, h2⟩ := g.slot i d' e
    exact ⟨v', h1, a7 (.inl i) v' d' (by simp) h2⟩
  · by_cases hj : j < n
    · rw [List.getElem?_append_left (by rw [List.length_take]; omega), List.getElem?_take, if_pos hj] at e
      rcases g.tmp j v' d' e with h | h
      · exact .inl h
      · exact .inr (a7 (.inr j) v' d' (by simp; omega) h)
    · have hl : (ts.take n).length = n := by rw [List.length_take]; omega
      rw [List.getElem?_append_right (by omega), hl] at e
      by_cases hj2 : j = n
      · subst hj2
        simp at e
        obtain ⟨rfl, rfl⟩ := e
        exact .inr (ho.iff fun b => su_same)
      · obtain ⟨m, hm⟩ : ∃ m, j - n = m + 1 := ⟨j - n - 1, by omega⟩
        rw [hm] at e
        simp at e
/-- slot k's own thing changes: s' among its cells or new -/
theorem Good.put (g : Good C B σ0 H σ env ts S) {k : Nat} {d0 : D} (he : env[k]? = some (some d0)) (hv : σ[k]? = some (some v)) (s' : Addr → Prop) (hk : Kp (S (.inl k)) H H1) (hs : ∀ a, s' a → (S (.inl k) a ∨ H a = none) ∧ H1 a ≠ none)
    (ho : Ow C.K (pset B (su S (.inl k) s')) H1 v d s') : Good C B σ0 H1 σ (env.set k (some d)) ts (su S (.inl k) s') := by
  obtain ⟨a1, a2, a3, a4, a5, a6, a7⟩ := g.upd (.inl k) s' hk hs
  have hkl : k < env.length := (List.getElem?_eq_some_iff.mp he).1
  refine ⟨a1, g.fr, a2, a3, a4, by rw [List.length_set]; exact g.len, g.keep, fun i d' e => ?_, fun j v' d' e => ?_⟩
  · by_cases hi : i = k
    · subst hi
      rw [List.getElem?_set_self hkl] at e
      cases e
      exact ⟨v, hv, ho.iff fun b => su_same⟩
    · rw [List.getElem?_set_ne (Ne.symm hi)] at e
      obtain ⟨v', h1, h2⟩ := g.slot i d' e
      exact ⟨v', h1, a7 (.inl i) v' d' (by simp [hi]) h2⟩
  · rcases g.tmp j v' d' e with h | h
    · exact .inl h
    · exact .inr (a7 (.inr j) v' d' (by simp) h)
/-- temporaries above n go -/
theorem Rep.pop (r : Rep C B σ0 H σ env (ts ++ ts1)) : Rep C B σ0 H σ env ts := by
  obtain ⟨S, g⟩ := r
  refine ⟨S, g.kp, g.fr, g.sub, g.trk, g.dis, g.len, g.keep, g.slot, fun j v d e => g.tmp j v d ?_⟩
  have hj : j < ts.length := (List.getElem?_eq_some_iff.mp e).1
  rw [List.getElem?_append_left hj]; exact e
/-- what may be looked at -/
def Peek (K : PySem.W.Frag) (ps : Addr → Prop) (H : Hp) (v : V) (d : D) : Prop := ∃ S, Ow K ps H v d S ∧ ∀ a, S a → ps a
def res (e : Env) : D → Option D
  | .al k => match e[k]? with
    | some (some d) => some d
    | _ => none
  | d => some d
theorem Good.look (g : Good C B σ0 H σ env ts S) {j : Nat} {v : V} {d d' : D} (e : ts[j]? = some (v, d)) (hr : res env d = some d') : Peek C.K (pset B S) H v d' := by
  rcases g.tmp j v d e with ⟨k, rfl, h2⟩ | h
  · simp only [res] at hr
    split at hr
    · rename_i d'' h3
      cases hr
      obtain ⟨v', e1, e2⟩ := g.slot k _ h3
      rw [h2] at e1; cases e1
      exact ⟨_, e2, fun a z => .inr ⟨_, z⟩⟩
    · cases hr
  · have hn := h.noAl
    have : res env d = some d := by cases d <;> first | rfl | cases hn
    rw [this] at hr; cases hr
    exact ⟨_, h, fun a z => .inr ⟨_, z⟩⟩
end
end Q


namespace Q
open PySem L2
/-! ### results -/
inductive Rs (α : Type) where
  | ok (a : α) (e : Env)
  | ex (x : Xc) (e : Env)
abbrev M (α : Type) := Env → Option (Rs α)
abbrev ME := M D
abbrev MA := M (List D)
abbrev MT := M Bool
def bnd {α β : Type} (r : Option (Rs α)) (f : α → Env → Option (Rs β)) : Option (Rs β) :=
  match r with
  | none => none
  | some (.ex x e) => some (.ex x e)
  | some (.ok a e) => f a e
theorem bnd_ok {α β : Type} {a : α} {e : Env} {f : α → Env → Option (Rs β)} : bnd (some (.ok a e)) f = f a e := rfl
theorem bnd_ex {α β : Type} {x : Xc} {e : Env} {f : α → Env → Option (Rs β)} : bnd (some (.ex x e)) f = some (.ex x e) := rfl
theorem bnd_none {α β : Type} {f : α → Env → Option (Rs β)} : bnd none f = none := rfl
theorem bnd_inv {α β : Type} {r : Option (Rs α)} {f : α → Env → Option (Rs β)} {z : Rs β} (h : bnd r f = some z) : (∃ x e, r = some (.ex x e) ∧ z = .ex x e) ∨ ∃ a e, r = some (.ok a e) ∧ f a e = some z := by
  unfold bnd at h
  split at h
  · cases h
  · cases h; exact .inl ⟨_, _, rfl, rfl⟩
  · exact .inr ⟨_, _, rfl, h⟩
/-- an exception's class and fields -/
def XOk (C : Cn) (ps : Addr → Prop) (H : Hp) (x : Xc) (c : Value) (o : Option Addr) : Prop :=
  c = C.cv x.cls ∧ ((o = none ∧ x.fs = []) ∨ ∃ d fs, o = some d ∧ H d = some (.xd fs) ∧ ¬ ps d ∧ fs.map (·.1) = x.fs.map (·.1) ∧ DtA C.K ps H (fs.map (·.2)) (x.fs.map (·.2)))
def RepX (C : Cn) (B : Bs) (σ0 : St) (H : Hp) (σ : St) (env : Env) (ts : List (V × D)) (x : Xc) (c : Value) (o : Option Addr) : Prop := ∃ S, Good C B σ0 H σ env ts S ∧ XOk C (pset B S) H x c o
def XW (C : Cn) (B : Bs) (σ0 σ : St) (ts : List (V × D)) (x : Xc) (e : Env) : Prop := ∀ c o H', RepX C B σ0 H' σ e ts x c o → C.W c o σ H'
section
variable {C : Cn} {B : Bs} {σ0 σ : St} {H H1 : Hp} {env env1 : Env} {ts ts1 : List (V × D)} {S : Ix → Addr → Prop} {v : V} {d : D} {x : Xc} {c : Value} {o : Option Addr}
theorem Good.pop (g : Good C B σ0 H σ env (ts ++ ts1) S) : Good C B σ0 H σ env ts S :=
  ⟨g.kp, g.fr, g.sub, g.trk, g.dis, g.len, g.keep, g.slot, fun j v d e => g.tmp j v d (by
    have hj : j < ts.length := (List.getElem?_eq_some_iff.mp e).1
    rw [List.getElem?_append_left hj]; exact e)⟩
theorem RepX.pop (r : RepX C B σ0 H σ env (ts ++ ts1) x c o) : RepX C B σ0 H σ env ts x c o := by
  obtain ⟨S, g, h⟩ := r
  exact ⟨S, g.pop, h⟩
theorem XW.push {e : Env} (h : XW C B σ0 σ ts x e) : XW C B σ0 σ (ts ++ ts1) x e := fun c o H' r => h c o H' r.pop
end
def EOk (C : Cn) (B : Bs) (σ0 σ : St) (ts : List (V × D)) (Q : VK) : Rs D → Prop
  | .ok d e => ∀ v H', Rep C B σ0 H' σ e (ts ++ [(v, d)]) → Q v H'
  | .ex x e => XW C B σ0 σ ts x e
def AOk (C : Cn) (B : Bs) (σ0 σ : St) (ts : List (V × D)) (R : List V → Hp → Prop) : Rs (List D) → Prop
  | .ok ds e => ∀ vs H', vs.length = ds.length → Rep C B σ0 H' σ e (ts ++ vs.zip ds) → R vs H'
  | .ex x e => XW C B σ0 σ ts x e
def TOk (C : Cn) (B : Bs) (σ0 σ : St) (ts : List (V × D)) (R : Bool → Hp → Prop) : Rs Bool → Prop
  | .ok b e => ∀ H', Rep C B σ0 H' σ e ts → R b H'
  | .ex x e => XW C B σ0 σ ts x e
def SE (C : Cn) (te : TE) (m : ME) : Prop := ∀ B σ0 σ H env ts, Rep C B σ0 H σ env ts → ∀ r, m env = some r → ∀ Q, EOk C B σ0 σ ts Q r → te σ H Q
def SA (C : Cn) (ta : TA) (m : MA) : Prop := ∀ B σ0 σ H env ts, Rep C B σ0 H σ env ts → ∀ r, m env = some r → ∀ R, AOk C B σ0 σ ts R r → ta σ H R
def ST (C : Cn) (tt : TT) (m : MT) : Prop := ∀ B σ0 σ H env ts, Rep C B σ0 H σ env ts → ∀ r, m env = some r → ∀ R, TOk C B σ0 σ ts R r → tt σ H R
/-! ### what an operation makes -/
def Post (K : PySem.W.Frag) (ps : Addr → Prop) (H H' : Hp) (v : V) (d : D) : Prop :=
  Kp (fun _ => False) H H' ∧ ∃ s', (∀ a, s' a → H a = none ∧ H' a ≠ none) ∧ Ow K (fun a => ps a ∨ s' a) H' v d s'
section
variable {K : PySem.W.Frag} {ps : Addr → Prop} {H H1 : Hp} {v : V} {d : D} {p : Addr} {xs : List V} {ds : List D}
theorem Post.dt (h : Dt K ps H v d) : Post K ps H H v d := ⟨.refl, fun _ => False, fun _ h => h.elim, .fz (h.move .refl fun a z => .inl (z.resolve_right id)) fun _ h => h⟩
theorem Post.lst (hp : H p = none) (h : DtA K ps H xs ds) : Post K ps H (upd H p (.lst xs)) (.ref p) (.mls ds) :=
  ⟨.new hp, fun a => a = p, fun a e => by subst e; exact ⟨hp, by rw [upd_same]; simp⟩, .mls upd_same (h.move (.new hp) fun a z => z.elim .inl fun e => .inr (by rw [e]; exact hp)) fun _ => Iff.rfl⟩
theorem Post.tup (ht : ∀ a, ps a → H a ≠ none) (hp : H p = none) (h : DtA K ps H xs ds) : Post K ps H (upd H p (.tup xs)) (.ref p) (.tup ds) :=
  ⟨.new hp, fun _ => False, fun _ h => h.elim, .fz (.tupA upd_same (fun z => ht p (z.resolve_right id) hp) (h.move (.new hp) fun a z => .inl (z.resolve_right id))) fun _ h => h⟩
end
section
variable {C : Cn} {B : Bs} {σ0 σ : St} {H H1 : Hp} {env env1 : Env} {ts ts1 : List (V × D)} {S : Ix → Addr → Prop} {v : V} {d : D}
theorem Good.prim (g : Good C B σ0 H σ env (ts ++ ts1) S) (p : Post C.K (pset B S) H H1 v d) : Rep C B σ0 H1 σ env (ts ++ [(v, d)]) := by
  obtain ⟨k, s', hs, ho⟩ := p
  have h := g.push (H1 := H1) (v := v) (d := d) ts.length (by simp) s' (k.more fun _ z => z.elim) (fun a z => ⟨.inr (hs a z).1, (hs a z).2⟩) (ho.move .refl (fun a z => ?_) fun _ _ => rfl)
  · rw [List.take_left] at h
    exact ⟨_, h⟩
  · rcases z with z | ⟨i, ⟨_, z⟩ | ⟨_, z⟩⟩
    · exact .inl (.inl (.inl z))
    · exact .inl (.inr z)
    · exact .inl (.inl (.inr ⟨i, z⟩))
theorem Good.pushAl (g : Good C B σ0 H σ env ts S) {k : Nat} (h1 : σ[k]? = some (some v)) : Rep C B σ0 H σ env (ts ++ [(v, .al k)]) := by
  refine ⟨S, g.kp, g.fr, g.sub, g.trk, g.dis, g.len, g.keep, g.slot, fun j v' d e => ?_⟩
  by_cases hj : j < ts.length
  · rw [List.getElem?_append_left hj] at e; exact g.tmp j v' d e
  · rw [List.getElem?_append_right (by omega)] at e
    obtain ⟨m, hm⟩ : ∃ m, j - ts.length = m := ⟨_, rfl⟩
    rw [hm] at e
    cases m with
    | zero => simp at e; obtain ⟨rfl, rfl⟩ := e; exact .inl ⟨k, rfl, h1⟩
    | succ m => simp at e
end
/-! ### expressions -/
def mVar (i : Nat) : ME := fun e => match e[i]? with
  | some (some d) => if isFz d = true then some (.ok d e) else some (.ok (.al i) e)
  | _ => none
theorem se_var {C : Cn} (i : Nat) : SE C (tVar i) (mVar i) := by
  rintro B σ0 σ H env ts ⟨S, g⟩ r hm Q hq
  unfold mVar at hm
  split at hm
  · rename_i d hd
    obtain ⟨v, hv, ho⟩ := g.slot i d hd
    split at hm
    · rename_i hf
      cases hm
      exact ⟨v, hv, hq v H (Good.prim (ts1 := []) (by rw [List.append_nil]; exact g) (Post.dt (ho.dt hf)))⟩
    · cases hm
      exact ⟨v, hv, hq v H (g.pushAl hv)⟩
  · cases hm
def mC (d : D) : ME := fun e => some (.ok d e)
/-- a value that is data by itself -/
def litD : V → D
  | .non => .non | .bl b => .bl b | .int i => .int i | .str s => .str s | v => .cst v
theorem litD_dt {K : PySem.W.Frag} {ps : Addr → Prop} {H : Hp} (v : V) : Dt K ps H v (litD v) := by
  cases v <;> first | exact .non | exact .bl _ | exact .int _ | exact .str _ | exact .cst _
theorem se_c {C : Cn} (v : V) : SE C (tC v) (mC (litD v)) := by
  rintro B σ0 σ H env ts ⟨S, g⟩ r hm Q hq
  cases hm
  exact hq v H (Good.prim (ts1 := []) (by rw [List.append_nil]; exact g) (Post.dt (litD_dt v)))
/-- a written tuple of the top -/
theorem se_k {C : Cn} {a : Addr} {d : D} (h : ∀ ps H, Dt C.K ps H (.ref a) d) : SE C (tC (.ref a)) (mC d) := by
  rintro B σ0 σ H env ts ⟨S, g⟩ r hm Q hq
  cases hm
  exact hq _ H (Good.prim (ts1 := []) (by rw [List.append_nil]; exact g) (Post.dt (h _ _)))
def ap1 (f : D → Option D) (x : D) (e : Env) : Option (Rs D) := match res e x with
  | some x' => (match f x' with | some d => some (.ok d e) | none => none)
  | none => none
def ap2 (f : D → D → Option D) (x y : D) (e : Env) : Option (Rs D) := match res e x with
  | some x' => (match res e y with
    | some y' => (match f x' y' with | some d => some (.ok d e) | none => none)
    | none => none)
  | none => none
def lend : List D → Env → Option (List D)
  | [], _ => some []
  | x :: xs, e => match res e x with
    | some d => (match lend xs e with | some ds => some (d :: ds) | none => none)
    | none => none
def apN (f : List D → Option D) (xs : List D) (e : Env) : Option (Rs D) := match lend xs e with
  | some ds => (match f ds with | some d => some (.ok d e) | none => none)
  | none => none
def P1 (K : PySem.W.Frag) (r : V → Hp → VK → Prop) (f : D → Option D) : Prop := ∀ ps H x d e Q, (∀ a, ps a → H a ≠ none) → Peek K ps H x d → f d = some e → (∀ v H', Post K ps H H' v e → Q v H') → r x H Q
def P2 (K : PySem.W.Frag) (r : R2) (f : D → D → Option D) : Prop := ∀ ps H x y d d' e Q, (∀ a, ps a → H a ≠ none) → Peek K ps H x d → Peek K ps H y d' → f d d' = some e → (∀ v H', Post K ps H H' v e → Q v H') → r x y H Q
inductive PeekA (K : PySem.W.Frag) (ps : Addr → Prop) (H : Hp) : List V → List D → Prop
  | nil : PeekA K ps H [] []
  | cons {v : V} {d : D} {vs : List V} {ds : List D} : Peek K ps H v d → PeekA K ps H vs ds → PeekA K ps H (v :: vs) (d :: ds)
def PN (K : PySem.W.Frag) (r : List V → Hp → VK → Prop) (f : List D → Option D) : Prop := ∀ ps H xs ds e Q, (∀ a, ps a → H a ≠ none) → PeekA K ps H xs ds → f ds = some e → (∀ v H', Post K ps H H' v e → Q v H') → r xs H Q
def mUn (f : D → Option D) (a : ME) : ME := fun e => bnd (a e) fun x e1 => ap1 f x e1
def mOp (f : D → D → Option D) (a b : ME) : ME := fun e => bnd (a e) fun x e1 => bnd (b e1) fun y e2 => ap2 f x y e2
def mCB (f : List D → Option D) (a : MA) : ME := fun e => bnd (a e) fun xs e1 => apN f xs e1
section
variable {C : Cn} {te ta tb tc : TE} {ma mb mc : ME} {tt tu : TT} {mt mu : MT} {tr : TA} {mr : MA}
theorem se_un {r : V → Hp → VK → Prop} {f : D → Option D} (p : P1 C.K r f) (ha : SE C ta ma) : SE C (tUn r ta) (mUn f ma) := by
  intro B σ0 σ H env ts R z hm Q hq
  rcases bnd_inv hm with ⟨x, e, h1, rfl⟩ | ⟨x, e1, h1, h2⟩
  · exact ha B σ0 σ H env ts R _ h1 _ hq
  · refine ha B σ0 σ H env ts R _ h1 _ fun v H1 ⟨S, g⟩ => ?_
    unfold ap1 at h2
    split at h2
    · rename_i x' hx
      split at h2
      · rename_i d hd
        cases h2
        exact p _ _ _ _ _ _ (fun a z => g.ptrk z) (g.look (j := ts.length) (by simp) hx) hd fun w H2 pp => hq w H2 (g.prim pp)
      · cases h2
    · cases h2
theorem se_op {r : R2} {f : D → D → Option D} (p : P2 C.K r f) (ha : SE C ta ma) (hb : SE C tb mb) : SE C (tOp r ta tb) (mOp f ma mb) := by
  intro B σ0 σ H env ts R z hm Q hq
  rcases bnd_inv hm with ⟨x, e, h1, rfl⟩ | ⟨x, e1, h1, h2⟩
  · exact ha B σ0 σ H env ts R _ h1 _ hq
  · refine ha B σ0 σ H env ts R _ h1 _ fun v H1 R1 => ?_
    rcases bnd_inv h2 with ⟨x2, e, h3, rfl⟩ | ⟨y, e2, h3, h4⟩
    · exact hb B σ0 σ H1 e1 _ R1 _ h3 _ (XW.push hq)
    · refine hb B σ0 σ H1 e1 _ R1 _ h3 _ fun w H2 ⟨S, g⟩ => ?_
      rw [List.append_assoc] at g
      unfold ap2 at h4
      split at h4
      · rename_i x' hx
        split at h4
        · rename_i y' hy
          split at h4
          · rename_i d hd
            cases h4
            exact p _ _ _ _ _ _ _ _ (fun a z => g.ptrk z) (g.look (j := ts.length) (by simp) hx) (g.look (j := ts.length + 1) (by simp) hy) hd fun w H2 pp => hq w H2 (g.prim pp)
          · cases h4
        · cases h4
      · cases h4
theorem lend_peek {B : Bs} {σ0 σ : St} {H : Hp} {env : Env} {ts : List (V × D)} {S : Ix → Addr → Prop} : ∀ {vs : List V} {xs ds : List D} {n : Nat}, Good C B σ0 H σ env ts S → (∀ (j : Nat) v d, (vs.zip xs)[j]? = some (v, d) → ts[n + j]? = some (v, d)) → vs.length = xs.length → lend xs env = some ds → PeekA C.K (pset B S) H vs ds
  | [], [], ds, n, g, h, hl, hd => by cases hd; exact .nil
  | [], _ :: _, ds, n, g, h, hl, hd => by simp at hl
  | _ :: _, [], ds, n, g, h, hl, hd => by simp at hl
  | v :: vs, x :: xs, ds, n, g, h, hl, hd => by
    unfold lend at hd
    split at hd
    · rename_i d h1
      split at hd
      · rename_i ds' h2
        cases hd
        refine .cons (g.look (j := n) (h 0 v x rfl) h1) (lend_peek (n := n + 1) g (fun j v' d' e => ?_) (by simpa using hl) h2)
        have := h (j + 1) v' d' (by simpa using e)
        rw [Nat.add_assoc, Nat.add_comm 1 j]; exact this
      · cases hd
    · cases hd
theorem se_cb {r : List V → Hp → VK → Prop} {f : List D → Option D} (p : PN C.K r f) (ha : SA C tr mr) : SE C (tCB r tr) (mCB f mr) := by
  intro B σ0 σ H env ts R z hm Q hq
  rcases bnd_inv hm with ⟨x, e, h1, rfl⟩ | ⟨x, e1, h1, h2⟩
  · exact ha B σ0 σ H env ts R _ h1 _ hq
  · refine ha B σ0 σ H env ts R _ h1 _ fun vs H1 hl ⟨S, g⟩ => ?_
    unfold apN at h2
    split at h2
    · rename_i ds hds
      split at h2
      · rename_i d hd
        cases h2
        exact p _ _ _ _ _ _ (fun a z => g.ptrk z) (lend_peek (n := ts.length) g (fun j v d e => by rw [List.getElem?_append_right (by omega)]; simpa using e) hl hds) hd fun w H2 pp => hq w H2 (g.prim pp)
      · cases h2
    · cases h2
def mNil : MA := fun e => some (.ok [] e)
def mCons (a : ME) (b : MA) : MA := fun e => bnd (a e) fun x e1 => bnd (b e1) fun xs e2 => some (.ok (x :: xs) e2)
theorem sa_nil : SA C tNil mNil := by
  intro B σ0 σ H env ts R z hm Q hq
  cases hm
  exact hq [] H rfl (by simpa using R)
theorem sa_cons (ha : SE C ta ma) (hb : SA C tr mr) : SA C (tCons ta tr) (mCons ma mr) := by
  intro B σ0 σ H env ts R z hm Q hq
  rcases bnd_inv hm with ⟨x, e, h1, rfl⟩ | ⟨x, e1, h1, h2⟩
  · exact ha B σ0 σ H env ts R _ h1 _ hq
  · refine ha B σ0 σ H env ts R _ h1 _ fun v H1 R1 => ?_
    rcases bnd_inv h2 with ⟨x2, e, h3, rfl⟩ | ⟨ys, e2, h3, h4⟩
    · exact hb B σ0 σ H1 e1 _ R1 _ h3 _ (XW.push hq)
    · refine hb B σ0 σ H1 e1 _ R1 _ h3 _ fun vs H2 hl R2 => ?_
      cases h4
      exact hq (v :: vs) H2 (by simp [hl]) (by simpa using R2)
/-! tests, choices -/
def mTest (a : ME) : MT := fun e => bnd (a e) fun x e1 => match x with
  | .bl b => some (.ok b e1)
  | _ => none
theorem tmp_bl {B : Bs} {σ0 σ : St} {H : Hp} {env : Env} {ts : List (V × D)} {v : V} {b : Bool} (R : Rep C B σ0 H σ env (ts ++ [(v, .bl b)])) : v = .bl b ∧ Rep C B σ0 H σ env ts := by
  refine ⟨?_, R.pop⟩
  obtain ⟨S, g⟩ := R
  rcases g.tmp ts.length v (.bl b) (by simp) with ⟨k, e, _⟩ | h
  · cases e
  · exact (h.dt rfl).inv_bl
theorem st_test (ha : SE C ta ma) : ST C (tTest ta) (mTest ma) := by
  intro B σ0 σ H env ts R z hm Q hq
  rcases bnd_inv hm with ⟨x, e, h1, rfl⟩ | ⟨x, e1, h1, h2⟩
  · exact ha B σ0 σ H env ts R _ h1 _ hq
  · refine ha B σ0 σ H env ts R _ h1 _ fun v H1 R1 => ?_
    split at h2
    · cases h2
      obtain ⟨rfl, R2⟩ := tmp_bl R1
      exact ⟨_, rfl, hq _ R2⟩
    · cases h2
theorem st_tB (ha : SE C ta ma) : ST C (tB ta) (mTest ma) := st_test ha
def truD : D → Option Bool
  | .non => some false
  | .bl b => some b
  | .int i => some (i != 0)
  | .str s => if s.length ≤ 16777216 then some ((s.length : Int) != 0) else none
  | .tup ds => some (!ds.isEmpty)
  | .lst ds => some (!ds.isEmpty)
  | .rol ds => some (!ds.isEmpty)
  | .mls ds => some (!ds.isEmpty)
  | _ => none
def mTru (a : ME) : MT := fun e => bnd (a e) fun x e1 => match res e1 x with
  | some d => (match truD d with | some b => some (.ok b e1) | none => none)
  | none => none
/-- as a sequence -/
inductive SqP (K : PySem.W.Frag) (ps : Addr → Prop) (H : Hp) (a : Addr) (ds : List D) : Prop
  | lst {xs : List V} : SqL K H a xs → DtA K ps H xs ds → SqP K ps H a ds
  | tup {xs : List V} : SqT K H a xs → DtA K ps H xs ds → SqP K ps H a ds
theorem Peek.lst {K : PySem.W.Frag} {ps : Addr → Prop} {H : Hp} {v : V} {ds : List D} (p : Peek K ps H v (.lst ds)) : ∃ a xs, v = .ref a ∧ H a = some (.lst xs) ∧ DtA K ps H xs ds := by
  obtain ⟨S, h, _⟩ := p
  obtain ⟨a, xs, e, h1, _, h2⟩ := (h.dt rfl).inv_lst
  exact ⟨a, xs, e, h1, h2⟩
theorem Peek.mls {K : PySem.W.Frag} {ps : Addr → Prop} {H : Hp} {v : V} {ds : List D} (p : Peek K ps H v (.mls ds)) : ∃ a xs, v = .ref a ∧ H a = some (.lst xs) ∧ DtA K ps H xs ds := by
  obtain ⟨S, h, _⟩ := p
  cases h with
  | fz h _ => cases h
  | mls h1 h2 h3 => exact ⟨_, _, rfl, h1, h2⟩
theorem Peek.rol {K : PySem.W.Frag} {ps : Addr → Prop} {H : Hp} {v : V} {ds : List D} (p : Peek K ps H v (.rol ds)) : ∃ a xs, v = .ref a ∧ SqL K H a xs ∧ DtA K ps H xs ds := by
  obtain ⟨S, h, _⟩ := p
  obtain ⟨a, xs, e, h1, h2⟩ := (h.dt rfl).inv_rol
  exact ⟨a, xs, e, h1.sq, h2⟩
theorem Peek.tup {K : PySem.W.Frag} {ps : Addr → Prop} {H : Hp} {v : V} {ds : List D} (p : Peek K ps H v (.tup ds)) : ∃ a xs, v = .ref a ∧ SqT K H a xs ∧ DtA K ps H xs ds := by
  obtain ⟨S, h, _⟩ := p
  obtain ⟨a, xs, e, h1, h2⟩ := (h.dt rfl).inv_tup
  exact ⟨a, xs, e, h1.sq, h2⟩
theorem Peek.int {K : PySem.W.Frag} {ps : Addr → Prop} {H : Hp} {v : V} {i : Int} (p : Peek K ps H v (.int i)) : v = .int i := by obtain ⟨S, h, _⟩ := p; exact (h.dt rfl).inv_int
theorem Peek.str {K : PySem.W.Frag} {ps : Addr → Prop} {H : Hp} {v : V} {i : Str} (p : Peek K ps H v (.str i)) : v = .str i := by obtain ⟨S, h, _⟩ := p; exact (h.dt rfl).inv_str
theorem Peek.bl {K : PySem.W.Frag} {ps : Addr → Prop} {H : Hp} {v : V} {i : Bool} (p : Peek K ps H v (.bl i)) : v = .bl i := by obtain ⟨S, h, _⟩ := p; exact (h.dt rfl).inv_bl
theorem Peek.non {K : PySem.W.Frag} {ps : Addr → Prop} {H : Hp} {v : V} (p : Peek K ps H v .non) : v = .non := by obtain ⟨S, h, _⟩ := p; exact (h.dt rfl).inv_non
theorem Peek.cst {K : PySem.W.Frag} {ps : Addr → Prop} {H : Hp} {v c : V} (p : Peek K ps H v (.cst c)) : v = c := by obtain ⟨S, h, _⟩ := p; exact (h.dt rfl).inv_cst
theorem Peek.no_al {K : PySem.W.Frag} {ps : Addr → Prop} {H : Hp} {v : V} {k : Nat} (p : Peek K ps H v (.al k)) : False := by
  obtain ⟨S, h, _⟩ := p
  exact Bool.noConfusion h.noAl
/-- the items of a list or tuple -/
def seqD : D → Option (List D)
  | .tup ds => some ds | .lst ds => some ds | .rol ds => some ds | .mls ds => some ds | _ => none
theorem Peek.seq {K : PySem.W.Frag} {ps : Addr → Prop} {H : Hp} {v : V} {d : D} {ds : List D} (p : Peek K ps H v d) (e : seqD d = some ds) : ∃ a xs, v = .ref a ∧ (SqL K H a xs ∨ SqT K H a xs) ∧ DtA K ps H xs ds := by
  cases d <;> cases e
  · obtain ⟨a, xs, e, h1, h2⟩ := p.tup; exact ⟨a, xs, e, .inr h1, h2⟩
  · obtain ⟨a, xs, e, h1, h2⟩ := p.lst; exact ⟨a, xs, e, .inl (SqL.of h1), h2⟩
  · obtain ⟨a, xs, e, h1, h2⟩ := p.rol; exact ⟨a, xs, e, .inl h1, h2⟩
  · obtain ⟨a, xs, e, h1, h2⟩ := p.mls; exact ⟨a, xs, e, .inl (SqL.of h1), h2⟩
end
end Q


namespace Q
open PySem L2
section
variable {C : Cn} {te ta tb tc : TE} {ma mb mc : ME} {tt tu : TT} {mt mu : MT} {tr : TA} {mr : MA}
theorem isEmpty_dt {K : PySem.W.Frag} {ps : Addr → Prop} {H : Hp} {xs : List V} {ds : List D} (h : DtA K ps H xs ds) : (!xs.isEmpty) = !ds.isEmpty := by
  have := h.1
  cases xs <;> cases ds <;> simp_all
theorem tru_of {K : PySem.W.Frag} {ps : Addr → Prop} {H : Hp} {v : V} {d : D} {b : Bool} (p : Peek K ps H v d) (h : truD d = some b) : TruV K v H b := by
  cases d with
  | non => cases h; rw [p.non]; rfl
  | bl b' => cases h; rw [p.bl]; rfl
  | int i => cases h; rw [p.int]; rfl
  | str s =>
    simp only [truD] at h
    split at h
    · rename_i hs
      cases h; rw [p.str]; exact ⟨by rw [sizeLine_eq]; exact hs, rfl⟩
    · cases h
  | tup ds => cases h; obtain ⟨a, xs, rfl, h1, h2⟩ := p.tup; exact .inr (.inl ⟨xs, h1, (isEmpty_dt h2).symm⟩)
  | lst ds => cases h; obtain ⟨a, xs, rfl, h1, h2⟩ := p.lst; exact .inl ⟨xs, SqL.of h1, (isEmpty_dt h2).symm⟩
  | rol ds => cases h; obtain ⟨a, xs, rfl, h1, h2⟩ := p.rol; exact .inl ⟨xs, h1, (isEmpty_dt h2).symm⟩
  | mls ds => cases h; obtain ⟨a, xs, rfl, h1, h2⟩ := p.mls; exact .inl ⟨xs, SqL.of h1, (isEmpty_dt h2).symm⟩
  | cst v => cases h
  | al k => cases h
theorem st_tru (ha : SE C ta ma) : ST C (tTru C.K ta) (mTru ma) := by
  intro B σ0 σ H env ts R z hm Q hq
  rcases bnd_inv hm with ⟨x, e, h1, rfl⟩ | ⟨x, e1, h1, h2⟩
  · exact ha B σ0 σ H env ts R _ h1 _ hq
  · refine ha B σ0 σ H env ts R _ h1 _ fun v H1 ⟨S, g⟩ => ?_
    split at h2
    · rename_i d hd
      split at h2
      · rename_i b hb
        cases h2
        exact ⟨b, tru_of (g.look (j := ts.length) (by simp) hd) hb, hq _ ⟨S, g.pop⟩⟩
      · cases h2
    · cases h2
def mAnd (a b : MT) : MT := fun e => bnd (a e) fun c e1 => if c = true then b e1 else some (.ok false e1)
def mOr (a b : MT) : MT := fun e => bnd (a e) fun c e1 => if c = true then some (.ok true e1) else b e1
def mNot (a : MT) : MT := fun e => bnd (a e) fun c e1 => some (.ok (!c) e1)
theorem st_and (ha : ST C tt mt) (hb : ST C tu mu) : ST C (tAnd tt tu) (mAnd mt mu) := by
  intro B σ0 σ H env ts R z hm Q hq
  rcases bnd_inv hm with ⟨x, e, h1, rfl⟩ | ⟨c, e1, h1, h2⟩
  · exact ha B σ0 σ H env ts R _ h1 _ hq
  · refine ha B σ0 σ H env ts R _ h1 _ fun H1 R1 => ?_
    cases c with
    | true => rw [if_pos rfl] at h2 ⊢; exact hb B σ0 σ H1 e1 ts R1 _ h2 _ hq
    | false => rw [if_neg Bool.false_ne_true] at h2 ⊢; cases h2; exact hq _ R1
theorem st_or (ha : ST C tt mt) (hb : ST C tu mu) : ST C (tOr tt tu) (mOr mt mu) := by
  intro B σ0 σ H env ts R z hm Q hq
  rcases bnd_inv hm with ⟨x, e, h1, rfl⟩ | ⟨c, e1, h1, h2⟩
  · exact ha B σ0 σ H env ts R _ h1 _ hq
  · refine ha B σ0 σ H env ts R _ h1 _ fun H1 R1 => ?_
    cases c with
    | true => rw [if_pos rfl] at h2 ⊢; cases h2; exact hq _ R1
    | false => rw [if_neg Bool.false_ne_true] at h2 ⊢; exact hb B σ0 σ H1 e1 ts R1 _ h2 _ hq
theorem st_not (ha : ST C tt mt) : ST C (tNot tt) (mNot mt) := by
  intro B σ0 σ H env ts R z hm Q hq
  rcases bnd_inv hm with ⟨x, e, h1, rfl⟩ | ⟨c, e1, h1, h2⟩
  · exact ha B σ0 σ H env ts R _ h1 _ hq
  · cases h2
    exact ha B σ0 σ H env ts R _ h1 _ fun H1 R1 => hq _ R1
theorem st_yes : ST C tYes (fun e => some (.ok true e)) := by
  intro B σ0 σ H env ts R z hm Q hq
  cases hm
  exact hq _ R
def mIfE (t : MT) (a b : ME) : ME := fun e => bnd (t e) fun c e1 => if c = true then a e1 else b e1
theorem se_if (ht : ST C tt mt) (ha : SE C ta ma) (hb : SE C tb mb) : SE C (tIf tt ta tb) (mIfE mt ma mb) := by
  intro B σ0 σ H env ts R z hm Q hq
  rcases bnd_inv hm with ⟨x, e, h1, rfl⟩ | ⟨c, e1, h1, h2⟩
  · exact ht B σ0 σ H env ts R _ h1 _ hq
  · refine ht B σ0 σ H env ts R _ h1 _ fun H1 R1 => ?_
    cases c with
    | true => rw [if_pos rfl] at h2 ⊢; exact ha B σ0 σ H1 e1 ts R1 _ h2 _ hq
    | false => rw [if_neg Bool.false_ne_true] at h2 ⊢; exact hb B σ0 σ H1 e1 ts R1 _ h2 _ hq
theorem push_bl {B : Bs} {σ0 σ : St} {H : Hp} {env : Env} {ts : List (V × D)} (b : Bool) (R : Rep C B σ0 H σ env ts) : Rep C B σ0 H σ env (ts ++ [(.bl b, .bl b)]) := by
  obtain ⟨S, g⟩ := R
  exact Good.prim (ts1 := []) (by rw [List.append_nil]; exact g) (Post.dt (.bl b))
def mAndV (a b : ME) : ME := fun e => bnd (a e) fun x e1 => match x with
  | .bl true => b e1
  | .bl false => some (.ok (.bl false) e1)
  | _ => none
def mOrV (a b : ME) : ME := fun e => bnd (a e) fun x e1 => match x with
  | .bl true => some (.ok (.bl true) e1)
  | .bl false => b e1
  | _ => none
def mNotV (a : ME) : ME := fun e => bnd (a e) fun x e1 => match x with
  | .bl b => some (.ok (.bl (!b)) e1)
  | _ => none
theorem se_andV (ha : SE C ta ma) (hb : SE C tb mb) : SE C (tAndV ta tb) (mAndV ma mb) := by
  intro B σ0 σ H env ts R z hm Q hq
  rcases bnd_inv hm with ⟨x, e, h1, rfl⟩ | ⟨x, e1, h1, h2⟩
  · exact ha B σ0 σ H env ts R _ h1 _ hq
  · refine ha B σ0 σ H env ts R _ h1 _ fun v H1 R1 => ?_
    split at h2
    · obtain ⟨rfl, R2⟩ := tmp_bl R1
      exact ⟨true, rfl, by rw [if_pos rfl]; exact hb B σ0 σ H1 e1 ts R2 _ h2 _ hq⟩
    · cases h2
      obtain ⟨rfl, R2⟩ := tmp_bl R1
      exact ⟨false, rfl, by rw [if_neg Bool.false_ne_true]; exact hq _ _ R1⟩
    · cases h2
theorem se_orV (ha : SE C ta ma) (hb : SE C tb mb) : SE C (tOrV ta tb) (mOrV ma mb) := by
  intro B σ0 σ H env ts R z hm Q hq
  rcases bnd_inv hm with ⟨x, e, h1, rfl⟩ | ⟨x, e1, h1, h2⟩
  · exact ha B σ0 σ H env ts R _ h1 _ hq
  · refine ha B σ0 σ H env ts R _ h1 _ fun v H1 R1 => ?_
    split at h2
    · cases h2
      obtain ⟨rfl, R2⟩ := tmp_bl R1
      exact ⟨true, rfl, by rw [if_pos rfl]; exact hq _ _ R1⟩
    · obtain ⟨rfl, R2⟩ := tmp_bl R1
      exact ⟨false, rfl, by rw [if_neg Bool.false_ne_true]; exact hb B σ0 σ H1 e1 ts R2 _ h2 _ hq⟩
    · cases h2
theorem se_notV (ha : SE C ta ma) : SE C (tNotV ta) (mNotV ma) := by
  intro B σ0 σ H env ts R z hm Q hq
  rcases bnd_inv hm with ⟨x, e, h1, rfl⟩ | ⟨x, e1, h1, h2⟩
  · exact ha B σ0 σ H env ts R _ h1 _ hq
  · refine ha B σ0 σ H env ts R _ h1 _ fun v H1 R1 => ?_
    split at h2
    · cases h2
      obtain ⟨rfl, R2⟩ := tmp_bl R1
      exact ⟨_, rfl, hq _ _ (push_bl _ R2)⟩
    · cases h2
/-! taking what an alias names -/
def tk (x : D) (e : Env) : Option (D × Env) := match x with
  | .al k => (match e[k]? with
    | some (some d) => some (frz d, e.set k (some (frz d)))
    | _ => none)
  | d => some (d, e)
/-- taken into a container -/
def tkf (x : D) (e : Env) : Option (D × Env) := match tk x e with
  | some (d, e1) => some (frz d, e1)
  | none => none
theorem frz_fz {K : PySem.W.Frag} {ps : Addr → Prop} {H : Hp} {v : V} {d : D} (h : Dt K ps H v d) : frz d = d := by cases h <;> rfl
section
variable {B : Bs} {σ0 σ : St} {H H1 : Hp} {env env1 : Env} {ts ts1 : List (V × D)} {S : Ix → Addr → Prop} {v : V} {d : D}
theorem nsub {s : Ix → Addr → Prop} {k : Ix} {a : Addr} (g : Good C B σ0 H σ env ts S) (z : pset B (su S k fun _ => False) a) : pset B S a ∧ ¬ S k a := by
  rcases z with z | ⟨i, ⟨_, z⟩ | ⟨hi, z⟩⟩
  · exact ⟨.inl z, fun w => (g.sub k a w).2 z⟩
  · exact z.elim
  · exact ⟨.inr ⟨i, z⟩, fun w => hi (g.dis _ _ a z w)⟩
/-- slot k is given up for all -/
theorem Good.freeze (g : Good C B σ0 H σ env ts S) {k : Nat} (he : env[k]? = some (some d)) : Good C B σ0 H σ (env.set k (some (frz d))) ts (su S (.inl k) fun _ => False) := by
  obtain ⟨v, hv, ho⟩ := g.slot k d he
  exact g.put he hv _ .refl (fun a z => z.elim) (.fz (ho.frz fun a z => nsub (s := S) g z) fun _ z => z)
/-- the alias on top is taken -/
theorem Good.taken (g : Good C B σ0 H σ env (ts ++ (v, d) :: ts1) S) {d' : D} (h : tk d env = some (d', env1)) : ∃ S1, Good C B σ0 H σ env1 (ts ++ (v, d') :: ts1) S1 ∧ Ow C.K (pset B S1) H v d' (S1 (.inr ts.length)) := by
  have e : (ts ++ (v, d) :: ts1)[ts.length]? = some (v, d) := by simp
  rcases g.tmp _ v d e with ⟨k, rfl, h2⟩ | ho
  · simp only [tk] at h
    split at h
    case h_2 => cases h
    rename_i d0 h3
    cases h
    obtain ⟨v', hv', ho⟩ := g.slot k d0 h3
    rw [h2] at hv'; cases hv'
    have hdt : Dt C.K (pset B (su S (.inl k) fun _ => False)) H v (frz d0) := ho.frz fun a z => nsub (s := S) g z
    have g1 := g.freeze h3
    obtain ⟨a1, a2, a3, a4, a5, a6, a7⟩ := g1.upd (.inr ts.length) (fun _ => False) .refl (fun a z => z.elim)
    have hdt2 : Dt C.K (pset B (su (su S (.inl k) fun _ => False) (.inr ts.length) fun _ => False)) H v (frz d0) := hdt.move .refl fun a z => (a5 a z)
    have how : Ow C.K (pset B (su (su S (.inl k) fun _ => False) (.inr ts.length) fun _ => False)) H v (frz d0) (su (su S (.inl k) fun _ => False) (.inr ts.length) (fun _ => False) (.inr ts.length)) := .fz hdt2 fun b z => su_same.mp z
    refine ⟨_, ⟨a1, g.fr, a2, a3, a4, g1.len, g1.keep, fun i d' e => ?_, fun j v' d' e => ?_⟩, how⟩
    · obtain ⟨w, h1, h2⟩ := g1.slot i d' e
      exact ⟨w, h1, a7 (.inl i) w d' (by simp) h2⟩
    · by_cases hj : j = ts.length
      · subst hj
        simp at e
        obtain ⟨rfl, rfl⟩ := e
        exact .inr how
      · have e2 : (ts ++ (v, D.al k) :: ts1)[j]? = some (v', d') := by
          by_cases hj2 : j < ts.length
          · rw [List.getElem?_append_left hj2] at e ⊢; exact e
          · rw [List.getElem?_append_right (by omega)] at e ⊢
            obtain ⟨m, hm⟩ : ∃ m, j - ts.length = m + 1 := ⟨j - ts.length - 1, by omega⟩
            rw [hm] at e ⊢
            simpa using e
        rcases g1.tmp j v' d' e2 with h | h
        · exact .inl h
        · exact .inr (a7 (.inr j) v' d' (by simp [hj]) h)
  · have hn := ho.noAl
    have : tk d env = some (d, env) := by cases d <;> first | rfl | cases hn
    rw [this] at h; cases h
    exact ⟨S, g, ho⟩
/-- and given up -/
theorem Good.takenF (g : Good C B σ0 H σ env (ts ++ (v, d) :: ts1) S) {d' : D} (h : tkf d env = some (d', env1)) : ∃ S1, Good C B σ0 H σ env1 (ts ++ (v, d') :: ts1) S1 ∧ Dt C.K (pset B S1) H v d' := by
  unfold tkf at h
  split at h
  · rename_i d0 e1 h0
    cases h
    obtain ⟨S1, g1, ho⟩ := g.taken h0
    obtain ⟨a1, a2, a3, a4, a5, a6, a7⟩ := g1.upd (.inr ts.length) (fun _ => False) .refl (fun a z => z.elim)
    have hdt : Dt C.K (pset B (su S1 (.inr ts.length) fun _ => False)) H v (frz d0) := ho.frz fun a z => nsub (s := S1) g1 z
    refine ⟨_, ⟨a1, g1.fr, a2, a3, a4, g1.len, g1.keep, fun i d' e => ?_, fun j v' d' e => ?_⟩, hdt⟩
    · obtain ⟨w, h1, h2⟩ := g1.slot i d' e
      exact ⟨w, h1, a7 (.inl i) w d' (by simp) h2⟩
    · by_cases hj : j = ts.length
      · subst hj
        simp at e
        obtain ⟨rfl, rfl⟩ := e
        exact .inr (.fz hdt fun b z => su_same.mp z)
      · have e2 : (ts ++ (v, d0) :: ts1)[j]? = some (v', d') := by
          by_cases hj2 : j < ts.length
          · rw [List.getElem?_append_left hj2] at e ⊢; exact e
          · rw [List.getElem?_append_right (by omega)] at e ⊢
            obtain ⟨m, hm⟩ : ∃ m, j - ts.length = m + 1 := ⟨j - ts.length - 1, by omega⟩
            rw [hm] at e ⊢
            simpa using e
        rcases g1.tmp j v' d' e2 with h | h
        · exact .inl h
        · exact .inr (a7 (.inr j) v' d' (by simp [hj]) h)
  · cases h
def tkfA : List D → Env → Option (List D × Env)
  | [], e => some ([], e)
  | x :: xs, e => match tkf x e with
    | some (y, e1) => (match tkfA xs e1 with
      | some (ys, e2) => some (y :: ys, e2)
      | none => none)
    | none => none
theorem Good.takenA : ∀ {vs : List V} {xs ys : List D} {ts : List (V × D)} {env env1 : Env} {S : Ix → Addr → Prop}, Good C B σ0 H σ env (ts ++ vs.zip xs) S → vs.length = xs.length → tkfA xs env = some (ys, env1) → ∃ S1, Good C B σ0 H σ env1 (ts ++ vs.zip ys) S1 ∧ vs.length = ys.length ∧ ∀ (i : Nat) v d, vs[i]? = some v → ys[i]? = some d → isFz d = true
  | [], [], ys, ts, env, env1, S, g, hl, h => by
    cases h
    exact ⟨S, g, rfl, fun i v d e => by simp at e⟩
  | [], _ :: _, ys, ts, env, env1, S, g, hl, h => by simp at hl
  | _ :: _, [], ys, ts, env, env1, S, g, hl, h => by simp at hl
  | v :: vs, x :: xs, ys, ts, env, env1, S, g, hl, h => by
    unfold tkfA at h
    split at h
    · rename_i y e1 h1
      split at h
      · rename_i ys' e2 h2
        cases h
        obtain ⟨S1, g1, hd⟩ := Good.takenF (ts1 := vs.zip xs) (by simpa using g) h1
        obtain ⟨S2, g2, hl2, hf⟩ := Good.takenA (ts := ts ++ [(v, y)]) (vs := vs) (xs := xs) (by simpa using g1) (by simpa using hl) h2
        refine ⟨S2, by simpa using g2, by simp [hl2], fun i v' d' e1 e2 => ?_⟩
        cases i with
        | zero =>
          simp at e1 e2
          subst e1 e2
          cases hd <;> rfl
        | succ i => exact hf i v' d' (by simpa using e1) (by simpa using e2)
      · cases h
    · cases h
theorem Good.dtA {vs : List V} {ys : List D} (g : Good C B σ0 H σ env (ts ++ vs.zip ys) S) (hl : vs.length = ys.length) (hf : ∀ (i : Nat) v d, vs[i]? = some v → ys[i]? = some d → isFz d = true) : DtA C.K (pset B S) H vs ys := by
  refine ⟨hl, fun i v d e1 e2 => ?_⟩
  have e : (ts ++ vs.zip ys)[ts.length + i]? = some (v, d) := by
    rw [List.getElem?_append_right (by omega), Nat.add_sub_cancel_left, List.getElem?_zip_eq_some]
    exact ⟨e1, e2⟩
  rcases g.tmp _ v d e with ⟨k, rfl, _⟩ | ho
  · have := hf i v _ e1 e2
    cases this
  · exact ho.dt (hf i v d e1 e2)
end
def mLst (a : MA) : ME := fun e => bnd (a e) fun xs e1 => match tkfA xs e1 with
  | some (ys, e2) => if ys.length ≤ 16777216 then some (.ok (.mls ys) e2) else none
  | none => none
def mTup (a : MA) : ME := fun e => bnd (a e) fun xs e1 => match tkfA xs e1 with
  | some (ys, e2) => if ys.length ≤ 16777216 then some (.ok (.tup ys) e2) else none
  | none => none
theorem se_lst (ha : SA C tr mr) : SE C (tLst tr) (mLst mr) := by
  intro B σ0 σ H env ts R z hm Q hq
  rcases bnd_inv hm with ⟨x, e, h1, rfl⟩ | ⟨x, e1, h1, h2⟩
  · exact ha B σ0 σ H env ts R _ h1 _ hq
  · refine ha B σ0 σ H env ts R _ h1 _ fun vs H1 hl ⟨S, g⟩ => ?_
    split at h2
    · rename_i ys e2 h3
      split at h2
      · rename_i hsz
        cases h2
        obtain ⟨S1, g1, hl1, hf⟩ := g.takenA hl h3
        refine ⟨by rw [hl1, sizeLine_eq]; exact hsz, fun p hp => hq _ _ (g1.prim (Post.lst hp (g1.dtA hl1 hf)))⟩
      · cases h2
    · cases h2
theorem se_tup (ha : SA C tr mr) : SE C (tTup tr) (mTup mr) := by
  intro B σ0 σ H env ts R z hm Q hq
  rcases bnd_inv hm with ⟨x, e, h1, rfl⟩ | ⟨x, e1, h1, h2⟩
  · exact ha B σ0 σ H env ts R _ h1 _ hq
  · refine ha B σ0 σ H env ts R _ h1 _ fun vs H1 hl ⟨S, g⟩ => ?_
    split at h2
    · rename_i ys e2 h3
      split at h2
      · rename_i hsz
        cases h2
        obtain ⟨S1, g1, hl1, hf⟩ := g.takenA hl h3
        refine ⟨by rw [hl1, sizeLine_eq]; exact hsz, fun p hp => hq _ _ (g1.prim (Post.tup (fun a z => g1.ptrk z) hp (g1.dtA hl1 hf)))⟩
      · cases h2
    · cases h2
end
end Q


namespace Q
open PySem L2
theorem res_self {e : Env} {d : D} (h : isAl d = false) : res e d = some d := by cases d <;> first | rfl | cases h
/-! ### statements -/
inductive Fl where
  | nx | bk | ct
  | rt (d : D)
abbrev MS := M Fl
def NoAl (ts : List (V × D)) : Prop := ∀ p ∈ ts, isAl p.2 = false
def SOk (C : Cn) (B : Bs) (σ0 : St) (ts : List (V × D)) (E : Ends) : Rs Fl → Prop
  | .ok .nx e => ∀ σ' H', Rep C B σ0 H' σ' e ts → E.nx σ' H'
  | .ok .bk e => ∀ σ' H', Rep C B σ0 H' σ' e ts → E.bk σ' H'
  | .ok .ct e => ∀ σ' H', Rep C B σ0 H' σ' e ts → E.ct σ' H'
  | .ok (.rt d) e => ∀ v σ' H', isAl d = false → Rep C B σ0 H' σ' e (ts ++ [(v, d)]) → E.rt v H'
  | .ex x e => ∀ σ', XW C B σ0 σ' ts x e
def SS (C : Cn) (t : TS) (m : MS) : Prop := ∀ B σ0 σ H env ts, Rep C B σ0 H σ env ts → NoAl ts → ∀ r, m env = some r → ∀ E, SOk C B σ0 ts E r → t E σ H
/-- what is done with a value: a target -/
abbrev MG := D → Env → Option Env
def SG (C : Cn) (g : TG) (m : MG) : Prop := ∀ B σ0 σ H env ts v d e', Rep C B σ0 H σ env (ts ++ [(v, d)]) → isAl d = false → NoAl ts → m d env = some e' → ∀ N, (∀ σ' H', Rep C B σ0 H' σ' e' ts → N σ' H') → g v σ H N
abbrev MGs := List D → Env → Option Env
def SGs (C : Cn) (g : TGs) (m : MGs) : Prop := ∀ B σ0 σ H env ts vs ds e', Rep C B σ0 H σ env (ts ++ vs.zip ds) → vs.length = ds.length → (∀ d ∈ ds, isFz d = true) → NoAl ts → m ds env = some e' → ∀ N, (∀ σ' H', Rep C B σ0 H' σ' e' ts → N σ' H') → g vs σ H N
section
variable {C : Cn} {B : Bs} {σ0 σ : St} {H H1 : Hp} {env env1 : Env} {ts ts1 : List (V × D)} {S : Ix → Addr → Prop} {v : V} {d : D}
/-- the temporary on top goes into slot n -/
theorem Good.asg (g : Good C B σ0 H σ env (ts ++ (v, d) :: ts1) S) (hd : isAl d = false) (ht : NoAl ts) (ht1 : NoAl ts1) (n : Nat) (hA : C.A n = true) : Good C B σ0 H (σ.set n (some v)) (env.set n (some d)) (ts ++ (.non, .non) :: ts1) (su (su S (.inr ts.length) fun _ => False) (.inl n) (S (.inr ts.length))) := by
  have ho : Ow C.K (pset B S) H v d (S (.inr ts.length)) := by
    rcases g.tmp ts.length v d (by simp) with ⟨k, rfl, _⟩ | h
    · cases hd
    · exact h
  have hsub : ∀ i a, su (su S (.inr ts.length) fun _ => False) (.inl n) (S (.inr ts.length)) i a → ∃ j, S j a ∧ (i ≠ .inl n → j = i ∧ i ≠ .inr ts.length) ∧ (i = .inl n → j = .inr ts.length) := by
    rintro i a (⟨rfl, h⟩ | ⟨hi, ⟨rfl, h⟩ | ⟨hi2, h⟩⟩)
    · exact ⟨_, h, fun z => absurd rfl z, fun _ => rfl⟩
    · exact h.elim
    · exact ⟨i, h, fun _ => ⟨rfl, hi2⟩, fun z => absurd z hi⟩
  have hp : ∀ a, pset B (su (su S (.inr ts.length) fun _ => False) (.inl n) (S (.inr ts.length))) a → pset B S a := by
    rintro a (h | ⟨i, h⟩)
    · exact .inl h
    · obtain ⟨j, hj, _⟩ := hsub i a h; exact .inr ⟨j, hj⟩
  have mv : ∀ {v d s}, Ow C.K (pset B S) H v d s → Ow C.K (pset B (su (su S (.inr ts.length) fun _ => False) (.inl n) (S (.inr ts.length)))) H v d s := fun h => h.move .refl (fun a z => .inl (hp a z)) fun _ _ => rfl
  refine ⟨g.kp, g.fr, fun i a h => ?_, fun i a h => ?_, fun i j a h1 h2 => ?_, by rw [List.length_set, List.length_set]; exact g.len, ⟨fun j hj => ?_, by rw [List.length_set]; exact g.keep.2⟩, fun i d' e => ?_, fun j v' d' e => ?_⟩
  · obtain ⟨j, hj, _⟩ := hsub i a h; exact g.sub j a hj
  · obtain ⟨j, hj, _⟩ := hsub i a h; exact g.trk j a hj
  · obtain ⟨k1, q1, p1, r1⟩ := hsub i a h1
    obtain ⟨k2, q2, p2, r2⟩ := hsub j a h2
    have e := g.dis _ _ a q1 q2
    by_cases e1 : i = .inl n
    · by_cases e2 : j = .inl n
      · rw [e1, e2]
      · have := r1 e1; have := p2 e2; exact absurd (by rw [← this.1, ← e, r1 e1]) (p2 e2).2
    · by_cases e2 : j = .inl n
      · exact absurd (by rw [← (p1 e1).1, e, r2 e2]) (p1 e1).2
      · rw [← (p1 e1).1, ← (p2 e2).1]; exact e
  · rw [List.getElem?_set_ne (fun z => by subst z; rw [hA] at hj; cases hj)]; exact g.keep.1 j hj
  · by_cases hi : i = n
    · subst hi
      have hl : i < env.length := by
        have := (List.getElem?_eq_some_iff.mp e).1
        simpa using this
      rw [List.getElem?_set_self hl] at e
      cases e
      exact ⟨v, by rw [List.getElem?_set_self (by rw [g.len]; exact hl)], (mv ho).iff fun b => su_same⟩
    · rw [List.getElem?_set_ne (Ne.symm hi)] at e
      obtain ⟨w, h1, h2⟩ := g.slot i d' e
      refine ⟨w, by rw [List.getElem?_set_ne (Ne.symm hi)]; exact h1, (mv h2).iff fun b => ?_⟩
      rw [su_ne (by simp [hi]), su_ne (by simp)]
  · by_cases hj : j = ts.length
    · subst hj
      simp at e
      obtain ⟨rfl, rfl⟩ := e
      refine .inr (.fz .non fun b z => ?_)
      rw [su_ne (by simp)] at z
      exact su_same.mp z
    · have e2 : (ts ++ (v, d) :: ts1)[j]? = some (v', d') := by
        by_cases hj2 : j < ts.length
        · rw [List.getElem?_append_left hj2] at e ⊢; exact e
        · rw [List.getElem?_append_right (by omega)] at e ⊢
          obtain ⟨m, hm⟩ : ∃ m, j - ts.length = m + 1 := ⟨j - ts.length - 1, by omega⟩
          rw [hm] at e ⊢
          simpa using e
      have hna : isAl d' = false := by
        by_cases hj2 : j < ts.length
        · rw [List.getElem?_append_left hj2] at e
          exact ht _ (List.mem_of_getElem? e)
        · rw [List.getElem?_append_right (by omega)] at e
          obtain ⟨m, hm⟩ : ∃ m, j - ts.length = m + 1 := ⟨j - ts.length - 1, by omega⟩
          rw [hm] at e
          exact ht1 _ (List.mem_of_getElem? (by simpa using e))
      rcases g.tmp j v' d' e2 with ⟨k, rfl, _⟩ | h
      · cases hna
      · refine .inr ((mv h).iff fun b => ?_)
        rw [su_ne (by simp), su_ne (by simp [hj])]
theorem NoAl.snoc (h : NoAl ts) (hd : isAl d = false) : NoAl (ts ++ [(v, d)]) := fun p hp => by
  rcases List.mem_append.mp hp with hp | hp
  · exact h p hp
  · simp at hp; subst hp; exact hd
end
def gNm (n : Nat) : MG := fun d e => some (e.set n (some d))
theorem sg_name {C : Cn} {n : Nat} (hA : C.A n = true) : SG C (gName n) (gNm n) := by
  rintro B σ0 σ H env ts v d e' ⟨S, g⟩ hd ht hm N hN
  cases hm
  exact hN _ _ ⟨_, (g.asg (ts1 := []) hd ht (fun p hp => by simp at hp) n hA).pop⟩
def gsNil : MGs := fun ds e => match ds with | [] => some e | _ => none
def gsCons (g : MG) (r : MGs) : MGs := fun ds e => match ds with
  | d :: ds => (match g d e with | some e1 => r ds e1 | none => none)
  | [] => none
theorem sgs_nil {C : Cn} : SGs C gNil gsNil := by
  rintro B σ0 σ H env ts vs ds e' R hl hf ht hm N hN
  cases ds with
  | nil =>
    cases hm
    have : vs = [] := List.eq_nil_of_length_eq_zero (by simpa using hl)
    subst this
    exact ⟨rfl, hN _ _ (by simpa using R)⟩
  | cons d ds => cases hm
/-- a name takes the first of several -/
theorem sgs_name {C : Cn} {n : Nat} {t : TGs} {m : MGs} (hA : C.A n = true) (h : SGs C t m) : SGs C (gCons (gName n) t) (gsCons (gNm n) m) := by
  rintro B σ0 σ H env ts vs ds e' R hl hf ht hm N hN
  cases ds with
  | nil => cases hm
  | cons d ds =>
    cases vs with
    | nil => simp at hl
    | cons v vs =>
      refine ⟨v, vs, rfl, ?_⟩
      obtain ⟨S, g⟩ := R
      have hz : NoAl (vs.zip ds) := fun p hp => by
        obtain ⟨x, y⟩ := p
        have := hf y (List.mem_cons_of_mem _ (List.of_mem_zip hp).2)
        cases y <;> first | rfl | cases this
      have hd : isAl d = false := by
        have := hf d (by simp)
        cases d <;> first | rfl | cases this
      have g1 := Good.asg (ts1 := vs.zip ds) (by simpa using g) hd ht hz n hA
      refine h B σ0 _ H _ (ts ++ [(.non, .non)]) vs ds e' ⟨_, by simpa using g1⟩ (by simpa using hl) (fun d' hd' => hf d' (by simp [hd'])) (ht.snoc rfl) hm N fun σ' H' R' => hN σ' H' R'.pop
/-- a, b = .. -/
def gUn (n : Nat) (m : MGs) : MG := fun d e => match seqD d with
  | some ds => if ds.length = n then m ds e else none
  | none => none
section
variable {C : Cn} {te ta tb tc : TE} {ma mb mc : ME} {tt tu : TT} {mt mu : MT} {tr : TA} {mr : MA} {t u : TS} {ms mv : MS}
theorem pushA {B : Bs} {σ0 σ : St} {H : Hp} {env : Env} : ∀ {vs : List V} {ds : List D} {ts : List (V × D)} {S : Ix → Addr → Prop}, Good C B σ0 H σ env ts S → DtA C.K (pset B S) H vs ds → (∀ d ∈ ds, isFz d = true) ∧ Rep C B σ0 H σ env (ts ++ vs.zip ds)
  | [], [], ts, S, g, h => ⟨fun d hd => by simp at hd, by simp only [List.zip_nil_left, List.append_nil]; exact ⟨S, g⟩⟩
  | [], _ :: _, ts, S, g, h => by have := h.1; simp at this
  | _ :: _, [], ts, S, g, h => by have := h.1; simp at this
  | v :: vs, d :: ds, ts, S, g, h => by
    have hd : Dt C.K (pset B S) H v d := h.2 0 v d rfl rfl
    have ht : DtA C.K (pset B S) H vs ds := ⟨by simpa using h.1, fun i x y e1 e2 => h.2 (i + 1) x y (by simpa using e1) (by simpa using e2)⟩
    have g1 := g.push (H1 := H) (v := v) (d := d) ts.length (Nat.le_refl _) (fun _ => False) .refl (fun a z => z.elim) (.fz (hd.move .refl fun a z => .inl (nsub (s := S) g z).1) fun _ z => z)
    rw [List.take_length] at g1
    obtain ⟨h1, h2⟩ := pushA (vs := vs) (ds := ds) g1 (ht.move .refl fun a z => .inl (nsub (s := S) g z).1)
    refine ⟨fun d' hd' => ?_, by simpa using h2⟩
    rcases List.mem_cons.mp hd' with rfl | hd'
    · cases hd <;> rfl
    · exact h1 d' hd'
theorem sg_unp {n : Nat} {g : TGs} {m : MGs} (h : SGs C g m) : SG C (gUnp C.K n g) (gUn n m) := by
  rintro B σ0 σ H env ts v d e' ⟨S, gd⟩ hd ht hm N hN
  unfold gUn at hm
  split at hm
  · rename_i ds hs
    split at hm
    · rename_i hn
      have pk := gd.look (j := ts.length) (v := v) (d := d) (by simp) (res_self hd)
      obtain ⟨a, xs, rfl, hq, hA⟩ := pk.seq hs
      obtain ⟨hf, R⟩ := pushA gd.pop hA
      have go := h B σ0 σ H env ts xs ds e' R hA.1 hf ht hm N hN
      rcases hq with hq | hq
      · exact .inr ⟨a, xs, rfl, hq, by rw [hA.1]; exact hn, go⟩
      · exact .inl ⟨a, xs, rfl, hq, by rw [hA.1]; exact hn, go⟩
    · cases hm
  · cases hm
/-! statements -/
def mAsg (a : ME) (g : MG) : MS := fun e => bnd (a e) fun x e1 => match tk x e1 with
  | some (y, e2) => (match g y e2 with | some e3 => some (.ok .nx e3) | none => none)
  | none => none
theorem ss_asg {g : TG} {mg : MG} (ha : SE C ta ma) (hg : SG C g mg) : SS C (tAsg ta g) (mAsg ma mg) := by
  intro B σ0 σ H env ts R ht z hm E hE
  rcases bnd_inv hm with ⟨x, e, h1, rfl⟩ | ⟨x, e1, h1, h2⟩
  · exact ha B σ0 σ H env ts R _ h1 _ (hE σ)
  · refine ha B σ0 σ H env ts R _ h1 _ fun v H1 ⟨S, g1⟩ => ?_
    split at h2
    · rename_i y e2 h3
      split at h2
      · rename_i e3 h4
        cases h2
        obtain ⟨S1, g2, ho⟩ := g1.taken (ts1 := []) h3
        exact hg B σ0 σ H1 e2 ts v y e3 ⟨_, g2⟩ ho.noAl ht h4 _ hE
      · cases h2
    · cases h2
def mNext : MS := fun e => some (.ok .nx e)
theorem ss_next : SS C tNext mNext := by
  intro B σ0 σ H env ts R ht z hm E hE
  cases hm
  exact hE σ H R
def mBreak : MS := fun e => some (.ok .bk e)
def mCont : MS := fun e => some (.ok .ct e)
theorem ss_break : SS C tBreak mBreak := by
  intro B σ0 σ H env ts R ht z hm E hE
  cases hm
  exact hE σ H R
theorem ss_cont : SS C tCont mCont := by
  intro B σ0 σ H env ts R ht z hm E hE
  cases hm
  exact hE σ H R
def mSeq (a b : MS) : MS := fun e => bnd (a e) fun f e1 => match f with
  | .nx => b e1
  | f => some (.ok f e1)
theorem ss_seq (ha : SS C t ms) (hb : SS C u mv) : SS C (tSeq t u) (mSeq ms mv) := by
  intro B σ0 σ H env ts R ht z hm E hE
  rcases bnd_inv hm with ⟨x, e, h1, rfl⟩ | ⟨f, e1, h1, h2⟩
  · exact ha B σ0 σ H env ts R ht _ h1 _ hE
  · refine ha B σ0 σ H env ts R ht _ h1 _ ?_
    cases f with
    | nx => exact fun σ' H' R' => hb B σ0 σ' H' e1 ts R' ht _ h2 _ hE
    | bk => cases h2; exact hE
    | ct => cases h2; exact hE
    | rt d => cases h2; exact hE
def mDrop (a : ME) : MS := fun e => bnd (a e) fun _ e1 => some (.ok .nx e1)
theorem ss_drop (ha : SE C ta ma) : SS C (tDrop ta) (mDrop ma) := by
  intro B σ0 σ H env ts R ht z hm E hE
  rcases bnd_inv hm with ⟨x, e, h1, rfl⟩ | ⟨x, e1, h1, h2⟩
  · exact ha B σ0 σ H env ts R _ h1 _ (hE σ)
  · cases h2
    exact ha B σ0 σ H env ts R _ h1 _ fun v H1 R1 => hE σ H1 R1.pop
def mIfS (c : MT) (a b : MS) : MS := fun e => bnd (c e) fun x e1 => if x = true then a e1 else b e1
theorem ss_if (hc : ST C tt mt) (ha : SS C t ms) (hb : SS C u mv) : SS C (tIfS tt t u) (mIfS mt ms mv) := by
  intro B σ0 σ H env ts R ht z hm E hE
  rcases bnd_inv hm with ⟨x, e, h1, rfl⟩ | ⟨c, e1, h1, h2⟩
  · exact hc B σ0 σ H env ts R _ h1 _ (hE σ)
  · refine hc B σ0 σ H env ts R _ h1 _ fun H1 R1 => ?_
    cases c with
    | true => rw [if_pos rfl] at h2 ⊢; exact ha B σ0 σ H1 e1 ts R1 ht _ h2 _ hE
    | false => rw [if_neg Bool.false_ne_true] at h2 ⊢; exact hb B σ0 σ H1 e1 ts R1 ht _ h2 _ hE
/-- return e: what slot k (no parameter) has goes out -/
def out (np : Nat) (x : D) (e : Env) : Option (D × Env) := match x with
  | .al k => if k < np then tk x e else (match e[k]? with
    | some (some d) => some (d, e.set k none)
    | _ => none)
  | d => some (d, e)
def mRet (np : Nat) (a : ME) : MS := fun e => bnd (a e) fun x e1 => match out np x e1 with
  | some (y, e2) => some (.ok (.rt y) e2)
  | none => none
theorem Good.outs {B : Bs} {σ0 σ : St} {H : Hp} {env env1 : Env} {ts : List (V × D)} {S : Ix → Addr → Prop} {v : V} {d d' : D} {np : Nat} (g : Good C B σ0 H σ env (ts ++ [(v, d)]) S) (ht : NoAl ts) (h : out np d env = some (d', env1)) : isAl d' = false ∧ Rep C B σ0 H σ env1 (ts ++ [(v, d')]) := by
  by_cases ha : ∃ k, d = .al k ∧ ¬ k < np
  · obtain ⟨k, rfl, hk⟩ := ha
    simp only [out, if_neg hk] at h
    rcases g.tmp ts.length v (.al k) (by simp) with ⟨k', e, h2⟩ | ho
    · cases e
      split at h
      case h_2 => cases h
      rename_i h3
      cases h
      obtain ⟨v', hv', ho⟩ := g.slot k d' h3
      rw [h2] at hv'; cases hv'
      refine ⟨ho.noAl, ?_⟩
      have hsub : ∀ i a, su (su S (.inl k) fun _ => False) (.inr ts.length) (S (.inl k)) i a → ∃ j, S j a ∧ (i ≠ .inr ts.length → j = i ∧ i ≠ .inl k) ∧ (i = .inr ts.length → j = .inl k) := by
        rintro i a (⟨rfl, h⟩ | ⟨hi, ⟨rfl, h⟩ | ⟨hi2, h⟩⟩)
        · exact ⟨_, h, fun z => absurd rfl z, fun _ => rfl⟩
        · exact h.elim
        · exact ⟨i, h, fun _ => ⟨rfl, hi2⟩, fun z => absurd z hi⟩
      have hp : ∀ a, pset B (su (su S (.inl k) fun _ => False) (.inr ts.length) (S (.inl k))) a → pset B S a := by
        rintro a (h | ⟨i, h⟩)
        · exact .inl h
        · obtain ⟨j, hj, _⟩ := hsub i a h; exact .inr ⟨j, hj⟩
      have mv : ∀ {v d s}, Ow C.K (pset B S) H v d s → Ow C.K (pset B (su (su S (.inl k) fun _ => False) (.inr ts.length) (S (.inl k)))) H v d s := fun h => h.move .refl (fun a z => .inl (hp a z)) fun _ _ => rfl
      refine ⟨su (su S (.inl k) fun _ => False) (.inr ts.length) (S (.inl k)), g.kp, g.fr, fun i a h => ?_, fun i a h => ?_, fun i j a h1 h2 => ?_, by rw [List.length_set]; exact g.len, g.keep, fun i d1 e => ?_, fun j v1 d1 e => ?_⟩
      · obtain ⟨j, hj, _⟩ := hsub i a h; exact g.sub j a hj
      · obtain ⟨j, hj, _⟩ := hsub i a h; exact g.trk j a hj
      · obtain ⟨k1, q1, p1, r1⟩ := hsub i a h1
        obtain ⟨k2, q2, p2, r2⟩ := hsub j a h2
        have e := g.dis _ _ a q1 q2
        by_cases e1 : i = .inr ts.length
        · by_cases e2 : j = .inr ts.length
          · rw [e1, e2]
          · exact absurd (by rw [← (p2 e2).1, ← e, r1 e1]) (p2 e2).2
        · by_cases e2 : j = .inr ts.length
          · exact absurd (by rw [← (p1 e1).1, e, r2 e2]) (p1 e1).2
          · rw [← (p1 e1).1, ← (p2 e2).1]; exact e
      · have hik : i ≠ k := fun z => by
          subst z
          rw [List.getElem?_set_self (List.getElem?_eq_some_iff.mp h3).1] at e
          cases e
        rw [List.getElem?_set_ne (Ne.symm hik)] at e
        obtain ⟨w, h1, h2⟩ := g.slot i d1 e
        refine ⟨w, h1, (mv h2).iff fun b => ?_⟩
        rw [su_ne (by simp), su_ne (by simp [hik])]
      · by_cases hj : j = ts.length
        · subst hj
          simp at e
          obtain ⟨rfl, rfl⟩ := e
          exact .inr ((mv ho).iff fun b => su_same)
        · have hj2 : j < ts.length := by
            have := (List.getElem?_eq_some_iff.mp e).1
            simp at this
            omega
          rw [List.getElem?_append_left hj2] at e
          have hna := ht _ (List.mem_of_getElem? e)
          rcases g.tmp j v1 d1 (by rw [List.getElem?_append_left hj2]; exact e) with ⟨k2, rfl, _⟩ | h
          · cases hna
          · refine .inr ((mv h).iff fun b => ?_)
            rw [su_ne (by simp [hj]), su_ne (by simp)]
    · exact absurd ho.noAl (by simp [isAl])
  · have h' : tk d env = some (d', env1) := by
      cases d with
      | al k =>
        have hk : k < np := Decidable.byContradiction fun z => ha ⟨k, rfl, z⟩
        simp only [out, if_pos hk] at h
        exact h
      | _ => exact h
    obtain ⟨S1, g1, ho⟩ := g.taken (ts1 := []) h'
    exact ⟨ho.noAl, _, g1⟩
theorem ss_ret {np : Nat} (ha : SE C ta ma) : SS C (tRet ta) (mRet np ma) := by
  intro B σ0 σ H env ts R ht z hm E hE
  rcases bnd_inv hm with ⟨x, e, h1, rfl⟩ | ⟨x, e1, h1, h2⟩
  · exact ha B σ0 σ H env ts R _ h1 _ (hE σ)
  · refine ha B σ0 σ H env ts R _ h1 _ fun v H1 ⟨S, g1⟩ => ?_
    split at h2
    · rename_i y e2 h3
      cases h2
      obtain ⟨ha, R2⟩ := g1.outs ht h3
      exact hE v σ H1 ha R2
    · cases h2
def mRetN : MS := fun e => some (.ok (.rt .non) e)
theorem ss_retN : SS C tRetN mRetN := by
  rintro B σ0 σ H env ts ⟨S, g⟩ ht z hm E hE
  cases hm
  exact hE _ σ H rfl (Good.prim (ts1 := []) (by rw [List.append_nil]; exact g) (Post.dt .non))
/-- x += e -/
def mAug (n : Nat) (f : D → D → Option D) (a : ME) : MS := fun e => match e[n]? with
  | some (some x) => if isFz x = true then bnd (a e) fun y e1 => (match res e1 y with
    | some y' => (match f x y' with | some d => some (.ok .nx (e1.set n (some d))) | none => none)
    | none => none) else none
  | _ => none
theorem ss_aug {n : Nat} {r : TIp} {f : D → D → Option D} (hA : C.A n = true) (p : P2 C.K r f) (ha : SE C ta ma) : SS C (tAug n ta r) (mAug n f ma) := by
  rintro B σ0 σ H env ts ⟨S, g⟩ ht z hm E hE
  unfold mAug at hm
  split at hm
  · rename_i x hx
    split at hm
    · rename_i hfz
      obtain ⟨v, hv, ho⟩ := g.slot n x hx
      refine ⟨v, hv, ?_⟩
      have R0 : Rep C B σ0 H σ env (ts ++ [(v, x)]) := Good.prim (ts1 := []) (by rw [List.append_nil]; exact g) (Post.dt (ho.dt hfz))
      have hxa : isAl x = false := ho.noAl
      rcases bnd_inv hm with ⟨xx, e, h1, rfl⟩ | ⟨y, e1, h1, h2⟩
      · exact ha B σ0 σ H env _ R0 _ h1 _ (XW.push (hE σ))
      · refine ha B σ0 σ H env _ R0 _ h1 _ fun w H1 ⟨S1, g1⟩ => ?_
        rw [List.append_assoc] at g1
        split at h2
        · rename_i y' hy
          split at h2
          · rename_i d hd
            cases h2
            refine p _ _ _ _ _ _ _ _ (fun a z => g1.ptrk z) (g1.look (j := ts.length) (v := v) (d := x) (by simp) (res_self hxa)) (g1.look (j := ts.length + 1) (by simp) hy) hd fun u H2 pp => ?_
            obtain ⟨S2, g2⟩ := g1.prim pp
            have hda : isAl d = false := by
              obtain ⟨_, s', _, o⟩ := pp
              exact o.noAl
            exact hE _ _ ⟨_, (g2.asg (ts1 := []) hda ht (fun p hp => by simp at hp) n hA).pop⟩
          · cases h2
        · cases h2
    · cases hm
  · cases hm
end
end Q


namespace Q
open PySem L2
section
variable {C : Cn} {B : Bs} {σ0 σ : St} {H H1 : Hp} {env env1 : Env} {ts ts1 fr : List (V × D)} {S : Ix → Addr → Prop} {v : V} {d : D}
theorem XOk.less {ps qs : Addr → Prop} {x : Xc} {c : Value} {o : Option Addr} (h : XOk C ps H x c o) (hq : ∀ a, qs a → ps a) : XOk C qs H x c o := by
  refine ⟨h.1, ?_⟩
  rcases h.2 with h | ⟨d, fs, h1, h2, h3, h4, h5⟩
  · exact .inl h
  · exact .inr ⟨d, fs, h1, h2, fun z => h3 (hq d z), h4, h5.move .refl fun a z => .inl (hq a z)⟩
/-- what is held stands aside -/
theorem Rep.aside (r : Rep C B σ0 H σ env ts) : ∃ B' : Bs, Rep C B' σ0 H σ env [] ∧ ∀ H' e' ts' S', Good C B' σ0 H' σ e' ts' S' → ∃ U, Good C B σ0 H' σ e' (ts ++ ts') U ∧ ∀ a, pset B U a → pset B' S' a := by
  obtain ⟨S, g⟩ := r
  obtain ⟨T, hT⟩ : ∃ T : Ix → Addr → Prop, ∀ i a, T i a ↔ ∃ k, i = .inl k ∧ S i a := ⟨fun i a => ∃ k, i = .inl k ∧ S i a, fun _ _ => Iff.rfl⟩
  let B' : Bs := ⟨fun a => B.ps0 a ∨ ∃ j, S (.inr j) a, H, fun a => ∃ i, S (.inl i) a⟩
  have hps : ∀ a, pset B' T a → pset B S a := by
    rintro a ((h | ⟨j, h⟩) | ⟨i, h⟩)
    · exact .inl h
    · exact .inr ⟨_, h⟩
    · exact .inr ⟨_, ((hT i a).mp h).choose_spec.2⟩
  refine ⟨B', ⟨T, .refl, fun a h => ?_, fun i a h => ?_, fun i a h => ?_, fun i j a h1 h2 => ?_, g.len, g.keep, fun i d e => ?_, fun j v d e => by simp at e⟩, ?_⟩
  · rcases h with h | ⟨j, h⟩
    · exact ⟨g.ptrk (.inl h), fun ⟨i, z⟩ => (g.sub _ a z).2 h⟩
    · exact ⟨g.trk _ a h, fun ⟨i, z⟩ => by have := g.dis _ _ a h z; cases this⟩
  · obtain ⟨k, rfl, h⟩ := (hT i a).mp h
    refine ⟨.inl ⟨k, h⟩, ?_⟩
    rintro (z | ⟨j, z⟩)
    · exact (g.sub _ a h).2 z
    · have := g.dis _ _ a h z; cases this
  · exact g.trk i a ((hT i a).mp h).choose_spec.2
  · exact g.dis i j a ((hT i a).mp h1).choose_spec.2 ((hT j a).mp h2).choose_spec.2
  · obtain ⟨w, h1, h2⟩ := g.slot i d e
    exact ⟨w, h1, (h2.move .refl (fun a z => .inl (hps a z)) fun _ _ => rfl).iff fun b => (hT _ b).trans ⟨fun ⟨_, _, z⟩ => z, fun z => ⟨i, rfl, z⟩⟩⟩
  intro H' e' ts' S' g'
  let U : Ix → Addr → Prop := fun i a => match i with
    | .inl i => S' (.inl i) a
    | .inr j => if j < ts.length then S (.inr j) a else S' (.inr (j - ts.length)) a
  have hU : ∀ i a, U i a → (∃ k, S' k a ∧ ((∃ n, i = .inl n ∧ k = .inl n) ∨ ∃ n, i = .inr (ts.length + n) ∧ k = .inr n)) ∨ ∃ j, j < ts.length ∧ i = .inr j ∧ S (.inr j) a := by
    intro i a h
    cases i with
    | inl n => exact .inl ⟨.inl n, h, .inl ⟨n, rfl, rfl⟩⟩
    | inr j =>
      by_cases hj : j < ts.length
      · exact .inr ⟨j, hj, rfl, by simpa [U, hj] using h⟩
      · exact .inl ⟨.inr (j - ts.length), by simpa [U, hj] using h, .inr ⟨j - ts.length, by congr 1; omega, rfl⟩⟩
  have hB : ∀ a, (∃ i, S (.inl i) a) ∨ H a = none → (B.S0 a ∨ B.H0 a = none) := by
    rintro a (⟨i, h⟩ | h)
    · exact (g.sub _ a h).1
    · exact .inr (g.kp.dom a h)
  have hUp : ∀ a, pset B U a → pset B' S' a := by
    rintro a (h | ⟨i, h⟩)
    · exact .inl (.inl h)
    · rcases hU i a h with ⟨k, h, _⟩ | ⟨j, _, _, h⟩
      · exact .inr ⟨k, h⟩
      · exact .inl (.inr ⟨j, h⟩)
  have hkS : Kp (pset B S) H H' := g'.kp.more fun a ⟨i, z⟩ => .inr ⟨_, z⟩
  have hqS : ∀ a, pset B U a → pset B S a ∨ H a = none := by
    rintro a (h | ⟨i, h⟩)
    · exact .inl (.inl h)
    · rcases hU i a h with ⟨k, h, _⟩ | ⟨j, _, _, h⟩
      · rcases (g'.sub k a h).1 with ⟨i, z⟩ | z
        · exact .inl (.inr ⟨_, z⟩)
        · exact .inr z
      · exact .inl (.inr ⟨_, h⟩)
  refine ⟨U, ⟨⟨fun b o n e => ?_, fun b e => g.kp.dom b (g'.kp.dom b e)⟩, g.fr, fun i a h => ?_, fun i a h => ?_, fun i j a h1 h2 => ?_, g'.len, g'.keep, fun i d e => ?_, fun j v d e => ?_⟩, hUp⟩
  · refine g'.kp.get b o (fun ⟨i, z⟩ => ?_) (g.kp.get b o n e)
    rcases (g.sub _ b z).1 with z | z
    · exact n z
    · rw [z] at e; cases e
  · rcases hU i a h with ⟨k, h, _⟩ | ⟨j, _, _, h⟩
    · have := g'.sub k a h
      exact ⟨hB a this.1, fun z => this.2 (.inl z)⟩
    · exact g.sub _ a h
  · rcases hU i a h with ⟨k, h, _⟩ | ⟨j, _, _, h⟩
    · exact g'.trk k a h
    · exact fun z => g.trk _ a h (g'.kp.dom a z)
  · rcases hU i a h1 with ⟨k, h1, e1⟩ | ⟨j1, l1, rfl, h1'⟩
    · rcases hU j a h2 with ⟨k2, h2, e2⟩ | ⟨j2, l2, rfl, h2'⟩
      · have e := g'.dis _ _ a h1 h2
        subst e
        rcases e1 with ⟨n, rfl, rfl⟩ | ⟨n, rfl, rfl⟩
        · rcases e2 with ⟨n2, rfl, e2⟩ | ⟨n2, rfl, e2⟩
          · cases e2; rfl
          · cases e2
        · rcases e2 with ⟨n2, rfl, e2⟩ | ⟨n2, rfl, e2⟩
          · cases e2
          · cases e2; rfl
      · exact absurd (.inr ⟨_, h2'⟩) (g'.sub k a h1).2
    · rcases hU j a h2 with ⟨k2, h2, e2⟩ | ⟨j2, l2, rfl, h2'⟩
      · exact absurd (.inr ⟨_, h1'⟩) (g'.sub k2 a h2).2
      · exact g.dis _ _ a h1' h2'
  · obtain ⟨w, h1, h2⟩ := g'.slot i d e
    exact ⟨w, h1, h2.move .refl (fun a z => .inl (hUp a z)) fun _ _ => rfl⟩
  · by_cases hj : j < ts.length
    · rw [List.getElem?_append_left hj] at e
      rcases g.tmp j v d e with h | h
      · exact .inl h
      · refine .inr ((h.move hkS hqS fun a z => ?_).iff fun b => by simp [U, hj])
        have hn : ¬ B'.S0 a := fun ⟨i, w⟩ => by have := g.dis _ _ a z w; cases this
        cases e : H a with
        | none => exact absurd e (g.trk _ a z)
        | some o => exact g'.kp.get a o hn e
    · rw [List.getElem?_append_right (by omega)] at e
      rcases g'.tmp _ v d e with h | h
      · exact .inl h
      · exact .inr ((h.move .refl (fun a z => .inl (hUp a z)) fun _ _ => rfl).iff fun b => by simp [U, hj])
/-- what stands between goes -/
theorem Rep.mid (r : Rep C B σ0 H σ env (ts ++ fr ++ [(v, d)])) (hd : isAl d = false) : Rep C B σ0 H σ env (ts ++ [(v, d)]) := by
  obtain ⟨S, g⟩ := r
  have ho : Ow C.K (pset B S) H v d (S (.inr (ts ++ fr).length)) := by
    rcases g.tmp (ts ++ fr).length v d (by simp) with ⟨k, rfl, _⟩ | h
    · cases hd
    · exact h
  let U : Ix → Addr → Prop := fun i a => match i with
    | .inl i => S (.inl i) a
    | .inr j => if j < ts.length then S (.inr j) a else j = ts.length ∧ S (.inr (ts ++ fr).length) a
  have hU : ∀ i a, U i a → ∃ k, S k a ∧ ((i = k ∧ k ≠ .inr (ts ++ fr).length) ∨ (i = .inr ts.length ∧ k = .inr (ts ++ fr).length)) := by
    intro i a h
    cases i with
    | inl n => exact ⟨.inl n, h, .inl ⟨rfl, by simp⟩⟩
    | inr j =>
      by_cases hj : j < ts.length
      · exact ⟨.inr j, by simpa [U, hj] using h, .inl ⟨rfl, by simp; omega⟩⟩
      · have h' : j = ts.length ∧ S (.inr (ts ++ fr).length) a := by simpa [U, hj] using h
        exact ⟨_, h'.2, .inr ⟨by rw [h'.1], rfl⟩⟩
  have hp : ∀ a, pset B U a → pset B S a := by
    rintro a (h | ⟨i, h⟩)
    · exact .inl h
    · obtain ⟨k, h, _⟩ := hU i a h; exact .inr ⟨k, h⟩
  have mv : ∀ {v d s}, Ow C.K (pset B S) H v d s → Ow C.K (pset B U) H v d s := fun h => h.move .refl (fun a z => .inl (hp a z)) fun _ _ => rfl
  refine ⟨U, g.kp, g.fr, fun i a h => ?_, fun i a h => ?_, fun i j a h1 h2 => ?_, g.len, g.keep, fun i d e => ?_, fun j v' d' e => ?_⟩
  · obtain ⟨k, h, _⟩ := hU i a h; exact g.sub k a h
  · obtain ⟨k, h, _⟩ := hU i a h; exact g.trk k a h
  · obtain ⟨k1, h1, e1⟩ := hU i a h1
    obtain ⟨k2, h2, e2⟩ := hU j a h2
    have e := g.dis _ _ a h1 h2
    subst e
    rcases e1 with ⟨rfl, n1⟩ | ⟨rfl, q1⟩
    · rcases e2 with ⟨rfl, n2⟩ | ⟨rfl, q2⟩
      · rfl
      · exact absurd q2 n1
    · rcases e2 with ⟨rfl, n2⟩ | ⟨rfl, q2⟩
      · exact absurd q1 n2
      · rfl
  · obtain ⟨w, h1, h2⟩ := g.slot i d e
    exact ⟨w, h1, mv h2⟩
  · by_cases hj : j < ts.length
    · rw [List.getElem?_append_left hj] at e
      rcases g.tmp j v' d' (by rw [List.append_assoc, List.getElem?_append_left hj]; exact e) with h | h
      · exact .inl h
      · exact .inr ((mv h).iff fun b => by simp [U, hj])
    · rw [List.getElem?_append_right (by omega)] at e
      obtain ⟨m, hm⟩ : ∃ m, j - ts.length = m := ⟨_, rfl⟩
      rw [hm] at e
      cases m with
      | zero =>
        simp at e
        obtain ⟨rfl, rfl⟩ := e
        have : j = ts.length := by omega
        subst this
        exact .inr ((mv ho).iff fun b => by simp [U])
      | succ m => simp at e
theorem Good.mut (g : Good C B σ0 H σ env ts S) {n : Nat} {ds ds' : List D} {a : Addr} {xs xs' : List V} (he : env[n]? = some (some (.mls ds))) (hv : σ[n]? = some (some (.ref a))) (ha : H a = some (.lst xs)) (h' : DtA C.K (pset B S) H xs' ds') :
    Rep C B σ0 (L2.upd H a (.lst xs')) σ (env.set n (some (.mls ds'))) ts := by
  obtain ⟨v, hv', ho⟩ := g.slot n _ he
  rw [hv] at hv'; cases hv'
  cases ho with
  | fz h _ => cases h
  | mls h1 h2 h3 =>
    refine ⟨_, g.put he hv (S (.inl n)) (.mut ((h3 a).mpr rfl)) (fun b z => ⟨.inl z, ?_⟩) (.mls upd_same (h'.move (.mut (.inr ⟨_, (h3 a).mpr rfl⟩)) fun b z => ?_) h3)⟩
    · rw [(h3 b).mp z, upd_same]; simp
    · rcases z with z | ⟨i, ⟨rfl, z⟩ | ⟨_, z⟩⟩
      · exact .inl (.inl z)
      · exact .inl (.inr ⟨_, z⟩)
      · exact .inl (.inr ⟨_, z⟩)
end
/-! ### lists that change -/
def mApp (n : Nat) (a : ME) : ME := fun e => match e[n]? with
  | some (some (.mls _)) => bnd (a e) fun x e1 => (match tkf x e1 with
    | some (y, e2) => (match e2[n]? with
      | some (some (.mls ds)) => if ds.length < 16777216 then some (.ok .non (e2.set n (some (.mls (ds ++ [y]))))) else none
      | _ => none)
    | none => none)
  | _ => none
section
variable {C : Cn} {te ta tb tc : TE} {ma mb mc : ME} {tt tu : TT} {mt mu : MT} {tr : TA} {mr : MA} {t u : TS} {ms mv : MS}
theorem Good.mlsAt {B : Bs} {σ0 σ : St} {H : Hp} {env : Env} {ts : List (V × D)} {S : Ix → Addr → Prop} {n : Nat} {ds : List D} (g : Good C B σ0 H σ env ts S) (he : env[n]? = some (some (.mls ds))) : ∃ a xs, σ[n]? = some (some (.ref a)) ∧ H a = some (.lst xs) ∧ DtA C.K (pset B S) H xs ds := by
  obtain ⟨v, hv, ho⟩ := g.slot n _ he
  cases ho with
  | fz h _ => cases h
  | mls h1 h2 h3 => exact ⟨_, _, hv, h1, h2⟩
theorem se_app {n : Nat} (ha : SE C ta ma) : SE C (tBM C.K "list" rAppend (tVar n) (tCons ta tNil)) (mApp n ma) := by
  intro B σ0 σ H env ts R z hm Q hq
  obtain ⟨S, g⟩ := R
  unfold mApp at hm
  split at hm
  · rename_i ds0 he0
    obtain ⟨a, xs0, hv, ha0, _⟩ := g.mlsAt he0
    refine ⟨_, hv, tyL ha0, ?_⟩
    rcases bnd_inv hm with ⟨x, e, h1, rfl⟩ | ⟨x, e1, h1, h2⟩
    · exact ha B σ0 σ H env ts ⟨S, g⟩ _ h1 _ hq
    · refine ha B σ0 σ H env ts ⟨S, g⟩ _ h1 _ fun v H1 ⟨S1, g1⟩ => ?_
      split at h2
      · rename_i y e2 h3
        split at h2
        · rename_i ds h4
          split at h2
          · rename_i hsz
            cases h2
            obtain ⟨S2, g2, hy⟩ := g1.takenF (ts1 := []) h3
            obtain ⟨a', xs, hv', ha', hA⟩ := g2.mlsAt h4
            rw [hv] at hv'; cases hv'
            refine ⟨a, xs, v, rfl, rfl, ha', by rw [sizeLine_eq, hA.1]; exact hsz, ?_⟩
            have R3 := g2.pop.mut h4 hv ha' (hA.snoc hy)
            obtain ⟨S3, g3⟩ := R3
            exact hq _ _ (Good.prim (ts1 := []) (by rw [List.append_nil]; exact g3) (Post.dt .non))
          · cases h2
        · cases h2
      · cases h2
  · cases hm
def mExt (n : Nat) (a : ME) : ME := fun e => match e[n]? with
  | some (some (.mls _)) => bnd (a e) fun x e1 => (match res e1 x with
    | some y => (match e1[n]? with
      | some (some (.mls ds)) => (match y with
        | .lst es => if ds.length + es.length ≤ 16777216 then some (.ok .non (e1.set n (some (.mls (ds ++ es))))) else none
        | .mls es => if ds.length + es.length ≤ 16777216 then some (.ok .non (e1.set n (some (.mls (ds ++ es))))) else none
        | .tup es => if ds.length + es.length ≤ 16777216 then some (.ok .non (e1.set n (some (.mls (ds ++ es))))) else none
        | _ => none)
      | _ => none)
    | none => none)
  | _ => none
theorem se_ext {n : Nat} (ha : SE C ta ma) : SE C (tBM C.K "list" (rExtendD C.K) (tVar n) (tCons ta tNil)) (mExt n ma) := by
  intro B σ0 σ H env ts R z hm Q hq
  obtain ⟨S, g⟩ := R
  unfold mExt at hm
  split at hm
  · rename_i ds0 he0
    obtain ⟨a, xs0, hv, ha0, _⟩ := g.mlsAt he0
    refine ⟨_, hv, tyL ha0, ?_⟩
    rcases bnd_inv hm with ⟨x, e, h1, rfl⟩ | ⟨x, e1, h1, h2⟩
    · exact ha B σ0 σ H env ts ⟨S, g⟩ _ h1 _ hq
    · refine ha B σ0 σ H env ts ⟨S, g⟩ _ h1 _ fun v H1 ⟨S1, g1⟩ => ?_
      split at h2
      · rename_i y h3
        split at h2
        · rename_i ds h4
          have pk := g1.look (j := ts.length) (v := v) (d := x) (by simp) h3
          obtain ⟨a', xs, hv', ha', hA⟩ := g1.mlsAt h4
          rw [hv] at hv'; cases hv'
          have fin : ∀ {ys : List V} {es : List D}, DtA C.K (pset B S1) H1 ys es → some (Rs.ok D.non (e1.set n (some (.mls (ds ++ es))))) = some z → Q .non (upd H1 a (.lst (xs ++ ys))) := fun hE hz => by
            cases hz
            obtain ⟨S3, g3⟩ := g1.pop.mut h4 hv ha' (hA.append hE)
            exact hq _ _ (Good.prim (ts1 := []) (by rw [List.append_nil]; exact g3) (Post.dt .non))
          split at h2
          · split at h2
            · rename_i es hsz
              obtain ⟨b, ys, rfl, hb, hE⟩ := pk.lst
              exact .inl ⟨a, b, xs, ys, rfl, rfl, ha', hb, by rw [hA.1, hE.1, sizeLine_eq]; exact hsz, fin hE h2⟩
            · cases h2
          · split at h2
            · rename_i es hsz
              obtain ⟨b, ys, rfl, hb, hE⟩ := pk.mls
              exact .inl ⟨a, b, xs, ys, rfl, rfl, ha', hb, by rw [hA.1, hE.1, sizeLine_eq]; exact hsz, fin hE h2⟩
            · cases h2
          · split at h2
            · rename_i es hsz
              obtain ⟨b, ys, rfl, hb, hE⟩ := pk.tup
              exact .inr ⟨a, b, xs, ys, rfl, rfl, ha', hb, by rw [hA.1, hE.1, sizeLine_eq]; exact hsz, fin hE h2⟩
            · cases h2
          · cases h2
        · cases h2
      · cases h2
  · cases hm
/-- x[i] = v -/
def gIx (n : Nat) (a : ME) : MG := fun d e => match e[n]? with
  | some (some _) => (match a e with
    | some (.ok (.int i) e1) => (match e1[n]? with
      | some (some (.mls ds)) => (match ixN ds.length i with
        | some k => if isFz d = true then some (e1.set n (some (.mls (ds.set k d)))) else none
        | none => none)
      | _ => none)
    | _ => none)
  | _ => none
theorem sg_ix {n : Nat} (ha : SE C ta ma) : SG C (gSub (tVar n) ta rSetD) (gIx n ma) := by
  rintro B σ0 σ H env ts v d e' ⟨S, g⟩ hd ht hm N hN
  unfold gIx at hm
  split at hm
  case h_2 => cases hm
  rename_i d9 h9
  obtain ⟨w, hw, _⟩ := g.slot n _ h9
  split at hm
  · rename_i i e1 h1
    split at hm
    · rename_i ds h4
      split at hm
      · rename_i k hk
        split at hm
        · rename_i hfz
          cases hm
          refine ⟨w, hw, ha B σ0 σ H env _ ⟨S, g⟩ _ h1 _ fun u H1 ⟨S1, g1⟩ => ?_⟩
          obtain ⟨a, xs, hv, ha', hA⟩ := g1.mlsAt h4
          rw [hw] at hv; cases hv
          have hi : u = .int i := by
            rcases g1.tmp (ts ++ [(v, d)]).length u (.int i) (by simp) with ⟨k, e, _⟩ | h
            · cases e
            · exact (h.dt rfl).inv_int
          subst hi
          have hdv : Dt C.K (pset B S1) H1 v d := by
            rcases g1.tmp ts.length v d (by simp) with ⟨k, rfl, _⟩ | h
            · cases hd
            · exact h.dt hfz
          refine .inl ⟨a, xs, i, k, rfl, rfl, ha', by rw [hA.1]; exact hk, ?_⟩
          obtain ⟨S3, g3⟩ := g1.pop.mut h4 hw ha' (hA.set hdv k)
          exact hN _ _ ⟨S3, g3.pop⟩
        · cases hm
      · cases hm
    · cases hm
  · cases hm
end
end Q


namespace Q
open PySem L2
/-! ### slices, chains -/
abbrev MO := M (Option Int)
def OOk (C : Cn) (B : Bs) (σ0 σ : St) (ts : List (V × D)) (R : Option Int → Hp → Prop) : Rs (Option Int) → Prop
  | .ok b e => ∀ H', Rep C B σ0 H' σ e ts → R b H'
  | .ex x e => XW C B σ0 σ ts x e
def SO (C : Cn) (t : TO) (m : MO) : Prop := ∀ B σ0 σ H env ts, Rep C B σ0 H σ env ts → ∀ r, m env = some r → ∀ R, OOk C B σ0 σ ts R r → t σ H R
section
variable {C : Cn} {te ta tb tc : TE} {ma mb mc : ME} {tt tu : TT} {mt mu : MT} {tr : TA} {mr : MA} {t u : TS} {ms mv : MS}
def mNoPart : MO := fun e => some (.ok none e)
def mPart (a : ME) : MO := fun e => bnd (a e) fun x e1 => match x with
  | .int i => some (.ok (some i) e1)
  | _ => none
theorem so_none : SO C tNoPart mNoPart := by
  intro B σ0 σ H env ts R z hm Q hq
  cases hm
  exact hq H R
theorem tmp_int {B : Bs} {σ0 σ : St} {H : Hp} {env : Env} {ts : List (V × D)} {v : V} {b : Int} (R : Rep C B σ0 H σ env (ts ++ [(v, .int b)])) : v = .int b ∧ Rep C B σ0 H σ env ts := by
  refine ⟨?_, R.pop⟩
  obtain ⟨S, g⟩ := R
  rcases g.tmp ts.length v (.int b) (by simp) with ⟨k, e, _⟩ | h
  · cases e
  · exact (h.dt rfl).inv_int
theorem so_part (ha : SE C ta ma) : SO C (tPart ta) (mPart ma) := by
  intro B σ0 σ H env ts R z hm Q hq
  rcases bnd_inv hm with ⟨x, e, h1, rfl⟩ | ⟨x, e1, h1, h2⟩
  · exact ha B σ0 σ H env ts R _ h1 _ hq
  · refine ha B σ0 σ H env ts R _ h1 _ fun v H1 R1 => ?_
    split at h2
    · cases h2
      obtain ⟨rfl, R2⟩ := tmp_int R1
      exact ⟨_, rfl, hq _ R2⟩
    · cases h2
def PSl (K : PySem.W.Frag) (r : V → Option Int → Option Int → Hp → VK → Prop) (f : D → Option Int → Option Int → Option D) : Prop := ∀ ps H x d lo hi e Q, (∀ a, ps a → H a ≠ none) → Peek K ps H x d → f d lo hi = some e → (∀ v H', Post K ps H H' v e → Q v H') → r x lo hi H Q
def mSl (f : D → Option Int → Option Int → Option D) (a : ME) (l h : MO) : ME := fun e => bnd (a e) fun x e1 => bnd (l e1) fun lo e2 => bnd (h e2) fun hi e3 => match res e3 x with
  | some x' => (match f x' lo hi with | some d => some (.ok d e3) | none => none)
  | none => none
theorem se_sl {r : V → Option Int → Option Int → Hp → VK → Prop} {f : D → Option Int → Option Int → Option D} {tl th : TO} {ml mh : MO} (p : PSl C.K r f) (ha : SE C ta ma) (hl : SO C tl ml) (hh : SO C th mh) : SE C (tSl r ta tl th) (mSl f ma ml mh) := by
  intro B σ0 σ H env ts R z hm Q hq
  rcases bnd_inv hm with ⟨x, e, h1, rfl⟩ | ⟨x, e1, h1, h2⟩
  · exact ha B σ0 σ H env ts R _ h1 _ hq
  · refine ha B σ0 σ H env ts R _ h1 _ fun v H1 R1 => ?_
    rcases bnd_inv h2 with ⟨x2, e, h3, rfl⟩ | ⟨lo, e2, h3, h4⟩
    · exact hl B σ0 σ H1 e1 _ R1 _ h3 _ (XW.push hq)
    · refine hl B σ0 σ H1 e1 _ R1 _ h3 _ fun H2 R2 => ?_
      rcases bnd_inv h4 with ⟨x2, e, h5, rfl⟩ | ⟨hi, e3, h5, h6⟩
      · exact hh B σ0 σ H2 e2 _ R2 _ h5 _ (XW.push hq)
      · refine hh B σ0 σ H2 e2 _ R2 _ h5 _ fun H3 ⟨S, g⟩ => ?_
        split at h6
        · rename_i x' hx
          split at h6
          · rename_i d hd
            cases h6
            exact p _ _ _ _ _ _ _ _ (fun a z => g.ptrk z) (g.look (j := ts.length) (by simp) hx) hd fun w H2 pp => hq w H2 (g.prim pp)
          · cases h6
        · cases h6
/-- a < b < c -/
def mChain (f f' : D → D → Option D) (a b c : ME) : ME := fun e => bnd (a e) fun x e1 => bnd (b e1) fun y e2 => bnd (ap2 f x y e2) fun k e3 => match k with
  | .bl true => bnd (c e3) fun w e4 => ap2 f' y w e4
  | .bl false => some (.ok (.bl false) e3)
  | _ => none
theorem se_chain {r r' : R2} {f f' : D → D → Option D} (p : P2 C.K r f) (p' : P2 C.K r' f') (ha : SE C ta ma) (hb : SE C tb mb) (hc : SE C tc mc) : SE C (tChain r r' ta tb tc) (mChain f f' ma mb mc) := by
  intro B σ0 σ H env ts R z hm Q hq
  rcases bnd_inv hm with ⟨x, e, h1, rfl⟩ | ⟨x, e1, h1, h2⟩
  · exact ha B σ0 σ H env ts R _ h1 _ hq
  · refine ha B σ0 σ H env ts R _ h1 _ fun v H1 R1 => ?_
    rcases bnd_inv h2 with ⟨x2, e, h3, rfl⟩ | ⟨y, e2, h3, h4⟩
    · exact hb B σ0 σ H1 e1 _ R1 _ h3 _ (XW.push hq)
    · refine hb B σ0 σ H1 e1 _ R1 _ h3 _ fun w H2 ⟨S, g⟩ => ?_
      rw [List.append_assoc] at g
      rcases bnd_inv h4 with ⟨x2, e, h5, rfl⟩ | ⟨k, e3, h5, h6⟩
      · unfold ap2 at h5; split at h5 <;> (try split at h5) <;> (try split at h5) <;> cases h5
      · unfold ap2 at h5
        split at h5
        · rename_i x' hx
          split at h5
          · rename_i y' hy
            split at h5
            · rename_i d hd
              obtain ⟨rfl, rfl⟩ : d = k ∧ e2 = e3 := by cases h5; exact ⟨rfl, rfl⟩
              refine p _ _ _ _ _ _ _ _ (fun a z => g.ptrk z) (g.look (j := ts.length) (by simp) hx) (g.look (j := ts.length + 1) (by simp) hy) hd fun b H3 pp => ?_
              have R3 : Rep C B σ0 H3 σ e2 (ts ++ [(v, x), (w, y)] ++ [(b, d)]) := Good.prim (ts1 := []) (by rw [List.append_nil]; exact g) pp
              split at h6
              · obtain ⟨rfl, R4⟩ := tmp_bl R3
                refine ⟨true, rfl, ?_⟩
                rw [if_pos rfl]
                rcases bnd_inv h6 with ⟨x2, e, h7, rfl⟩ | ⟨u, e4, h7, h8⟩
                · exact hc B σ0 σ H3 e2 _ R4 _ h7 _ (XW.push hq)
                · refine hc B σ0 σ H3 e2 _ R4 _ h7 _ fun w' H4 ⟨S4, g4⟩ => ?_
                  rw [List.append_assoc] at g4
                  unfold ap2 at h8
                  split at h8
                  · rename_i y2 hy2
                    split at h8
                    · rename_i u2 hu2
                      split at h8
                      · rename_i d2 hd2
                        cases h8
                        exact p' _ _ _ _ _ _ _ _ (fun a z => g4.ptrk z) (g4.look (j := ts.length + 1) (by simp) hy2) (g4.look (j := ts.length + 2) (by simp) hu2) hd2 fun w H2 pp => hq w H2 (g4.prim pp)
                      · cases h8
                    · cases h8
                  · cases h8
              · cases h6
                obtain ⟨rfl, R4⟩ := tmp_bl R3
                exact ⟨false, rfl, by rw [if_neg Bool.false_ne_true]; exact hq _ _ (push_bl _ R4.pop)⟩
              · cases h6
            · cases h5
          · cases h5
        · cases h5
end
/-! ### loops -/
abbrev MI := M (List D)
def Yd (K : PySem.W.Frag) (J : It) (fr : List (V × D)) (xs : List D) : Prop := ∀ ps H, (∀ a, ps a → H a ≠ none) → (∀ p ∈ fr, Dt K ps H p.1 p.2) → ∀ i, (∀ d, xs[i]? = some d → J.go i H ∧ ∀ v H', J.yld i H v H' → Kp (fun _ => False) H H' ∧ Dt K ps H' v d) ∧ (xs.length ≤ i → J.stop i H)
def IOk (C : Cn) (B : Bs) (σ0 σ : St) (ts : List (V × D)) (R : It → Hp → Prop) : Rs (List D) → Prop
  | .ok xs e => ∀ J H' fr, Yd C.K J fr xs → (∀ p ∈ fr, isFz p.2 = true) → Rep C B σ0 H' σ e (ts ++ fr) → R J H'
  | .ex x e => XW C B σ0 σ ts x e
def SI (C : Cn) (w : TI) (m : MI) : Prop := ∀ B σ0 σ H env ts, Rep C B σ0 H σ env ts → ∀ r, m env = some r → ∀ R, IOk C B σ0 σ ts R r → w σ H R
def rngD (lo : Int) (n : Nat) : List D := (List.range n).map fun k => .int (lo + (k : Nat))
def rngC (lo : Int) (n : Nat) : List D := (List.range n).map fun k => .int (lo - (k : Nat))
theorem rngD_get {lo : Int} {n i : Nat} {d : D} (h : (rngD lo n)[i]? = some d) : i < n ∧ d = .int (lo + i) := by
  unfold rngD at h
  rw [List.getElem?_map] at h
  have hi : i < n := by
    rcases Nat.lt_or_ge i n with h1 | h1
    · exact h1
    · rw [List.getElem?_eq_none (by simpa using h1)] at h; cases h
  rw [List.getElem?_range hi] at h
  cases h
  exact ⟨hi, rfl⟩
theorem rngC_get {lo : Int} {n i : Nat} {d : D} (h : (rngC lo n)[i]? = some d) : i < n ∧ d = .int (lo - i) := by
  unfold rngC at h
  rw [List.getElem?_map] at h
  have hi : i < n := by
    rcases Nat.lt_or_ge i n with h1 | h1
    · exact h1
    · rw [List.getElem?_eq_none (by simpa using h1)] at h; cases h
  rw [List.getElem?_range hi] at h
  cases h
  exact ⟨hi, rfl⟩
section
variable {C : Cn} {te ta tb tc : TE} {ma mb mc : ME} {tt tu : TT} {mt mu : MT} {tr : TA} {mr : MA} {t u : TS} {ms mv : MS}
def mSeqI (a : ME) : MI := fun e => bnd (a e) fun x e1 => match tkf x e1 with
  | some (y, e2) => (match seqD y with | some ds => some (.ok ds e2) | none => none)
  | none => none
theorem yd_lst {K : PySem.W.Frag} {a : Addr} {ds : List D} : Yd K (Itl K a) [(.ref a, .lst ds)] ds := by
  intro ps H _ h i
  obtain ⟨a', xs, e, ha, _, hA⟩ := (h (.ref a, .lst ds) (by simp) : Dt K ps H (.ref a) (.lst ds)).inv_lst
  cases e
  refine ⟨fun d hd => ?_, fun hi => ⟨xs, SqL.of ha, by rw [hA.1]; exact hi⟩⟩
  obtain ⟨x, hx, hdx⟩ := hA.get hd
  refine ⟨⟨xs, x, SqL.of ha, hx⟩, fun v H' y => ?_⟩
  obtain ⟨rfl, y⟩ := y
  have := y xs (SqL.of ha)
  rw [hx] at this; cases this
  exact ⟨.refl, hdx⟩
theorem yd_rol {K : PySem.W.Frag} {a : Addr} {ds : List D} : Yd K (Itl K a) [(.ref a, .rol ds)] ds := by
  intro ps H _ h i
  obtain ⟨a', xs, e, ha, hA⟩ := (h (.ref a, .rol ds) (by simp) : Dt K ps H (.ref a) (.rol ds)).inv_rol
  cases e
  refine ⟨fun d hd => ?_, fun hi => ⟨xs, ha.sq, by rw [hA.1]; exact hi⟩⟩
  obtain ⟨x, hx, hdx⟩ := hA.get hd
  refine ⟨⟨xs, x, ha.sq, hx⟩, fun v H' y => ?_⟩
  obtain ⟨rfl, y⟩ := y
  have := y xs ha.sq
  rw [hx] at this; cases this
  exact ⟨.refl, hdx⟩
theorem yd_tup {K : PySem.W.Frag} {a : Addr} {ds : List D} : Yd K (Itt K a) [(.ref a, .tup ds)] ds := by
  intro ps H _ h i
  obtain ⟨a', xs, e, ha, hA⟩ := (h (.ref a, .tup ds) (by simp) : Dt K ps H (.ref a) (.tup ds)).inv_tup
  cases e
  refine ⟨fun d hd => ?_, fun hi => ⟨xs, ha.sq, by rw [hA.1]; exact hi⟩⟩
  obtain ⟨x, hx, hdx⟩ := hA.get hd
  refine ⟨⟨xs, x, ha.sq, hx⟩, fun v H' y => ?_⟩
  obtain ⟨rfl, y⟩ := y
  have := y xs ha.sq
  rw [hx] at this; cases this
  exact ⟨.refl, hdx⟩
theorem si_seq (ha : SE C ta ma) : SI C (iSeq C.K ta) (mSeqI ma) := by
  intro B σ0 σ H env ts R z hm Q hq
  rcases bnd_inv hm with ⟨x, e, h1, rfl⟩ | ⟨x, e1, h1, h2⟩
  · exact ha B σ0 σ H env ts R _ h1 _ hq
  · refine ha B σ0 σ H env ts R _ h1 _ fun v H1 ⟨S, g⟩ => ?_
    split at h2
    · rename_i y e2 h3
      split at h2
      · rename_i ds hds
        cases h2
        obtain ⟨S1, g1, hy⟩ := g.takenF (ts1 := []) h3
        cases y <;> cases hds
        · obtain ⟨a, xs, rfl, h4, hA⟩ := hy.inv_tup
          exact ⟨a, rfl, .inr ⟨⟨xs, h4.sq⟩, hq _ _ _ yd_tup (by simp [isFz]) ⟨_, g1⟩⟩⟩
        · obtain ⟨a, xs, rfl, h4, h5, hA⟩ := hy.inv_lst
          exact ⟨a, rfl, .inl ⟨⟨xs, SqL.of h4⟩, hq _ _ _ yd_lst (by simp [isFz]) ⟨_, g1⟩⟩⟩
        · obtain ⟨a, xs, rfl, h4, hA⟩ := hy.inv_rol
          exact ⟨a, rfl, .inl ⟨⟨xs, h4.sq⟩, hq _ _ _ yd_rol (by simp [isFz]) ⟨_, g1⟩⟩⟩
        · cases hy
      · cases h2
    · cases h2
def mRng1 (a : MA) : MI := fun e => bnd (a e) fun xs e1 => match xs with
  | [.int j] => if -4611686018427387904 ≤ j ∧ j < 4611686018427387904 then some (.ok (rngD 0 j.toNat) e1) else none
  | _ => none
def mRng2 (a : MA) : MI := fun e => bnd (a e) fun xs e1 => match xs with
  | [.int i, .int j] => if (-4611686018427387904 ≤ i ∧ i < 4611686018427387904) ∧ -4611686018427387904 ≤ j ∧ j < 4611686018427387904 then some (.ok (rngD i (j - i).toNat) e1) else none
  | _ => none
theorem yd_rng {K : PySem.W.Frag} {lo : Int} {n : Nat} : Yd K (Itr lo n) [] (rngD lo n) := by
  intro ps H _ _ i
  refine ⟨fun d hd => ?_, fun hi => by simp [rngD] at hi; exact hi⟩
  obtain ⟨h1, rfl⟩ := rngD_get hd
  refine ⟨h1, fun v H' y => ?_⟩
  obtain ⟨rfl, rfl⟩ := y
  exact ⟨.refl, .int _⟩
theorem yd_rngC {K : PySem.W.Frag} {lo : Int} {n : Nat} : Yd K (Itc lo (-1) n) [] (rngC lo n) := by
  intro ps H _ _ i
  refine ⟨fun d hd => ?_, fun hi => by simp [rngC] at hi; exact hi⟩
  obtain ⟨h1, rfl⟩ := rngC_get hd
  refine ⟨h1, fun v H' y => ?_⟩
  obtain ⟨rfl, rfl⟩ := y
  have e : lo + (i : Int) * (-1) = lo - i := by omega
  rw [e]
  exact ⟨.refl, .int _⟩
theorem si_rng1 (ha : SA C tr mr) : SI C (iRng1 tr) (mRng1 mr) := by
  intro B σ0 σ H env ts R z hm Q hq
  rcases bnd_inv hm with ⟨x, e, h1, rfl⟩ | ⟨x, e1, h1, h2⟩
  · exact ha B σ0 σ H env ts R _ h1 _ hq
  · refine ha B σ0 σ H env ts R _ h1 _ fun vs H1 hl R1 => ?_
    split at h2
    · split at h2
      · rename_i j hj
        cases h2
        match vs, hl with
        | [v], _ =>
          obtain ⟨rfl, R2⟩ := tmp_int (ts := ts) R1
          exact ⟨j, rfl, by omega, by omega, hq _ _ [] yd_rng (by simp) (by simpa using R2)⟩
      · cases h2
    · cases h2
theorem si_rng2 (ha : SA C tr mr) : SI C (iRng2 tr) (mRng2 mr) := by
  intro B σ0 σ H env ts R z hm Q hq
  rcases bnd_inv hm with ⟨x, e, h1, rfl⟩ | ⟨x, e1, h1, h2⟩
  · exact ha B σ0 σ H env ts R _ h1 _ hq
  · refine ha B σ0 σ H env ts R _ h1 _ fun vs H1 hl R1 => ?_
    split at h2
    · split at h2
      · rename_i i j hj
        cases h2
        match vs, hl with
        | [v, w], _ =>
          obtain ⟨rfl, R2⟩ := tmp_int (ts := ts ++ [(v, .int i)]) (by simpa using R1)
          obtain ⟨rfl, R3⟩ := tmp_int R2
          exact ⟨i, j, rfl, by omega, hq _ _ [] yd_rng (by simp) (by simpa using R3)⟩
      · cases h2
    · cases h2
/-- reversed(range(n)) -/
def mRev1 (a : ME) : MI := fun e => bnd (a e) fun x e1 => match x with
  | .int j => if -4611686018427387904 ≤ j ∧ j < 4611686018427387904 then some (.ok (rngC (j.toNat - 1) j.toNat) e1) else none
  | _ => none
theorem si_rev1 (ha : SE C ta ma) : SI C (iRevR (tRg1 ta)) (mRev1 ma) := by
  intro B σ0 σ H env ts R z hm Q hq
  rcases bnd_inv hm with ⟨x, e, h1, rfl⟩ | ⟨x, e1, h1, h2⟩
  · exact ha B σ0 σ H env ts R _ h1 _ hq
  · refine ha B σ0 σ H env ts R _ h1 _ fun v H1 R1 => ?_
    split at h2
    · split at h2
      · rename_i j hj
        cases h2
        obtain ⟨rfl, R2⟩ := tmp_int R1
        refine ⟨j, rfl, by omega, by omega, by omega, by omega, hq _ _ [] ?_ (by simp) (by simpa using R2)⟩
        have e : (0 : Int) + (((j - 0).toNat : Nat) : Int) - 1 = (j.toNat : Int) - 1 := by rw [Int.sub_zero]; omega
        rw [e, Int.sub_zero]
        exact yd_rngC
      · cases h2
    · cases h2
def mLoop (g : MG) (b : MS) : List D → MS
  | [] => fun e => some (.ok .nx e)
  | x :: xs => fun e => match g x e with
    | some e1 => bnd (b e1) fun f e2 => (match f with
      | .nx => mLoop g b xs e2
      | .ct => mLoop g b xs e2
      | .bk => some (.ok .nx e2)
      | .rt d => some (.ok (.rt d) e2))
    | none => none
def mFor (i : MI) (g : MG) (b : MS) : MS := fun e => bnd (i e) fun xs e1 => mLoop g b xs e1
theorem NoAl.fz {ts fr : List (V × D)} (h : NoAl ts) (hf : ∀ p ∈ fr, isFz p.2 = true) : NoAl (ts ++ fr) := fun p hp => by
  rcases List.mem_append.mp hp with hp | hp
  · exact h p hp
  · have := hf p hp
    obtain ⟨v, d⟩ := p
    cases d <;> first | rfl | cases this
theorem Good.frDt {B : Bs} {σ0 σ : St} {H : Hp} {env : Env} {ts fr more : List (V × D)} {S : Ix → Addr → Prop} (g : Good C B σ0 H σ env (ts ++ fr ++ more) S) (hf : ∀ p ∈ fr, isFz p.2 = true) : ∀ p ∈ fr, Dt C.K (pset B S) H p.1 p.2 := by
  intro p hp
  obtain ⟨i, hi, e⟩ := List.mem_iff_getElem.mp hp
  have e2 : (ts ++ fr ++ more)[ts.length + i]? = some (p.1, p.2) := by
    rw [List.append_assoc, List.getElem?_append_right (by omega), Nat.add_sub_cancel_left, List.getElem?_append_left hi, List.getElem?_eq_getElem hi, e]
  have hfz := hf p hp
  rcases g.tmp _ _ _ e2 with ⟨k, e3, _⟩ | h
  · rw [e3] at hfz; cases hfz
  · exact h.dt hfz
theorem ss_for {wi : TI} {mi : MI} {g : TG} {mg : MG} (hi : SI C wi mi) (hg : SG C g mg) (hb : SS C t ms) : SS C (tFor wi g t) (mFor mi mg ms) := by
  intro B σ0 σ H env ts R ht z hm E hE
  rcases bnd_inv hm with ⟨x, e, h1, rfl⟩ | ⟨xs, e1, h1, h2⟩
  · exact hi B σ0 σ H env ts R _ h1 _ (hE σ)
  · refine hi B σ0 σ H env ts R _ h1 _ fun J H1 fr yd hfr R1 => ?_
    refine ⟨fun i m σ' H' => m = xs.length - i ∧ i ≤ xs.length ∧ ∃ e', Rep C B σ0 H' σ' e' (ts ++ fr) ∧ mLoop mg ms (xs.drop i) e' = some z, ⟨xs.length, rfl, Nat.zero_le _, e1, R1, h2⟩, ?_⟩
    rintro i m σ' H' ⟨rfl, hil, e', ⟨S, g'⟩, hz⟩
    have hdt := Good.frDt (more := []) (by rw [List.append_nil]; exact g') hfr
    obtain ⟨y1, y2⟩ := yd (pset B S) H' (fun a z => g'.ptrk z) hdt i
    by_cases hlt : i < xs.length
    · obtain ⟨d, hd⟩ : ∃ d, xs[i]? = some d := ⟨xs[i], by simp [hlt]⟩
      obtain ⟨hgo, hy⟩ := y1 d hd
      have hdr : xs.drop i = d :: xs.drop (i + 1) := by
        have := List.drop_eq_getElem_cons hlt
        rw [this]
        congr 1
        have e9 : xs[i]? = some xs[i] := by simp [hlt]
        rw [hd] at e9; cases e9; rfl
      rw [hdr] at hz
      simp only [mLoop] at hz
      split at hz
      · rename_i e2 h3
        refine .inr ⟨hgo, fun σ2 H2 => ∃ e3, Rep C B σ0 H2 σ2 e3 (ts ++ fr) ∧ mLoop mg ms (xs.drop (i + 1)) e3 = some z, fun σ2 H2 ⟨e3, q1, q2⟩ => ⟨xs.length - (i + 1), by omega, rfl, hlt, e3, q1, q2⟩, fun v H2 yy => ?_⟩
        obtain ⟨k2, d2⟩ := hy v H2 yy
        have R2 : Rep C B σ0 H2 σ' e' (ts ++ fr ++ [(v, d)]) := Good.prim (ts1 := []) (by rw [List.append_nil]; exact g') ⟨k2, fun _ => False, fun _ h => h.elim, .fz (d2.move .refl fun a z => .inl (z.resolve_right id)) fun _ h => h⟩
        have hda : isAl d = false := by cases d2 <;> rfl
        refine hg B σ0 σ' H2 e' (ts ++ fr) v d e2 R2 hda (ht.fz hfr) h3 _ fun σ3 H3 R3 => ?_
        rcases bnd_inv hz with ⟨x, e, h4, rfl⟩ | ⟨f, e3, h4, h5⟩
        · exact hb B σ0 σ3 H3 e2 (ts ++ fr) R3 (ht.fz hfr) _ h4 _ fun σ4 => XW.push (hE σ4)
        · refine hb B σ0 σ3 H3 e2 (ts ++ fr) R3 (ht.fz hfr) _ h4 _ ?_
          cases f with
          | nx => exact fun σ4 H4 R4 => ⟨e3, R4, h5⟩
          | ct => exact fun σ4 H4 R4 => ⟨e3, R4, h5⟩
          | bk => cases h5; exact fun σ4 H4 R4 => hE σ4 H4 R4.pop
          | rt d => cases h5; exact fun v σ4 H4 ha R4 => hE v σ4 H4 ha (R4.mid ha)
      · cases hz
    · have : i = xs.length := by omega
      subst this
      rw [List.drop_length] at hz
      cases hz
      exact .inl ⟨y2 (Nat.le_refl _), hE σ' H' ⟨S, g'.pop⟩⟩
/-! while, with so many turns at most -/
def mWh (t : MT) (b : MS) : Nat → MS
  | 0 => fun _ => none
  | n + 1 => fun e => bnd (t e) fun c e1 => if c = true then bnd (b e1) fun f e2 => (match f with
      | .nx => mWh t b n e2
      | .ct => mWh t b n e2
      | .bk => some (.ok .nx e2)
      | .rt d => some (.ok (.rt d) e2)) else some (.ok .nx e1)
theorem ss_while (n : Nat) (hc : ST C tt mt) (hb : SS C t ms) : SS C (tWhile tt t) (mWh mt ms n) := by
  intro B σ0 σ H env ts R ht z hm E hE
  refine ⟨fun m σ' H' => ∃ e', Rep C B σ0 H' σ' e' ts ∧ mWh mt ms m e' = some z, ⟨n, env, R, hm⟩, ?_⟩
  rintro m σ' H' ⟨e', R', hz⟩
  cases m with
  | zero => cases hz
  | succ m =>
    rcases bnd_inv hz with ⟨x, e, h1, rfl⟩ | ⟨c, e1, h1, h2⟩
    · exact hc B σ0 σ' H' e' ts R' _ h1 _ (hE σ')
    · refine hc B σ0 σ' H' e' ts R' _ h1 _ fun H1 R1 => ?_
      cases c with
      | false => rw [if_neg Bool.false_ne_true] at h2 ⊢; cases h2; exact hE σ' H1 R1
      | true =>
        rw [if_pos rfl] at h2 ⊢
        refine ⟨fun σ2 H2 => ∃ e3, Rep C B σ0 H2 σ2 e3 ts ∧ mWh mt ms m e3 = some z, fun σ2 H2 q => ⟨m, by omega, q⟩, ?_⟩
        rcases bnd_inv h2 with ⟨x, e, h4, rfl⟩ | ⟨f, e3, h4, h5⟩
        · exact hb B σ0 σ' H1 e1 ts R1 ht _ h4 _ hE
        · refine hb B σ0 σ' H1 e1 ts R1 ht _ h4 _ ?_
          cases f with
          | nx => exact fun σ4 H4 R4 => ⟨e3, R4, h5⟩
          | ct => exact fun σ4 H4 R4 => ⟨e3, R4, h5⟩
          | bk => cases h5; exact hE
          | rt d => cases h5; exact hE
end
end Q


namespace Q
open PySem L2
/-! ### calls -/
inductive Rf where
  | ok (d : D) (ds : List D)
  | ex (x : Xc) (ds : List D)
abbrev MF := List D → Option Rf
def fC (K : PySem.W.Frag) (cv : Str → Value) : Cn := ⟨K, fun _ _ _ _ => False, cv, fun _ => false⟩
/-- a def's promise by its mirror -/
def spM (K : PySem.W.Frag) (cv : Str → Value) (mf : MF) : Sp := fun vs H Q E => ∃ (B : Bs) (ds : List D) (r : Rf), B.H0 = H ∧ vs.length = ds.length ∧ mf ds = some r ∧ Rep (fC K cv) B (vs.map some) H (vs.map some) (ds.map some) [] ∧
  match r with
  | .ok d ds' => ∀ v H', isAl d = false → Rep (fC K cv) B (vs.map some) H' (vs.map some) (ds'.map some) [(v, d)] → Q v H'
  | .ex x ds' => ∀ c o H', RepX (fC K cv) B (vs.map some) H' (vs.map some) (ds'.map some) [] x c o → E c o H'
def isAlK (k : Nat) : D → Bool | .al j => j == k | _ => false
def alsOk : List D → Bool
  | [] => true
  | .al k :: xs => !xs.any (isAlK k) && alsOk xs
  | _ :: xs => alsOk xs
def back : List D → List D → Env → Env
  | .al k :: xs, d :: ds, e => back xs ds (e.set k (some d))
  | _ :: xs, _ :: ds, e => back xs ds e
  | _, _, e => e
def mCall (f : MF) (a : MA) : ME := fun e => bnd (a e) fun xs e1 => match lend xs e1 with
  | some ds => if alsOk xs = true then (match f ds with
    | some (.ok d ds') => if ds'.length = ds.length then some (.ok d (back xs ds' e1)) else none
    | some (.ex x ds') => if ds'.length = ds.length then some (.ex x (back xs ds' e1)) else none
    | none => none) else none
  | none => none
theorem lend_get : ∀ {xs ds : List D} {e : Env} {j : Nat} {x : D}, lend xs e = some ds → xs[j]? = some x → ∃ d, ds[j]? = some d ∧ res e x = some d
  | [], ds, e, j, x, h, hx => by simp at hx
  | y :: xs, ds, e, j, x, h, hx => by
    unfold lend at h
    split at h
    · rename_i d h1
      split at h
      · rename_i ds' h2
        cases h
        cases j with
        | zero => simp at hx; subst hx; exact ⟨d, rfl, h1⟩
        | succ j =>
          obtain ⟨d', q1, q2⟩ := lend_get (j := j) h2 (by simpa using hx)
          exact ⟨d', by simpa using q1, q2⟩
      · cases h
    · cases h
theorem lend_len : ∀ {xs ds : List D} {e : Env}, lend xs e = some ds → xs.length = ds.length
  | [], ds, e, h => by cases h; rfl
  | y :: xs, ds, e, h => by
    unfold lend at h
    split at h
    · split at h
      · rename_i ds' h2
        cases h
        simp [lend_len h2]
      · cases h
    · cases h
theorem alsOk_inj : ∀ {xs : List D} {i j k : Nat}, alsOk xs = true → xs[i]? = some (.al k) → xs[j]? = some (.al k) → i = j
  | [], i, j, k, h, h1, h2 => by simp at h1
  | x :: xs, i, j, k, h, h1, h2 => by
    have hx : alsOk xs = true := by
      cases x <;> first | exact h | (simp only [alsOk, Bool.and_eq_true] at h; exact h.2)
    have hno : x = .al k → ∀ m : Nat, xs[m]? ≠ some (D.al k) := by
      rintro rfl m e
      simp only [alsOk, Bool.and_eq_true, Bool.not_eq_true', List.any_eq_false] at h
      exact h.1 _ (List.mem_of_getElem? e) (by simp [isAlK])
    cases i with
    | zero =>
      cases j with
      | zero => rfl
      | succ j => simp at h1 h2; exact absurd h2 (hno h1 j)
    | succ i =>
      cases j with
      | zero => simp at h1 h2; exact absurd h1 (hno h2 i)
      | succ j => simp at h1 h2; rw [alsOk_inj hx h1 h2]
theorem back_length : ∀ {xs ds : List D} {e : Env}, (back xs ds e).length = e.length
  | [], ds, e => by cases ds <;> rfl
  | x :: xs, [], e => by cases x <;> rfl
  | x :: xs, d :: ds, e => by
    cases x <;> simp only [back] <;> first | exact back_length | (rw [back_length, List.length_set])
theorem back_get : ∀ {xs ds : List D} {e : Env} {k : Nat}, alsOk xs = true → xs.length = ds.length → (∀ j : Nat, xs[j]? ≠ some (D.al k)) → (back xs ds e)[k]? = e[k]?
  | [], ds, e, k, h, hl, hn => by cases ds <;> rfl
  | x :: xs, [], e, k, h, hl, hn => by simp at hl
  | x :: xs, d :: ds, e, k, h, hl, hn => by
    have hx : alsOk xs = true := by
      cases x <;> first | exact h | (simp only [alsOk, Bool.and_eq_true] at h; exact h.2)
    have hn' : ∀ j : Nat, xs[j]? ≠ some (D.al k) := fun j e => hn (j + 1) (by simpa using e)
    have hl' : xs.length = ds.length := by simpa using hl
    cases x with
    | al m =>
      have hmk : m ≠ k := fun z => hn 0 (by simp [z])
      simp only [back]
      rw [back_get hx hl' hn', List.getElem?_set_ne hmk]
    | _ => (show (back xs ds e)[k]? = e[k]?); exact back_get hx hl' hn'
theorem back_at : ∀ {xs ds : List D} {e : Env} {j k : Nat} {d : D}, alsOk xs = true → xs.length = ds.length → xs[j]? = some (.al k) → ds[j]? = some d → k < e.length → (back xs ds e)[k]? = some (some d)
  | [], ds, e, j, k, d, h, hl, hj, hd, hk => by simp at hj
  | x :: xs, [], e, j, k, d, h, hl, hj, hd, hk => by simp at hl
  | x :: xs, y :: ds, e, j, k, d, h, hl, hj, hd, hk => by
    have hx : alsOk xs = true := by
      cases x <;> first | exact h | (simp only [alsOk, Bool.and_eq_true] at h; exact h.2)
    have hl' : xs.length = ds.length := by simpa using hl
    cases j with
    | zero =>
      simp at hj hd
      subst hj hd
      simp only [back]
      rw [back_get hx hl' (fun m e => by
        have := alsOk_inj h (i := 0) (j := m + 1) (k := k) rfl (by simpa using e)
        cases this), List.getElem?_set_self hk]
    | succ j =>
      simp at hj hd
      cases x with
      | al m => simp only [back]; exact back_at hx hl' hj hd (by rw [List.length_set]; exact hk)
      | _ => (show (back xs ds e)[k]? = some (some d)); exact back_at hx hl' hj hd hk
section
variable {C : Cn} {te ta tb tc : TE} {ma mb mc : ME} {tt tu : TT} {mt mu : MT} {tr : TA} {mr : MA} {t u : TS} {ms mv : MS}
/-- a call: the arguments go over, come back -/
theorem Good.call {B : Bs} {σ0 σ : St} {H : Hp} {env : Env} {ts : List (V × D)} {S : Ix → Addr → Prop} {vs : List V} {xs ds : List D} {cv : Str → Value} (g : Good C B σ0 H σ env (ts ++ vs.zip xs) S) (hl : vs.length = xs.length) (hds : lend xs env = some ds) (hal : alsOk xs = true) :
    ∃ B' : Bs, B'.H0 = H ∧ Rep (fC C.K cv) B' (vs.map some) H (vs.map some) (ds.map some) [] ∧ ∀ H' ds' ts' S', ds'.length = ds.length → NoAl ts' → Good (fC C.K cv) B' (vs.map some) H' (vs.map some) (ds'.map some) ts' S' → ∃ U, Good C B σ0 H' σ (back xs ds' env) (ts ++ ts') U ∧ ∀ a, pset B U a → pset B' S' a := by
  have hld := lend_len hds
  -- where argument j is held
  let src : Nat → Ix := fun j => match xs[j]? with
    | some (.al k) => .inl k
    | _ => .inr (ts.length + j)
  have hsrcA : ∀ {j k}, xs[j]? = some (.al k) → src j = .inl k := fun h => by simp only [src, h]
  have hsrcN : ∀ {j x}, xs[j]? = some x → isAl x = false → src j = .inr (ts.length + j) := fun {j x} h hn => by
    simp only [src, h]
    cases x <;> first | rfl | cases hn
  have hinj : ∀ {i j}, i < xs.length → j < xs.length → src i = src j → i = j := by
    intro i j hi hj e
    obtain ⟨x, hx⟩ : ∃ x, xs[i]? = some x := ⟨xs[i], by simp [hi]⟩
    obtain ⟨y, hy⟩ : ∃ y, xs[j]? = some y := ⟨xs[j], by simp [hj]⟩
    by_cases hax : isAl x = true
    · obtain ⟨k, rfl⟩ : ∃ k, x = .al k := by cases x <;> first | exact ⟨_, rfl⟩ | cases hax
      rw [hsrcA hx] at e
      by_cases hay : isAl y = true
      · obtain ⟨k2, rfl⟩ : ∃ k, y = .al k := by cases y <;> first | exact ⟨_, rfl⟩ | cases hay
        rw [hsrcA hy] at e
        cases e
        exact alsOk_inj hal hx hy
      · rw [hsrcN hy (by simpa using hay)] at e; cases e
    · rw [hsrcN hx (by simpa using hax)] at e
      by_cases hay : isAl y = true
      · obtain ⟨k2, rfl⟩ : ∃ k, y = .al k := by cases y <;> first | exact ⟨_, rfl⟩ | cases hay
        rw [hsrcA hy] at e; cases e
      · rw [hsrcN hy (by simpa using hay)] at e
        injection e with e; omega
  -- what argument j is
  have harg : ∀ {j d}, ds[j]? = some d → ∃ v, vs[j]? = some v ∧ j < xs.length ∧ Ow C.K (pset B S) H v d (S (src j)) := by
    intro j d hd
    have hj : j < ds.length := (List.getElem?_eq_some_iff.mp hd).1
    have hjx : j < xs.length := by omega
    have hjv : j < vs.length := by omega
    obtain ⟨x, hx⟩ : ∃ x, xs[j]? = some x := ⟨xs[j], by simp [hjx]⟩
    obtain ⟨v, hv⟩ : ∃ v, vs[j]? = some v := ⟨vs[j], by simp [hjv]⟩
    obtain ⟨d', hd', hr⟩ := lend_get hds hx
    rw [hd] at hd'; cases hd'
    refine ⟨v, hv, hjx, ?_⟩
    have et : (ts ++ vs.zip xs)[ts.length + j]? = some (v, x) := by
      rw [List.getElem?_append_right (by omega), Nat.add_sub_cancel_left, List.getElem?_zip_eq_some]
      exact ⟨hv, hx⟩
    rcases g.tmp _ v x et with ⟨k, rfl, h2⟩ | h
    · simp only [res] at hr
      split at hr
      · rename_i d2 h3
        cases hr
        obtain ⟨v', e1, e2⟩ := g.slot k _ h3
        rw [h2] at e1; cases e1
        rw [hsrcA hx]; exact e2
      · cases hr
    · have hn := h.noAl
      rw [res_self hn] at hr; cases hr
      rw [hsrcN hx hn]; exact h
  let B' : Bs := ⟨fun a => pset B S a ∧ ∀ j, j < xs.length → ¬ S (src j) a, H, fun a => ∃ j, j < xs.length ∧ S (src j) a⟩
  let T : Ix → Addr → Prop := fun i a => match i with
    | .inl j => j < xs.length ∧ S (src j) a
    | .inr _ => False
  have hT : ∀ i a, T i a → ∃ j, i = .inl j ∧ j < xs.length ∧ S (src j) a := by
    intro i a h
    cases i with
    | inl j => exact ⟨j, rfl, h⟩
    | inr j => exact h.elim
  have hps : ∀ a, pset B' T a → pset B S a := by
    rintro a (h | ⟨i, h⟩)
    · exact h.1
    · obtain ⟨j, _, _, h⟩ := hT i a h; exact .inr ⟨_, h⟩
  refine ⟨B', rfl, ⟨T, .refl, fun a h => ⟨g.ptrk h.1, fun ⟨j, hj, z⟩ => h.2 j hj z⟩, fun i a h => ?_, fun i a h => ?_, fun i j a h1 h2 => ?_, by simp [hl, hld], ⟨fun _ _ => rfl, rfl⟩, fun i d e => ?_, fun j v d e => by simp at e⟩, ?_⟩
  · obtain ⟨j, _, hj, h⟩ := hT i a h
    exact ⟨.inl ⟨j, hj, h⟩, fun z => z.2 j hj h⟩
  · obtain ⟨j, _, hj, h⟩ := hT i a h; exact g.trk _ a h
  · obtain ⟨j1, rfl, l1, h1⟩ := hT i a h1
    obtain ⟨j2, rfl, l2, h2⟩ := hT j a h2
    rw [hinj l1 l2 (g.dis _ _ a h1 h2)]
  · rw [List.getElem?_map] at e
    cases hd : ds[i]? with
    | none => rw [hd] at e; cases e
    | some d' =>
      rw [hd] at e; cases e
      obtain ⟨v, hv, hi, ho⟩ := harg hd
      exact ⟨v, by rw [List.getElem?_map, hv]; rfl, (ho.move .refl (fun a z => .inl (hps a z)) fun _ _ => rfl).iff fun b => ⟨fun z => z.2, fun z => ⟨hi, z⟩⟩⟩
  intro H' ds' ts' S' hl' hna g'
  -- the caller's holdings behind
  let nsrc : Ix → Prop := fun i => (∀ j, j < xs.length → src j ≠ i) ∧ ∀ n, i = .inr n → n < ts.length
  let U : Ix → Addr → Prop := fun i a => (∃ n, i = .inr (ts.length + n) ∧ S' (.inr n) a) ∨ (∃ j k, xs[j]? = some (.al k) ∧ i = .inl k ∧ S' (.inl j) a) ∨ (nsrc i ∧ S i a)
  have hUp : ∀ a, pset B U a → pset B' S' a := by
    rintro a (h | ⟨i, ⟨n, _, h⟩ | ⟨j, k, _, _, h⟩ | ⟨hn, h⟩⟩)
    · exact .inl ⟨.inl h, fun j hj z => (g.sub _ a z).2 h⟩
    · exact .inr ⟨_, h⟩
    · exact .inr ⟨_, h⟩
    · exact .inl ⟨.inr ⟨_, h⟩, fun j hj z => hn.1 j hj (g.dis _ _ a z h)⟩
  have hS'sub : ∀ i a, S' i a → (B.S0 a ∨ B.H0 a = none) ∧ ¬ B.ps0 a := by
    intro i a h
    obtain ⟨h1, h2⟩ := g'.sub i a h
    rcases h1 with ⟨j, hj, z⟩ | z
    · exact g.sub _ a z
    · exact ⟨.inr (g.kp.dom a z), fun w => (g.fr a w).1 (g.kp.dom a z)⟩
  have hS'n : ∀ i a k, S' i a → nsrc k → S k a → False := by
    intro i a k h hk hs
    rcases (g'.sub i a h).1 with ⟨j, hj, z⟩ | z
    · exact hk.1 j hj (g.dis _ _ a z hs)
    · exact g.trk k a hs z
  have hkS : Kp (pset B S) H H' := g'.kp.more fun a ⟨j, hj, z⟩ => .inr ⟨_, z⟩
  have hqS : ∀ a, pset B U a → pset B S a ∨ H a = none := by
    have aux : ∀ i a, S' i a → pset B S a ∨ H a = none := fun i a h => by
      rcases (g'.sub i a h).1 with ⟨j, hj, z⟩ | z
      · exact .inl (.inr ⟨_, z⟩)
      · exact .inr z
    rintro a (h | ⟨i, ⟨n, _, h⟩ | ⟨j, k, _, _, h⟩ | ⟨hn, h⟩⟩)
    · exact .inl (.inl h)
    · exact aux _ a h
    · exact aux _ a h
    · exact .inl (.inr ⟨_, h⟩)
  have hkeep : ∀ k, nsrc k → ∀ a, S k a → H' a = H a := fun k hk a z => by
    have hn : ¬ B'.S0 a := fun ⟨j, hj, w⟩ => hk.1 j hj (g.dis _ _ a w z)
    cases e : H a with
    | none => exact absurd e (g.trk _ a z)
    | some o => exact g'.kp.get a o hn e
  refine ⟨U, ⟨⟨fun b o n e => ?_, fun b e => g.kp.dom b (g'.kp.dom b e)⟩, g.fr, fun i a h => ?_, fun i a h => ?_, fun i j a h1 h2 => ?_, by rw [back_length]; exact g.len, g.keep, fun i d e => ?_, fun j v d e => ?_⟩, hUp⟩
  · refine g'.kp.get b o (fun ⟨j, hj, z⟩ => ?_) (g.kp.get b o n e)
    rcases (g.sub _ b z).1 with z | z
    · exact n z
    · rw [z] at e; cases e
  · rcases h with ⟨n, _, h⟩ | ⟨j, k, _, _, h⟩ | ⟨hn, h⟩
    · exact hS'sub _ a h
    · exact hS'sub _ a h
    · exact g.sub i a h
  · rcases h with ⟨n, _, h⟩ | ⟨j, k, _, _, h⟩ | ⟨hn, h⟩
    · exact g'.trk _ a h
    · exact g'.trk _ a h
    · exact fun z => g.trk i a h (g'.kp.dom a z)
  · rcases h1 with ⟨n, rfl, h1⟩ | ⟨j1, k1, q1, rfl, h1⟩ | ⟨hn1, h1⟩
    · rcases h2 with ⟨n2, rfl, h2⟩ | ⟨j2, k2, q2, rfl, h2⟩ | ⟨hn2, h2⟩
      · have := g'.dis _ _ a h1 h2; cases this; rfl
      · have := g'.dis _ _ a h1 h2; cases this
      · exact (hS'n _ a _ h1 hn2 h2).elim
    · rcases h2 with ⟨n2, rfl, h2⟩ | ⟨j2, k2, q2, rfl, h2⟩ | ⟨hn2, h2⟩
      · have := g'.dis _ _ a h1 h2; cases this
      · have := g'.dis _ _ a h1 h2
        cases this
        rw [q1] at q2; cases q2; rfl
      · exact (hS'n _ a _ h1 hn2 h2).elim
    · rcases h2 with ⟨n2, rfl, h2⟩ | ⟨j2, k2, q2, rfl, h2⟩ | ⟨hn2, h2⟩
      · exact (hS'n _ a _ h2 hn1 h1).elim
      · exact (hS'n _ a _ h2 hn1 h1).elim
      · exact g.dis _ _ a h1 h2
  · have hil : i < env.length := by
      have := (List.getElem?_eq_some_iff.mp e).1
      rw [back_length] at this; exact this
    by_cases hx : ∃ j : Nat, xs[j]? = some (D.al i)
    · obtain ⟨j, hj⟩ := hx
      have hjl : j < xs.length := (List.getElem?_eq_some_iff.mp hj).1
      obtain ⟨d', hd'⟩ : ∃ d', ds'[j]? = some d' := ⟨ds'[j]'(by omega), List.getElem?_eq_getElem (by omega)⟩
      rw [back_at hal (by omega) hj hd' hil] at e
      cases e
      obtain ⟨v', e1, e2⟩ := g'.slot j d (by rw [List.getElem?_map, hd']; rfl)
      have et : ∃ v, (ts ++ vs.zip xs)[ts.length + j]? = some (v, .al i) ∧ vs[j]? = some v := by
        have hjv : j < vs.length := by omega
        refine ⟨vs[j], ?_, by simp [hjv]⟩
        rw [List.getElem?_append_right (by omega), Nat.add_sub_cancel_left, List.getElem?_zip_eq_some]
        exact ⟨by simp [hjv], hj⟩
      obtain ⟨v, et, hvj⟩ := et
      have hσ : σ[i]? = some (some v) := by
        rcases g.tmp _ v _ et with ⟨k, ek, h2⟩ | h
        · cases ek; exact h2
        · exact absurd h.noAl (by simp [isAl])
      rw [List.getElem?_map, hvj] at e1
      have ev : v = v' := by simpa using e1
      subst ev
      refine ⟨v, hσ, (e2.move .refl (fun a z => .inl (hUp a z)) fun _ _ => rfl).iff fun b => ⟨fun z => ?_, fun z => .inr (.inl ⟨j, i, hj, rfl, z⟩)⟩⟩
      rcases z with ⟨n, e, _⟩ | ⟨j2, k2, q2, e2, z⟩ | ⟨hn, z⟩
      · cases e
      · cases e2; rw [alsOk_inj hal hj q2]; exact z
      · exact absurd (hsrcA hj) (hn.1 j hjl)
    · have hn : ∀ j : Nat, xs[j]? ≠ some (D.al i) := fun j z => hx ⟨j, z⟩
      rw [back_get hal (by omega) hn] at e
      obtain ⟨v', e1, e2⟩ := g.slot i d e
      have hns : nsrc (.inl i) := by
        refine ⟨fun j hj z => ?_, fun n z => by cases z⟩
        obtain ⟨x, hxj⟩ : ∃ x, xs[j]? = some x := ⟨xs[j], by simp [hj]⟩
        by_cases hax : isAl x = true
        · obtain ⟨k, rfl⟩ : ∃ k, x = .al k := by cases x <;> first | exact ⟨_, rfl⟩ | cases hax
          rw [hsrcA hxj] at z; cases z
          exact hn j hxj
        · rw [hsrcN hxj (by simpa using hax)] at z; cases z
      refine ⟨v', e1, (e2.move hkS hqS (hkeep _ hns)).iff fun b => ⟨fun z => ?_, fun z => .inr (.inr ⟨hns, z⟩)⟩⟩
      rcases z with ⟨n, e, _⟩ | ⟨j2, k2, q2, e2, z⟩ | ⟨_, z⟩
      · cases e
      · cases e2; exact absurd q2 (hn j2)
      · exact z
  · by_cases hj : j < ts.length
    · rw [List.getElem?_append_left hj] at e
      rcases g.tmp j v d (by rw [List.getElem?_append_left hj]; exact e) with h | h
      · exact .inl h
      · have hns : nsrc (.inr j) := by
          refine ⟨fun i hi z => ?_, fun n z => by injection z with z; omega⟩
          obtain ⟨x, hxj⟩ : ∃ x, xs[i]? = some x := ⟨xs[i], by simp [hi]⟩
          by_cases hax : isAl x = true
          · obtain ⟨k, rfl⟩ : ∃ k, x = .al k := by cases x <;> first | exact ⟨_, rfl⟩ | cases hax
            rw [hsrcA hxj] at z; cases z
          · rw [hsrcN hxj (by simpa using hax)] at z; injection z with z; omega
        refine .inr ((h.move hkS hqS (hkeep _ hns)).iff fun b => ⟨fun z => ?_, fun z => .inr (.inr ⟨hns, z⟩)⟩)
        rcases z with ⟨n, e, _⟩ | ⟨j2, k2, q2, e2, z⟩ | ⟨_, z⟩
        · injection e with e; omega
        · cases e2
        · exact z
    · rw [List.getElem?_append_right (by omega)] at e
      have hnd := hna _ (List.mem_of_getElem? e)
      rcases g'.tmp _ v d e with ⟨k, rfl, _⟩ | h
      · cases hnd
      · refine .inr ((h.move .refl (fun a z => .inl (hUp a z)) fun _ _ => rfl).iff fun b => ⟨fun z => ?_, fun z => .inl ⟨j - ts.length, by congr 1; omega, z⟩⟩)
        rcases z with ⟨n, e, z⟩ | ⟨j2, k2, q2, e2, z⟩ | ⟨hn, z⟩
        · injection e with e; subst e; rw [Nat.add_sub_cancel_left]; exact z
        · cases e2
        · exact absurd (hn.2 j rfl) (by omega)
theorem se_callS {mf : MF} (ha : SA C tr mr) : SE C (tCallS (spM C.K C.cv mf) (fun σ c o H => C.W c o σ H) tr) (mCall mf mr) := by
  intro B σ0 σ H env ts R z hm Q hq
  rcases bnd_inv hm with ⟨x, e, h1, rfl⟩ | ⟨xs, e1, h1, h2⟩
  · exact ha B σ0 σ H env ts R _ h1 _ hq
  · refine ha B σ0 σ H env ts R _ h1 _ fun vs H1 hl ⟨S, g⟩ => ?_
    split at h2
    · rename_i ds hds
      split at h2
      · rename_i hal
        obtain ⟨B', hB, R', hback⟩ := g.call (cv := C.cv) hl hds hal
        split at h2
        · rename_i d ds' hf
          split at h2
          · rename_i hl2
            cases h2
            refine ⟨B', ds, _, hB, by rw [hl, lend_len hds], hf, R', fun v H' hd ⟨S', g'⟩ => ?_⟩
            obtain ⟨U, gU, _⟩ := hback H' ds' _ S' hl2 (fun p hp => by simp at hp; subst hp; exact hd) g'
            exact hq _ _ ⟨U, gU⟩
          · cases h2
        · rename_i x ds' hf
          split at h2
          · rename_i hl2
            cases h2
            refine ⟨B', ds, _, hB, by rw [hl, lend_len hds], hf, R', fun c o H' ⟨S', g', hx⟩ => ?_⟩
            obtain ⟨U, gU, hU⟩ := hback H' ds' _ S' hl2 (fun p hp => by simp at hp) g'
            exact hq c o H' ⟨U, by simpa using gU, XOk.less (C := C) hx hU⟩
          · cases h2
        · cases h2
      · cases h2
    · cases h2
/-- where no exception leaves -/
theorem se_call0 {mf : MF} (hW : C.W = fun _ _ _ _ => False) (ha : SA C tr mr) : SE C (tCall (spM C.K C.cv mf) [] E0 tr) (mCall mf mr) := by
  intro B σ0 σ H env ts R z hm Q hq
  have := se_callS (mf := mf) ha B σ0 σ H env ts R z hm Q hq
  have e : (fun (vs : List V) (H1 : Hp) => spM C.K C.cv mf (vs ++ []) H1 Q E0) = fun vs H1 => spM C.K C.cv mf vs H1 Q fun c o H => C.W c o σ H := by
    funext vs H1
    rw [List.append_nil, hW]; first | done | rfl
  show tr σ H fun vs H1 => spM C.K C.cv mf (vs ++ []) H1 Q E0
  rw [e]
  exact this
end
end Q


namespace Q
open PySem L2
/-! ### comprehensions -/
def wipeE (e : Env) : List Nat → Env
  | [] => e
  | v :: vs => (wipeE e vs).set v none
def Cn.inner (C : Cn) (own : List Nat) : Cn := ⟨C.K, fun _ _ _ _ => False, C.cv, fun j => own.contains j⟩
theorem wipe_get {σ : St} : ∀ {vs : List Nat} {i : Nat}, (wipe σ vs)[i]? = if i ∈ vs then (if i < σ.length then some none else none) else σ[i]?
  | [], i => by simp [wipe]
  | v :: vs, i => by
    unfold wipe
    by_cases h : i = v
    · subst h
      by_cases hl : i < σ.length
      · rw [List.getElem?_set_self (by rw [wipe_length]; exact hl)]; simp [hl]
      · rw [List.getElem?_eq_none (by rw [List.length_set, wipe_length]; omega)]; simp [hl]
    · rw [List.getElem?_set_ne (Ne.symm h), wipe_get]
      simp [h]
theorem wipeE_length {e : Env} : ∀ {vs : List Nat}, (wipeE e vs).length = e.length
  | [] => rfl
  | v :: vs => by unfold wipeE; rw [List.length_set, wipeE_length]
theorem wipeE_get {σ : Env} : ∀ {vs : List Nat} {i : Nat}, (wipeE σ vs)[i]? = if i ∈ vs then (if i < σ.length then some none else none) else σ[i]?
  | [], i => by simp [wipeE]
  | v :: vs, i => by
    unfold wipeE
    by_cases h : i = v
    · subst h
      by_cases hl : i < σ.length
      · rw [List.getElem?_set_self (by rw [wipeE_length]; exact hl)]; simp [hl]
      · rw [List.getElem?_eq_none (by rw [List.length_set, wipeE_length]; omega)]; simp [hl]
    · rw [List.getElem?_set_ne (Ne.symm h), wipeE_get]
      simp [h]
section
variable {C C' : Cn} {B : Bs} {σ0 σ σ1 : St} {H H1 : Hp} {env env1 : Env} {ts ts1 fr : List (V × D)} {S : Ix → Addr → Prop} {v : V} {d : D} {vs : List Nat}
/-- other names are in charge -/
theorem Good.turn {σ0' σ' : St} {e' : Env} (g : Good C B σ0 H σ env ts S) (hK : C'.K = C.K) (hA : (∀ j, C'.A j = false → σ'[j]? = σ0'[j]?) ∧ σ'.length = σ0'.length) (ht : NoAl ts) (hl : σ'.length = e'.length)
    (hs : ∀ (i : Nat) d v, e'[i]? = some (some d) → env[i]? = some (some d) ∧ (σ[i]? = some (some v) → σ'[i]? = some (some v))) : Good C' B σ0' H σ' e' ts S :=
  ⟨g.kp, g.fr, g.sub, g.trk, g.dis, hl, hA, fun i d e => by
    obtain ⟨v, h1, h2⟩ := g.slot i d (hs i d .non e).1
    exact ⟨v, (hs i d v e).2 h1, by rw [hK]; exact h2⟩, fun j v d e => by
    have hn := ht _ (List.mem_of_getElem? e)
    rcases g.tmp j v d e with ⟨k, rfl, _⟩ | h
    · cases hn
    · rw [hK]; exact .inr h⟩
theorem Good.wipe (g : Good C B σ0 H σ env ts S) (hK : C'.K = C.K) {σ0' : St} (hA : (∀ j, C'.A j = false → (L2.wipe σ vs)[j]? = σ0'[j]?) ∧ (L2.wipe σ vs).length = σ0'.length) (ht : NoAl ts) : Good C' B σ0' H (L2.wipe σ vs) (wipeE env vs) ts S :=
  g.turn hK hA ht (by rw [wipe_length, wipeE_length]; exact g.len) fun i d v e => by
    rw [wipeE_get] at e
    split at e
    · split at e <;> cases e
    · rename_i hi
      exact ⟨e, fun h => by rw [wipe_get, if_neg hi]; exact h⟩
end
def mCl (g : MG) (t : MT) (el : ME) (own : List Nat) : List D → List D → Env → Option (List D × Env)
  | [], acc, e => some (acc, e)
  | x :: xs, acc, e => match g x e with
    | some e1 => (match t e1 with
      | some (.ok b e2) => if b = true then (match el e2 with
        | some (.ok y e3) => (match tkf y e3 with
          | some (y', e4) => if acc.length < 16777216 then mCl g t el own xs (acc ++ [y']) (wipeE e4 own) else none
          | none => none)
        | _ => none) else mCl g t el own xs acc (wipeE e2 own)
      | _ => none)
    | none => none
def mLc (i : MI) (g : MG) (t : MT) (el : ME) (own : List Nat) : ME := fun e => bnd (i e) fun xs e1 => match mCl g t el own xs [] (wipeE e1 own) with
  | some (ys, e2) => some (.ok (.mls ys) e2)
  | none => none
section
variable {C : Cn} {te ta tb tc : TE} {ma mb mc : ME} {tt tu : TT} {mt mu : MT} {tr : TA} {mr : MA} {t u : TS} {ms mv : MS}
theorem se_lc {wi : TI} {mi : MI} {g : TG} {mg : MG} {own : List Nat} (hi : SI C wi mi) (hg : SG (C.inner own) g mg) (ht : ST (C.inner own) tt mt) (he : SE (C.inner own) te ma) : SE C (tLc wi g tt te own) (mLc mi mg mt ma own) := by
  intro B σ0 σ H env ts R z hm Q hq
  obtain ⟨B', R', hback⟩ := R.aside
  rcases bnd_inv hm with ⟨x, e, h1, rfl⟩ | ⟨xs, e1, h1, h2⟩
  · refine hi B' σ0 σ H env [] R' _ h1 _ fun c o H' ⟨S', g', hx⟩ => ?_
    obtain ⟨U, gU, hU⟩ := hback H' _ _ S' g'
    exact hq c o H' ⟨U, by simpa using gU, hx.less hU⟩
  · split at h2
    case h_2 => cases h2
    rename_i ys e2 hz
    cases h2
    refine hi B' σ0 σ H env [] R' _ h1 _ fun J H1 fr yd hfr R1 => ?_
    intro E hE
    obtain ⟨S1, g1⟩ := R1
    rw [List.nil_append] at g1
    have hnf : NoAl fr := fun p hp => by
      have := hfr p hp
      obtain ⟨v, d⟩ := p
      cases d <;> first | rfl | cases this
    have gi : Good (C.inner own) B' (L2.wipe σ own) H1 (L2.wipe σ own) (wipeE e1 own) fr S1 := g1.wipe (C' := C.inner own) (vs := own) rfl ⟨fun _ _ => rfl, rfl⟩ hnf
    have R2 : Rep (C.inner own) B' (L2.wipe σ own) (L2.upd H1 E (.lst [])) (L2.wipe σ own) (wipeE e1 own) (fr ++ [(.ref E, .mls [])]) := Good.prim (ts1 := []) (by rw [List.append_nil]; exact gi) (Post.lst hE .nil)
    refine ⟨fun i m H' => m = xs.length - i ∧ i ≤ xs.length ∧ ∃ e' acc, Rep (C.inner own) B' (L2.wipe σ own) H' (L2.wipe σ own) e' (fr ++ [(.ref E, .mls acc)]) ∧ mCl mg mt ma own (xs.drop i) acc e' = some (ys, e2), ⟨xs.length, rfl, Nat.zero_le _, _, [], R2, hz⟩, ?_⟩
    rintro i m H' ⟨rfl, hil, e', acc, ⟨S, g'⟩, hz'⟩
    have hdt := Good.frDt (ts := []) (more := [(.ref E, .mls acc)]) (by rw [List.nil_append]; exact g') hfr
    obtain ⟨y1, y2⟩ := yd (pset B' S) H' (fun a z => g'.ptrk z) hdt i
    have hna : NoAl (fr ++ [(V.ref E, D.mls acc)]) := hnf.snoc rfl
    by_cases hlt : i < xs.length
    · obtain ⟨d, hd⟩ : ∃ d, xs[i]? = some d := ⟨xs[i], by simp [hlt]⟩
      obtain ⟨hgo, hy⟩ := y1 d hd
      have hdr : xs.drop i = d :: xs.drop (i + 1) := by
        have := List.drop_eq_getElem_cons hlt
        rw [this]
        congr 1
        have e9 : xs[i]? = some xs[i] := by simp [hlt]
        rw [hd] at e9; cases e9; rfl
      rw [hdr] at hz'
      simp only [mCl] at hz'
      split at hz'
      case h_2 => cases hz'
      rename_i e3 h3
      refine .inr ⟨hgo, fun H2 => ∃ e5 acc', Rep (C.inner own) B' (L2.wipe σ own) H2 (L2.wipe σ own) e5 (fr ++ [(.ref E, .mls acc')]) ∧ mCl mg mt ma own (xs.drop (i + 1)) acc' e5 = some (ys, e2), fun H2 q => ⟨xs.length - (i + 1), by omega, rfl, hlt, q⟩, fun v H2 yy => ?_⟩
      obtain ⟨k2, d2⟩ := hy v H2 yy
      have R3 : Rep (C.inner own) B' (L2.wipe σ own) H2 (L2.wipe σ own) e' (fr ++ [(V.ref E, D.mls acc)] ++ [(v, d)]) := Good.prim (ts1 := []) (by rw [List.append_nil]; exact g') ⟨k2, fun _ => False, fun _ h => h.elim, .fz (d2.move .refl fun a z => .inl (z.resolve_right id)) fun _ h => h⟩
      have hda : isAl d = false := by cases d2 <;> rfl
      refine hg B' _ _ H2 e' _ v d e3 R3 hda hna h3 _ fun σ2 H3 R4 => ?_
      have hσ2 : ∀ {H e ts}, Rep (C.inner own) B' (L2.wipe σ own) H σ2 e ts → L2.wipe σ2 own = L2.wipe σ own := by
        rintro H e ts ⟨S, g⟩
        apply List.ext_getElem?
        intro j
        rw [wipe_get, wipe_get]
        have hlen : σ2.length = σ.length := by rw [g.keep.2, wipe_length]
        by_cases hj : j ∈ own
        · rw [if_pos hj, if_pos hj, hlen]
        · rw [if_neg hj, if_neg hj, g.keep.1 j (by simp [Cn.inner, hj]), wipe_get, if_neg hj]
      have hw := hσ2 R4
      refine ⟨hw, ?_⟩
      have hA2 : (∀ j, (C.inner own).A j = false → (L2.wipe σ2 own)[j]? = (L2.wipe σ own)[j]?) ∧ (L2.wipe σ2 own).length = (L2.wipe σ own).length := ⟨fun _ _ => by rw [hw], by rw [hw]⟩
      split at hz'
      case h_2 => cases hz'
      rename_i b e4 h4
      refine ht B' _ σ2 H3 e3 _ R4 _ h4 _ fun H4 R5 => ?_
      cases b with
      | false =>
        rw [if_neg Bool.false_ne_true] at hz' ⊢
        obtain ⟨S5, g5⟩ := R5
        refine ⟨_, acc, ?_, hz'⟩
        have g6 := g5.wipe (C' := C.inner own) (vs := own) rfl hA2 hna
        rw [hw] at g6
        exact ⟨_, g6⟩
      | true =>
        rw [if_pos rfl] at hz' ⊢
        split at hz'
        case h_2 => cases hz'
        rename_i y e5 h5
        split at hz'
        case h_2 => cases hz'
        rename_i y' e6 h6
        split at hz'
        case isFalse => cases hz'
        rename_i hsz
        refine he B' _ σ2 H4 e4 _ R5 _ h5 _ fun w H5 ⟨S6, g6⟩ => ?_
        obtain ⟨S7, g7, hy'⟩ := g6.takenF (ts1 := []) h6
        have ho : Ow C.K (pset B' S7) H5 (.ref E) (.mls acc) (S7 (.inr fr.length)) := by
          rcases g7.tmp fr.length (.ref E) (.mls acc) (by simp) with ⟨k, e, _⟩ | h
          · cases e
          · exact h
        cases ho with
        | fz h _ => cases h
        | @mls a' xs' ds' S' hE' hA' hS' =>
          refine ⟨xs', hE', by rw [sizeLine_eq, hA'.1]; exact hsz, _, acc ++ [y'], ?_, hz'⟩
          have hcell : S7 (.inr fr.length) E := (hS' E).mpr rfl
          have g8 := g7.push (H1 := L2.upd H5 E (.lst (xs' ++ [w]))) (v := .ref E) (d := .mls (acc ++ [y'])) fr.length (by simp) (S7 (.inr fr.length)) (.mut hcell) (fun a z => ⟨.inl z, by rw [(hS' a).mp z, upd_same]; simp⟩)
            (.mls upd_same ((hA'.snoc hy').move (.mut (.inr ⟨_, hcell⟩)) fun a z => ?_) hS')
          · have et : List.take fr.length (fr ++ [(V.ref E, D.mls acc)] ++ [(w, y')]) = fr := by
              rw [List.append_assoc, List.take_left]
            have g9 : Good (C.inner own) B' (L2.wipe σ own) (L2.upd H5 E (.lst (xs' ++ [w]))) σ2 e6 (fr ++ [(V.ref E, D.mls (acc ++ [y']))]) _ := et ▸ g8
            have g10 := g9.wipe (C' := C.inner own) (vs := own) rfl hA2 (hnf.snoc rfl)
            rw [hw] at g10
            exact ⟨_, g10⟩
          · rcases z with z | ⟨i, ⟨rfl, z⟩ | ⟨_, z⟩⟩
            · exact .inl (.inl z)
            · exact .inl (.inr ⟨_, z⟩)
            · exact .inl (.inr ⟨_, z⟩)
    · have : i = xs.length := by omega
      subst this
      rw [List.drop_length] at hz'
      obtain ⟨rfl, rfl⟩ : acc = ys ∧ e' = e2 := by cases hz'; exact ⟨rfl, rfl⟩
      refine .inl ⟨y2 (Nat.le_refl _), ?_⟩
      have g9 : Good C B' σ0 H' σ e' (fr ++ [(V.ref E, D.mls acc)]) S := g'.turn (C' := C) rfl g1.keep hna (by
        have := g'.len
        rw [wipe_length] at this
        exact this) fun i d v e => by
          obtain ⟨v', h1, _⟩ := g'.slot i d e
          rw [wipe_get] at h1
          have hi : i ∉ own := fun z => by
            rw [if_pos z] at h1
            split at h1 <;> cases h1
          exact ⟨e, fun h => by rw [wipe_get, if_neg hi] at h; exact h⟩
      have R9 : Rep C B' σ0 H' σ e' ([] ++ fr ++ [(V.ref E, D.mls acc)]) := ⟨S, by rw [List.nil_append]; exact g9⟩
      obtain ⟨S9, g10⟩ := R9.mid rfl
      obtain ⟨U, gU, _⟩ := hback H' _ _ S9 g10
      exact hq _ _ ⟨U, gU⟩
end
/-! ### a def -/
def outA : List D → Env → Option (List D)
  | [], _ => some []
  | d :: ds, o :: e => match (if isFz d = true then some d else o) with
    | some x => (match outA ds e with | some xs => some (x :: xs) | none => none)
    | none => none
  | _ :: _, [] => none
def mFun (np nl : Nat) (asg : List Nat) (body : MS) : MF := fun ds => if ds.length = np ∧ asg.all (fun j => match ds[j]? with | some d => isFz d | none => true) = true then (match body (ds.map some ++ List.replicate nl none) with
  | some (.ok (.rt d) e) => (match outA ds e with | some ds' => some (.ok d ds') | none => none)
  | some (.ok .nx e) => (match outA ds e with | some ds' => some (.ok .non ds') | none => none)
  | some (.ex x e) => (match outA ds e with | some ds' => some (.ex x ds') | none => none)
  | _ => none) else none
theorem outA_len : ∀ {ds ds' : List D} {e : Env}, outA ds e = some ds' → ds'.length = ds.length
  | [], ds', e, h => by cases h; rfl
  | d :: ds, ds', [], h => by cases h
  | d :: ds, ds', o :: e, h => by
    unfold outA at h
    split at h
    · split at h
      · rename_i xs h2
        cases h
        simp [outA_len h2]
      · cases h
    · cases h
theorem outA_get : ∀ {ds ds' : List D} {e : Env} {j : Nat} {d : D}, outA ds e = some ds' → ds[j]? = some d → ∃ d', ds'[j]? = some d' ∧ ((isFz d = true ∧ d' = d) ∨ (isFz d = false ∧ e[j]? = some (some d')))
  | [], ds', e, j, d, h, hj => by simp at hj
  | _ :: ds, ds', [], j, d, h, hj => by cases h
  | d0 :: ds, ds', o :: e, j, d, h, hj => by
    unfold outA at h
    split at h
    · rename_i x hx
      split at h
      · rename_i xs h2
        cases h
        cases j with
        | zero =>
          simp at hj
          subst hj
          refine ⟨x, rfl, ?_⟩
          split at hx
          · rename_i hf; cases hx; exact .inl ⟨hf, rfl⟩
          · rename_i hf; subst hx; exact .inr ⟨by simpa using hf, rfl⟩
        | succ j =>
          obtain ⟨d', q1, q2⟩ := outA_get (j := j) h2 (by simpa using hj)
          exact ⟨d', by simpa using q1, by simpa using q2⟩
      · cases h
    · cases h
/-- the names of a body -/
def bC (K : PySem.W.Frag) (W : WX) (cv : Str → Value) (np : Nat) (asg : List Nat) : Cn := ⟨K, W, cv, fun j => decide (np ≤ j) || asg.contains j⟩
theorem body_mir {K : PySem.W.Frag} {cv : Str → Value} {np nl : Nat} {asg : List Nat} {body : MS} {t : TS} {N : List Str} {vs : List V} {H : Hp} {Q : VK} {E : XK} (hN : N.length = np + nl)
    (hb : SS (bC K (fun c o _ H => E c o H) cv np asg) t body) (h : spM K cv (mFun np nl asg body) vs H Q E) : t { nx := fun _ H' => Q .non H', rt := Q } (L2.start N vs) H := by
  obtain ⟨B, ds, r, rfl, hl, hm, ⟨S, g⟩, hr⟩ := h
  unfold mFun at hm
  split at hm
  case isFalse => cases hm
  rename_i hc
  obtain ⟨hnp, hasg⟩ := hc
  have hvl : vs.length = np := by omega
  have hst : L2.start N vs = vs.map some ++ List.replicate nl none := by
    unfold L2.start
    rw [hN, hvl, Nat.add_sub_cancel_left]
  rw [hst]
  have hgetv : ∀ {i : Nat}, i < np → (vs.map some ++ List.replicate nl none)[i]? = (vs.map some)[i]? := fun hi => List.getElem?_append_left (by simp; omega)
  have hget : ∀ {i : Nat} {d : D}, (ds.map some ++ List.replicate nl none)[i]? = some (some d) → i < np ∧ (ds.map some)[i]? = some (some d) := by
    intro i d e
    by_cases hi : i < np
    · rw [List.getElem?_append_left (by simp; omega)] at e; exact ⟨hi, e⟩
    · rw [List.getElem?_append_right (by simp; omega), List.getElem?_replicate] at e
      split at e <;> cases e
  let B1 : Bs := ⟨B.ps0, B.H0, fun a => ∃ i, S i a⟩
  have g1 : Good (bC K (fun c o _ H => E c o H) cv np asg) B1 (vs.map some ++ List.replicate nl none) B.H0 (vs.map some ++ List.replicate nl none) (ds.map some ++ List.replicate nl none) [] S :=
    ⟨.refl, fun a h => ⟨(g.fr a h).1, fun ⟨i, z⟩ => (g.sub i a z).2 h⟩, fun i a h => ⟨.inl ⟨i, h⟩, (g.sub i a h).2⟩, g.trk, g.dis, by simp [hl], ⟨fun _ _ => rfl, rfl⟩, fun i d e => by
      obtain ⟨hi, e⟩ := hget e
      obtain ⟨v, h1, h2⟩ := g.slot i d e
      exact ⟨v, by rw [hgetv hi]; exact h1, h2⟩, fun j v d e => by simp at e⟩
  -- back at the caller's
  have hend : ∀ {H' σ' e' ts' S' ds'}, Good (bC K (fun c o _ H => E c o H) cv np asg) B1 (vs.map some ++ List.replicate nl none) H' σ' e' ts' S' → NoAl ts' → outA ds e' = some ds' → ∃ U, Good (fC K cv) B (vs.map some) H' (vs.map some) (ds'.map some) ts' U ∧ ∀ a, pset B U a → pset B1 S' a := by
    intro H' σ' e' ts' S' ds' g' hna ho
    let U : Ix → Addr → Prop := fun i a => S' i a ∧ ∀ j, i = .inl j → ∀ d, ds[j]? = some d → isFz d = false
    have hUp : ∀ a, pset B U a → pset B1 S' a := by
      rintro a (h | ⟨i, h, _⟩)
      · exact .inl h
      · exact .inr ⟨i, h⟩
    have hold := outA_len ho
    have hkS : Kp (pset B S) B.H0 H' := g'.kp.more fun a ⟨i, z⟩ => .inr ⟨i, z⟩
    have hqS : ∀ a, pset B U a → pset B S a ∨ B.H0 a = none := by
      rintro a (h | ⟨i, h, _⟩)
      · exact .inl (.inl h)
      · rcases (g'.sub i a h).1 with ⟨j, z⟩ | z
        · exact .inl (.inr ⟨j, z⟩)
        · exact .inr z
    refine ⟨U, ⟨⟨fun b o n e => ?_, g'.kp.dom⟩, g.fr, fun i a h => ?_, fun i a h => g'.trk i a h.1, fun i j a h1 h2 => g'.dis i j a h1.1 h2.1, by simp [hl, hold], ⟨fun _ _ => rfl, rfl⟩, fun i d e => ?_, fun j v d e => ?_⟩, hUp⟩
    · refine g'.kp.get b o (fun ⟨i, z⟩ => ?_) e
      rcases (g.sub i b z).1 with z | z
      · exact n z
      · rw [z] at e; cases e
    · obtain ⟨h1, h2⟩ := g'.sub i a h.1
      rcases h1 with ⟨j, z⟩ | z
      · exact g.sub j a z
      · exact ⟨.inr z, h2⟩
    · rw [List.getElem?_map] at e
      cases hd' : ds'[i]? with
      | none => rw [hd'] at e; cases e
      | some d1 =>
        rw [hd'] at e; cases e
        have hi : i < ds.length := by rw [← hold]; exact (List.getElem?_eq_some_iff.mp hd').1
        obtain ⟨d0, hd0⟩ : ∃ d0, ds[i]? = some d0 := ⟨ds[i], by simp [hi]⟩
        obtain ⟨d2, q1, q2⟩ := outA_get ho hd0
        rw [hd'] at q1; cases q1
        obtain ⟨v, hv, how⟩ := g.slot i d0 (by rw [List.getElem?_map, hd0]; rfl)
        rcases q2 with ⟨hf, rfl⟩ | ⟨hf, he⟩
        · exact ⟨v, hv, .fz ((how.dt hf).move hkS hqS) fun b z => by
            have := z.2 i rfl _ hd0
            rw [hf] at this; cases this⟩
        · obtain ⟨v', hv', how'⟩ := g'.slot i d he
          have hA : (bC K (fun c o _ H => E c o H) cv np asg).A i = false := by
            simp only [bC, Bool.or_eq_false_iff, decide_eq_false_iff_not]
            refine ⟨by omega, ?_⟩
            cases hx : asg.contains i with
            | false => rfl
            | true =>
              have := List.all_eq_true.mp hasg i (by simpa using hx)
              simp only [hd0] at this
              rw [hf] at this; cases this
          have := g'.keep.1 i hA
          rw [hv', hgetv (by omega), hv] at this
          cases this
          exact ⟨v, hv, (how'.move .refl (fun a z => .inl (hUp a z)) fun _ _ => rfl).iff fun b => ⟨fun z => z.1, fun z => ⟨z, fun j e d e2 => by
            cases e; rw [hd0] at e2; cases e2; exact hf⟩⟩⟩
    · have hn := hna _ (List.mem_of_getElem? e)
      rcases g'.tmp j v d e with ⟨k, rfl, _⟩ | h
      · cases hn
      · exact .inr ((h.move .refl (fun a z => .inl (hUp a z)) fun _ _ => rfl).iff fun b => ⟨fun z => z.1, fun z => ⟨z, fun j e => by cases e⟩⟩)
  split at hm
  · rename_i d e he
    split at hm
    · rename_i ds' ho
      cases hm
      refine hb B1 _ _ _ _ [] ⟨S, g1⟩ (fun p hp => by simp at hp) _ he _ fun v σ' H' hd ⟨S', g'⟩ => ?_
      obtain ⟨U, gU, _⟩ := hend g' (fun p hp => by simp at hp; subst hp; exact hd) ho
      exact hr v H' hd ⟨U, gU⟩
    · cases hm
  · rename_i e he
    split at hm
    · rename_i ds' ho
      cases hm
      refine hb B1 _ _ _ _ [] ⟨S, g1⟩ (fun p hp => by simp at hp) _ he _ fun σ' H' ⟨S', g'⟩ => ?_
      obtain ⟨U, gU, _⟩ := hend g' (fun p hp => by simp at hp) ho
      exact hr _ H' rfl (Good.prim (ts := []) (ts1 := []) gU (Post.dt .non))
    · cases hm
  · rename_i x e he
    split at hm
    · rename_i ds' ho
      cases hm
      refine hb B1 _ _ _ _ [] ⟨S, g1⟩ (fun p hp => by simp at hp) _ he _ fun σ' c o H' ⟨S', g', hx⟩ => ?_
      obtain ⟨U, gU, hU⟩ := hend g' (fun p hp => by simp at hp) ho
      exact hr c o H' ⟨U, gU, XOk.less (C := fC K cv) hx hU⟩
    · cases hm
  · cases hm
end Q


namespace Q
open PySem L2
/-! ### what operations make of data -/
mutual
def D.toP : D → PyData
  | .non => .none | .bl b => .bool b | .int i => .int i | .str s => .str s
  | .lst ds => .list (D.toPs ds) | .rol ds => .list (D.toPs ds) | .mls ds => .list (D.toPs ds) | .tup ds => .tuple (D.toPs ds)
  | .cst _ => .none | .al _ => .none
def D.toPs : List D → List PyData
  | [] => []
  | d :: ds => D.toP d :: D.toPs ds
end
mutual
def D.okP : D → Bool
  | .non => true | .bl _ => true | .int _ => true | .str _ => true
  | .lst ds => D.okPs ds | .rol ds => D.okPs ds | .mls ds => D.okPs ds | .tup ds => D.okPs ds
  | .cst _ => false | .al _ => false
def D.okPs : List D → Bool
  | [] => true
  | d :: ds => D.okP d && D.okPs ds
end
section
variable {K : PySem.W.Frag} {ps : Addr → Prop} {H : Hp} {v : V} {d : D} {xs : List V} {ds : List D}
mutual
theorem Dt.dp : ∀ {d : D} {v : V}, Dt K ps H v d → d.okP = true → Dp K H v d.toP
  | .non, v, h, _ => by rw [h.inv_non]; exact .non
  | .bl b, v, h, _ => by rw [h.inv_bl]; exact .bl b
  | .int b, v, h, _ => by rw [h.inv_int]; exact .int b
  | .str b, v, h, _ => by rw [h.inv_str]; exact .str b
  | .lst ds, v, h, e => by
    obtain ⟨a, xs, rfl, h1, _, hA⟩ := h.inv_lst
    exact .lst (SqL.of h1) (DtA.dp hA (by simpa [D.okP] using e))
  | .rol ds, v, h, e => by
    obtain ⟨a, xs, rfl, h1, hA⟩ := h.inv_rol
    exact .lst h1.sq (DtA.dp hA (by simpa [D.okP] using e))
  | .tup ds, v, h, e => by
    obtain ⟨a, xs, rfl, h1, hA⟩ := h.inv_tup
    exact .tup h1.sq (DtA.dp hA (by simpa [D.okP] using e))
  | .mls ds, v, h, e => by cases h
  | .cst c, v, h, e => by cases e
  | .al c, v, h, e => by cases e
theorem DtA.dp : ∀ {ds : List D} {xs : List V}, DtA K ps H xs ds → D.okPs ds = true → DpAll K H xs (D.toPs ds)
  | [], [], h, _ => .nil
  | [], _ :: _, h, _ => by have := h.1; simp at this
  | _ :: _, [], h, _ => by have := h.1; simp at this
  | d :: ds, x :: xs, h, e => by
    simp only [D.okPs, Bool.and_eq_true] at e
    exact .cons (Dt.dp (h.2 0 x d rfl rfl) e.1) (DtA.dp ⟨by simpa using h.1, fun i y f e1 e2 => h.2 (i + 1) y f (by simpa using e1) (by simpa using e2)⟩ e.2)
end
theorem Peek.dp (p : Peek K ps H v d) (h : d.okP = true) : Dp K H v d.toP := by
  obtain ⟨S, o, _⟩ := p
  cases o with
  | fz h1 _ => exact h1.dp h
  | mls h1 h2 _ => exact .lst (SqL.of h1) (DtA.dp h2 (by simpa [D.okP] using h))
end
def dAdd : D → D → Option D
  | .int i, .int j => some (.int (i + j))
  | .str a, .str b => if a.length + b.length ≤ 16777216 then some (.str (a ++ b)) else none
  | .tup a, .tup b => if a.length + b.length ≤ 16777216 then some (.tup (a ++ b)) else none
  | .lst a, .lst b => if a.length + b.length ≤ 16777216 then some (.mls (a ++ b)) else none
  | .lst a, .mls b => if a.length + b.length ≤ 16777216 then some (.mls (a ++ b)) else none
  | .mls a, .lst b => if a.length + b.length ≤ 16777216 then some (.mls (a ++ b)) else none
  | .mls a, .mls b => if a.length + b.length ≤ 16777216 then some (.mls (a ++ b)) else none
  | _, _ => none
def dSub : D → D → Option D
  | .int i, .int j => some (.int (i - j))
  | _, _ => none
def dMul : D → D → Option D
  | .int i, .int j => if (-18446744073709551616 < i ∧ i < 18446744073709551616) ∨ (-18446744073709551616 < j ∧ j < 18446744073709551616) then some (.int (i * j)) else none
  | .lst a, .int k => if (-9223372036854775808 ≤ k ∧ k < 9223372036854775808) ∧ a.length * k.toNat ≤ 16777216 then some (.mls (List.replicate k.toNat a).flatten) else none
  | .mls a, .int k => if (-9223372036854775808 ≤ k ∧ k < 9223372036854775808) ∧ a.length * k.toNat ≤ 16777216 then some (.mls (List.replicate k.toNat a).flatten) else none
  | _, _ => none
def dDiv : D → D → Option D
  | .int i, .int j => if 0 < j ∧ j < 1073741824 then some (.int (i / j)) else none
  | _, _ => none
def dMod : D → D → Option D
  | .int i, .int j => if 0 < j then some (.int (i % j)) else none
  | _, _ => none
def dPow : D → D → Option D
  | .int i, .int j => if 0 ≤ j ∧ j ≤ 1000 ∧ i.natAbs < 1000000 then some (.int (i ^ j.toNat)) else none
  | _, _ => none
def dNeg : D → Option D
  | .int i => some (.int (-i))
  | _ => none
def dLt : D → D → Option D
  | .int i, .int j => some (.bl (decide (i < j)))
  | .str i, .str j => some (.bl (decide (i.cps.toList < j.cps.toList)))
  | _, _ => none
def dLe : D → D → Option D
  | .int i, .int j => some (.bl (decide (i ≤ j)))
  | .str i, .str j => some (.bl (!decide (j.cps.toList < i.cps.toList)))
  | _, _ => none
def dGt : D → D → Option D
  | .int i, .int j => some (.bl (decide (j < i)))
  | .str i, .str j => some (.bl (decide (j.cps.toList < i.cps.toList)))
  | _, _ => none
def dGe : D → D → Option D
  | .int i, .int j => some (.bl (decide (j ≤ i)))
  | .str i, .str j => some (.bl (!decide (i.cps.toList < j.cps.toList)))
  | _, _ => none
/-- == -/
def eqD : D → D → Option Bool
  | .int i, .int j => some (decide (i = j))
  | .str i, .str j => some (decide (i = j))
  | .bl i, .bl j => some (decide (i = j))
  | .non, .non => some true
  | x, y => if x.okP = true ∧ y.okP = true ∧ SeqAt.shaped x.toP = true ∧ SeqAt.shaped y.toP = true then some (PyData.eqv x.toP y.toP) else none
def dEq (x y : D) : Option D := (eqD x y).map .bl
def dNe (x y : D) : Option D := (eqD x y).map fun b => .bl (!b)
def dIs : D → D → Option D
  | .non, .non => some (.bl true)
  | .cst _, .non => none
  | .al _, .non => none
  | _, .non => some (.bl false)
  | _, _ => none
def dIsNot : D → D → Option D
  | .non, .non => some (.bl false)
  | .cst _, .non => none
  | .al _, .non => none
  | _, .non => some (.bl true)
  | _, _ => none
def flatD : D → Bool
  | .non => true | .bl _ => true | .int _ => true | .str _ => true | _ => false
def toV : D → V
  | .bl b => .bl b | .int i => .int i | .str s => .str s | _ => .non
def inD (x : D) (y : D) : Option Bool := match y with
  | .str z => (match x with
    | .str s => (match s.cps.toList with | [c] => some (decide (c ∈ z.cps.toList)) | _ => none)
    | _ => none)
  | y => (match seqD y with
    | some ds => if flatD x = true ∧ ds.all flatD = true then some (inV (toV x) (ds.map toV)) else none
    | none => none)
def dIn (x y : D) : Option D := (inD x y).map .bl
def dNotIn (x y : D) : Option D := (inD x y).map fun b => .bl (!b)
def dIx : D → D → Option D
  | .str z, .int i => if z.length ≤ 16777216 then (match atI z.cps.toList i with | some c => some (.str ⟨#[c]⟩) | none => none) else none
  | x, .int i => (match seqD x with | some ds => atI ds i | none => none)
  | _, _ => none
def cutD (xs : List D) (lo hi : Option Int) : List D := (xs.drop (HT.sIx xs.length 0 lo)).take (HT.sIx xs.length xs.length hi - HT.sIx xs.length 0 lo)
def dSl (x : D) (lo hi : Option Int) : Option D := match x with
  | .str z => if z.length ≤ 16777216 then some (.str (cutS z lo hi)) else none
  | .tup ds => some (.tup (cutD ds lo hi))
  | .lst ds => some (.mls (cutD ds lo hi))
  | .rol ds => some (.mls (cutD ds lo hi))
  | .mls ds => some (.mls (cutD ds lo hi))
  | _ => none
def dLen : List D → Option D
  | [.str z] => if z.length ≤ 16777216 then some (.int z.length) else none
  | [x] => (match seqD x with | some ds => some (.int ds.length) | none => none)
  | _ => none
def dInt : List D → Option D
  | [.int i] => some (.int i)
  | _ => none
def dList : List D → Option D
  | [x] => (match seqD x with | some ds => some (.mls ds) | none => none)
  | _ => none
def dTuple : List D → Option D
  | [x] => (match seqD x with | some ds => some (.tup ds) | none => none)
  | _ => none
def dStr : List D → Option D
  | [.int i] => if i.natAbs.log2 < 1920 then some (.str (toString i)) else none
  | _ => none
def dMin : List D → Option D
  | [.int i, .int j] => some (.int (if j < i then j else i))
  | _ => none
def dMax : List D → Option D
  | [.int i, .int j] => some (.int (if j > i then j else i))
  | _ => none
def tyD : D → Option String
  | .non => some "NoneType" | .bl _ => some "bool" | .int _ => some "int" | .str _ => some "str" | .lst _ => some "list" | .mls _ => some "list" | .tup _ => some "tuple" | _ => none
def dIsi : List D → Option D
  | [x, .cst (.ty U)] => (match tyD x with
    | some t => (match kitB t U with | some b => some (.bl b) | none => none)
    | none => none)
  | _ => none
def lsD : D → Option (List D)
  | .lst ds => some ds | .mls ds => some ds | .rol ds => some ds | _ => none
def isBl : D → Bool | .bl _ => true | _ => false
def unBl : D → Bool | .bl b => b | _ => false
def isInt : D → Bool | .int _ => true | _ => false
def unInt : D → Int | .int b => b | _ => 0
def dAll : List D → Option D
  | [x] => (match lsD x with | some ds => if ds.all isBl = true then some (.bl (ds.all unBl)) else none | none => none)
  | _ => none
def dAny : List D → Option D
  | [x] => (match lsD x with | some ds => if ds.all isBl = true then some (.bl (ds.any unBl)) else none | none => none)
  | _ => none
def dSum : List D → Option D
  | [x] => (match lsD x with | some ds => if ds.all isInt = true then some (.int (ds.map unInt).sum) else none | none => none)
  | _ => none
section
variable {K : PySem.W.Frag} {ps : Addr → Prop} {H : Hp} {v : V} {d : D} {xs : List V} {ds : List D}
theorem atI_dt {i : Int} {d : D} (h : DtA K ps H xs ds) (e : atI ds i = some d) : ∃ x, atI xs i = some x ∧ Dt K ps H x d := by
  unfold atI at e ⊢
  rw [h.1]
  cases hk : ixN ds.length i with
  | none => rw [hk] at e; cases e
  | some k =>
    rw [hk] at e
    exact h.get e
theorem cut_dt (h : DtA K ps H xs ds) (lo hi : Option Int) : DtA K ps H (cutV xs lo hi) (cutD ds lo hi) := by
  unfold cutV cutD
  rw [h.1]
  exact (h.drop _).take _
theorem Peek.ls (p : Peek K ps H v d) (e : lsD d = some ds) : ∃ a xs, v = .ref a ∧ SqL K H a xs ∧ DtA K ps H xs ds := by
  cases d <;> cases e
  · obtain ⟨a, xs, e, h1, h2⟩ := p.lst; exact ⟨a, xs, e, SqL.of h1, h2⟩
  · obtain ⟨a, xs, e, h1, h2⟩ := p.rol; exact ⟨a, xs, e, h1, h2⟩
  · obtain ⟨a, xs, e, h1, h2⟩ := p.mls; exact ⟨a, xs, e, SqL.of h1, h2⟩
theorem flat_dt : ∀ {xs : List V} {ds : List D}, DtA K ps H xs ds → ds.all flatD = true → xs = ds.map toV ∧ xs.all flatV = true
  | [], [], h, _ => ⟨rfl, rfl⟩
  | [], _ :: _, h, _ => by have := h.1; simp at this
  | _ :: _, [], h, _ => by have := h.1; simp at this
  | x :: xs, d :: ds, h, e => by
    simp only [List.all_cons, Bool.and_eq_true] at e
    obtain ⟨h1, h2⟩ := flat_dt (xs := xs) (ds := ds) ⟨by simpa using h.1, fun i y f e1 e2 => h.2 (i + 1) y f (by simpa using e1) (by simpa using e2)⟩ e.2
    have h0 := h.2 0 x d rfl rfl
    have hx : x = toV d ∧ flatV x = true := by
      cases d <;> first | (cases h0; exact ⟨rfl, rfl⟩) | cases e.1
    refine ⟨by rw [h1, hx.1]; rfl, ?_⟩
    simp only [List.all_cons, Bool.and_eq_true]
    exact ⟨hx.2, h2⟩
theorem bls_dt : ∀ {xs : List V} {ds : List D}, DtA K ps H xs ds → ds.all isBl = true → xs = (ds.map unBl).map V.bl
  | [], [], h, _ => rfl
  | [], _ :: _, h, _ => by have := h.1; simp at this
  | _ :: _, [], h, _ => by have := h.1; simp at this
  | x :: xs, d :: ds, h, e => by
    simp only [List.all_cons, Bool.and_eq_true] at e
    have h1 := bls_dt (xs := xs) (ds := ds) ⟨by simpa using h.1, fun i y f e1 e2 => h.2 (i + 1) y f (by simpa using e1) (by simpa using e2)⟩ e.2
    have h0 := h.2 0 x d rfl rfl
    have hx : x = .bl (unBl d) := by cases d <;> first | (cases h0; rfl) | cases e.1
    rw [h1, hx]; rfl
theorem ints_dt : ∀ {xs : List V} {ds : List D}, DtA K ps H xs ds → ds.all isInt = true → xs = (ds.map unInt).map V.int
  | [], [], h, _ => rfl
  | [], _ :: _, h, _ => by have := h.1; simp at this
  | _ :: _, [], h, _ => by have := h.1; simp at this
  | x :: xs, d :: ds, h, e => by
    simp only [List.all_cons, Bool.and_eq_true] at e
    have h1 := ints_dt (xs := xs) (ds := ds) ⟨by simpa using h.1, fun i y f e1 e2 => h.2 (i + 1) y f (by simpa using e1) (by simpa using e2)⟩ e.2
    have h0 := h.2 0 x d rfl rfl
    have hx : x = .int (unInt d) := by cases d <;> first | (cases h0; rfl) | cases e.1
    rw [h1, hx]; rfl
theorem Peek.flat (p : Peek K ps H v d) (h : flatD d = true) : v = toV d ∧ flatV v = true := by
  cases d <;> first | cases h | skip
  · rw [p.non]; exact ⟨rfl, rfl⟩
  · rw [p.bl]; exact ⟨rfl, rfl⟩
  · rw [p.int]; exact ⟨rfl, rfl⟩
  · rw [p.str]; exact ⟨rfl, rfl⟩
theorem p_add : P2 K (rAddD K) dAdd := by
  intro ps H x y d d' e Q ht px py h hq
  have hls : ∀ {a b : List D} {xa xb : List V} {l m : Addr}, H l = some (.lst xa) → H m = some (.lst xb) → DtA K ps H xa a → DtA K ps H xb b → (if a.length + b.length ≤ 16777216 then some (D.mls (a ++ b)) else none) = some e → rAddD K (.ref l) (.ref m) H Q := fun {a b xa xb l m} h1 h2 hA hB h => by
    split at h
    · rename_i hsz
      cases h
      exact .inl ⟨l, m, xa, xb, rfl, rfl, h1, h2, by rw [hA.1, hB.1, sizeLine_eq]; exact hsz, fun p hp => hq _ _ (Post.lst hp (hA.append hB))⟩
    · cases h
  match d, d', h with
  | .int i, .int j, h => cases h; rw [px.int, py.int]; exact hq _ _ (Post.dt (.int _))
  | .str a, .str b, h =>
    simp only [dAdd] at h
    split at h
    · rename_i hsz
      cases h; rw [px.str, py.str]; exact ⟨by rw [sizeLine_eq]; exact hsz, hq _ _ (Post.dt (.str _))⟩
    · cases h
  | .tup a, .tup b, h =>
    simp only [dAdd] at h
    split at h
    · rename_i hsz
      cases h
      obtain ⟨l, xa, rfl, h1, hA⟩ := px.tup
      obtain ⟨m, xb, rfl, h2, hB⟩ := py.tup
      obtain ⟨S1, o1, _⟩ := px
      obtain ⟨S2, o2, _⟩ := py
      refine .inr ⟨l, m, xa, xb, rfl, rfl, h1, h2, by rw [hA.1, hB.1, sizeLine_eq]; exact hsz, fun hx => ?_, fun hx hy => ?_, fun hx hy p hp => hq _ _ (Post.tup ht hp (hA.append hB))⟩
      · have : a = [] := List.eq_nil_of_length_eq_zero (by rw [← hA.1, hx]; rfl)
        subst this
        exact hq _ _ (Post.dt (o2.dt rfl))
      · have : b = [] := List.eq_nil_of_length_eq_zero (by rw [← hB.1, hy]; rfl)
        subst this
        rw [List.append_nil] at hq
        exact hq _ _ (Post.dt (o1.dt rfl))
    · cases h
  | .lst a, .lst b, h => obtain ⟨l, xa, rfl, h1, hA⟩ := px.lst; obtain ⟨m, xb, rfl, h2, hB⟩ := py.lst; exact hls h1 h2 hA hB h
  | .lst a, .mls b, h => obtain ⟨l, xa, rfl, h1, hA⟩ := px.lst; obtain ⟨m, xb, rfl, h2, hB⟩ := py.mls; exact hls h1 h2 hA hB h
  | .mls a, .lst b, h => obtain ⟨l, xa, rfl, h1, hA⟩ := px.mls; obtain ⟨m, xb, rfl, h2, hB⟩ := py.lst; exact hls h1 h2 hA hB h
  | .mls a, .mls b, h => obtain ⟨l, xa, rfl, h1, hA⟩ := px.mls; obtain ⟨m, xb, rfl, h2, hB⟩ := py.mls; exact hls h1 h2 hA hB h
theorem p_sub : P2 K rSubD dSub := by
  intro ps H x y d d' e Q ht px py h hq
  match d, d', h with
  | .int i, .int j, h => cases h; rw [px.int, py.int]; exact hq _ _ (Post.dt (.int _))
theorem p_mul : P2 K rMulD dMul := by
  intro ps H x y d d' e Q ht px py h hq
  have hls : ∀ {a : List D} {k : Int} {xa : List V} {l : Addr}, H l = some (.lst xa) → DtA K ps H xa a → (if (-9223372036854775808 ≤ k ∧ k < 9223372036854775808) ∧ a.length * k.toNat ≤ 16777216 then some (D.mls (List.replicate k.toNat a).flatten) else none) = some e → rMulD (.ref l) (.int k) H Q := fun {a k xa l} h1 hA h => by
    split at h
    · rename_i hc
      cases h
      exact ⟨l, k, xa, rfl, rfl, h1, by omega, by omega, by rw [hA.1, sizeLine_eq]; exact hc.2, fun p hp => hq _ _ (Post.lst hp (hA.flat _))⟩
    · cases h
  match d, d', h with
  | .int i, .int j, h =>
    simp only [dMul] at h
    split at h
    · rename_i hc
      cases h; rw [px.int, py.int]
      refine ⟨?_, hq _ _ (Post.dt (.int _))⟩
      rcases hc with hc | hc
      · exact .inl ⟨by omega, by omega⟩
      · exact .inr ⟨by omega, by omega⟩
    · cases h
  | .lst a, .int k, h => obtain ⟨l, xa, rfl, h1, hA⟩ := px.lst; rw [py.int]; exact hls h1 hA h
  | .mls a, .int k, h => obtain ⟨l, xa, rfl, h1, hA⟩ := px.mls; rw [py.int]; exact hls h1 hA h
theorem p_div : P2 K rFdivD dDiv := by
  intro ps H x y d d' e Q ht px py h hq
  match d, d', h with
  | .int i, .int j, h =>
    simp only [dDiv] at h
    split at h
    · rename_i hc
      cases h; rw [px.int, py.int]; exact ⟨hc, hq _ _ (Post.dt (.int _))⟩
    · cases h
theorem p_mod : P2 K rModD dMod := by
  intro ps H x y d d' e Q ht px py h hq
  match d, d', h with
  | .int i, .int j, h =>
    simp only [dMod] at h
    split at h
    · rename_i hc
      cases h; rw [px.int, py.int]; exact ⟨hc, hq _ _ (Post.dt (.int _))⟩
    · cases h
theorem p_pow : P2 K rPowD dPow := by
  intro ps H x y d d' e Q ht px py h hq
  match d, d', h with
  | .int i, .int j, h =>
    simp only [dPow] at h
    split at h
    · rename_i hc
      cases h; rw [px.int, py.int]; exact ⟨⟨hc.1, by omega, by omega⟩, hq _ _ (Post.dt (.int _))⟩
    · cases h
theorem p_neg : P1 K rNeg dNeg := by
  intro ps H x d e Q ht px h hq
  match d, h with
  | .int i, h => cases h; rw [px.int]; exact ⟨i, rfl, hq _ _ (Post.dt (.int _))⟩
theorem p_lt : P2 K rLtD dLt := by
  intro ps H x y d d' e Q ht px py h hq
  match d, d', h with
  | .int i, .int j, h => cases h; rw [px.int, py.int]; exact hq _ _ (Post.dt (.bl _))
  | .str i, .str j, h => cases h; rw [px.str, py.str]; exact hq _ _ (Post.dt (.bl _))
theorem p_le : P2 K rLeD dLe := by
  intro ps H x y d d' e Q ht px py h hq
  match d, d', h with
  | .int i, .int j, h => cases h; rw [px.int, py.int]; exact hq _ _ (Post.dt (.bl _))
  | .str i, .str j, h => cases h; rw [px.str, py.str]; exact hq _ _ (Post.dt (.bl _))
theorem p_gt : P2 K rGtD dGt := by
  intro ps H x y d d' e Q ht px py h hq
  match d, d', h with
  | .int i, .int j, h => cases h; rw [px.int, py.int]; exact hq _ _ (Post.dt (.bl _))
  | .str i, .str j, h => cases h; rw [px.str, py.str]; exact hq _ _ (Post.dt (.bl _))
theorem p_ge : P2 K rGeD dGe := by
  intro ps H x y d d' e Q ht px py h hq
  match d, d', h with
  | .int i, .int j, h => cases h; rw [px.int, py.int]; exact hq _ _ (Post.dt (.bl _))
  | .str i, .str j, h => cases h; rw [px.str, py.str]; exact hq _ _ (Post.dt (.bl _))
theorem eq_ok {ps : Addr → Prop} {H : Hp} {x y : V} {d d' : D} {b : Bool} (px : Peek K ps H x d) (py : Peek K ps H y d') (h : eqD d d' = some b) : (scal x y = true ∧ decide (x = y) = b) ∨ ∃ e e', Dp K H x e ∧ Dp K H y e' ∧ SeqAt.shaped e = true ∧ SeqAt.shaped e' = true ∧ PyData.eqv e e' = b := by
  unfold eqD at h
  split at h
  · cases h; rw [px.int, py.int]; exact .inl ⟨rfl, by simp⟩
  · cases h; rw [px.str, py.str]; exact .inl ⟨rfl, by simp⟩
  · cases h; rw [px.bl, py.bl]; exact .inl ⟨rfl, by simp⟩
  · cases h; rw [px.non, py.non]; exact .inl ⟨rfl, by simp⟩
  · split at h
    · rename_i hc
      cases h
      exact .inr ⟨_, _, px.dp hc.1, py.dp hc.2.1, hc.2.2.1, hc.2.2.2, rfl⟩
    · cases h
theorem p_eq : P2 K (rEqX K) dEq := by
  intro ps H x y d d' e Q ht px py h hq
  unfold dEq at h
  cases hb : eqD d d' with
  | none => rw [hb] at h; cases h
  | some b =>
    rw [hb] at h; cases h
    rcases eq_ok px py hb with ⟨h1, h2⟩ | ⟨e, e', h1, h2, h3, h4, h5⟩
    · exact .inl ⟨h1, by rw [h2]; exact hq _ _ (Post.dt (.bl _))⟩
    · exact .inr ⟨e, e', h1, h2, h3, h4, by rw [h5]; exact hq _ _ (Post.dt (.bl _))⟩
theorem p_ne : P2 K (rNeX K) dNe := by
  intro ps H x y d d' e Q ht px py h hq
  unfold dNe at h
  cases hb : eqD d d' with
  | none => rw [hb] at h; cases h
  | some b =>
    rw [hb] at h; cases h
    rcases eq_ok px py hb with ⟨h1, h2⟩ | ⟨e, e', h1, h2, h3, h4, h5⟩
    · exact .inl ⟨h1, by rw [h2]; exact hq _ _ (Post.dt (.bl _))⟩
    · exact .inr ⟨e, e', h1, h2, h3, h4, by rw [h5]; exact hq _ _ (Post.dt (.bl _))⟩
theorem peek_non (p : Peek K ps H v d) (h1 : ∀ c, d ≠ .cst c) : v = .non ↔ d = .non := by
  constructor
  · rintro rfl
    obtain ⟨S, o, _⟩ := p
    cases o with
    | fz h _ => cases h with
      | non => rfl
      | cst => exact absurd rfl (h1 _)
  · rintro rfl
    exact p.non
theorem p_is : P2 K rIsD dIs := by
  intro ps H x y d d' e Q ht px py h hq
  have hy : d' = .non := by
    cases d' <;> first | rfl | (unfold dIs at h; cases d <;> cases h)
  subst hy
  refine ⟨py.non, ?_⟩
  have hc : ∀ c, d ≠ .cst c := fun c z => by subst z; cases h
  have := peek_non px hc
  cases d <;> first | (cases h; rw [decide_eq_true (this.mpr rfl)]; exact hq _ _ (Post.dt (.bl _))) | (cases h; rw [decide_eq_false (fun z => by have := this.mp z; cases this)]; exact hq _ _ (Post.dt (.bl _))) | cases h
theorem p_isnot : P2 K rIsnotD dIsNot := by
  intro ps H x y d d' e Q ht px py h hq
  have hy : d' = .non := by
    cases d' <;> first | rfl | (unfold dIsNot at h; cases d <;> cases h)
  subst hy
  refine ⟨py.non, ?_⟩
  have hc : ∀ c, d ≠ .cst c := fun c z => by subst z; cases h
  have := peek_non px hc
  cases d <;> first | (cases h; rw [decide_eq_true (this.mpr rfl)]; exact hq _ _ (Post.dt (.bl _))) | (cases h; rw [decide_eq_false (fun z => by have := this.mp z; cases this)]; exact hq _ _ (Post.dt (.bl _))) | cases h
theorem in_ok {ps : Addr → Prop} {H : Hp} {x y : V} {d d' : D} {b : Bool} (px : Peek K ps H x d) (py : Peek K ps H y d') (h : inD d d' = some b) : (∃ p xs, y = .ref p ∧ (SqL K H p xs ∨ SqT K H p xs) ∧ flatV x = true ∧ xs.all flatV = true ∧ inV x xs = b) ∨ ∃ (c : Nat) (z : Str), x = .str ⟨#[c]⟩ ∧ y = .str z ∧ decide (c ∈ z.cps.toList) = b := by
  unfold inD at h
  split at h
  · rename_i z
    split at h
    · rename_i s
      split at h
      · rename_i c hc
        cases h
        refine .inr ⟨c, z, ?_, py.str, rfl⟩
        rw [px.str]
        obtain ⟨a⟩ := s
        congr 2
        apply Array.ext'
        simpa using hc
      · cases h
    · cases h
  · split at h
    · rename_i ds hds
      split at h
      · rename_i hc
        cases h
        obtain ⟨a, xs, rfl, hq, hA⟩ := py.seq hds
        obtain ⟨e1, e2⟩ := flat_dt hA hc.2
        obtain ⟨e3, e4⟩ := px.flat hc.1
        exact .inl ⟨a, xs, rfl, hq, e4, e2, by rw [e3, e1]⟩
      · cases h
    · cases h
theorem p_in : P2 K (rInD K) dIn := by
  intro ps H x y d d' e Q ht px py h hq
  unfold dIn at h
  cases hb : inD d d' with
  | none => rw [hb] at h; cases h
  | some b =>
    rw [hb] at h; cases h
    rcases in_ok px py hb with ⟨p, xs, h1, h2, h3, h4, h5⟩ | ⟨c, z, h1, h2, h3⟩
    · exact .inl ⟨p, xs, h1, h2, h3, h4, by rw [if_neg Bool.false_ne_true, h5]; exact hq _ _ (Post.dt (.bl _))⟩
    · exact .inr (.inr ⟨c, z, h1, h2, by rw [h3]; exact hq _ _ (Post.dt (.bl _))⟩)
theorem p_notin : P2 K (rNotInD K) dNotIn := by
  intro ps H x y d d' e Q ht px py h hq
  unfold dNotIn at h
  cases hb : inD d d' with
  | none => rw [hb] at h; cases h
  | some b =>
    rw [hb] at h; cases h
    rcases in_ok px py hb with ⟨p, xs, h1, h2, h3, h4, h5⟩ | ⟨c, z, h1, h2, h3⟩
    · exact .inl ⟨p, xs, h1, h2, h3, h4, by rw [if_pos rfl, h5]; exact hq _ _ (Post.dt (.bl _))⟩
    · exact .inr (.inr ⟨c, z, h1, h2, by rw [h3]; exact hq _ _ (Post.dt (.bl _))⟩)
theorem p_ix : P2 K (rIxD K) dIx := by
  intro ps H x y d d' e Q ht px py h hq
  unfold dIx at h
  split at h
  · rename_i z i
    split at h
    · rename_i hsz
      split at h
      · rename_i c hc
        cases h
        exact .inl (.inr (.inr ⟨z, i, c, px.str, py.int, by rw [sizeLine_eq]; exact hsz, hc, hq _ _ (Post.dt (.str _))⟩))
      · cases h
    · cases h
  · rename_i i _
    split at h
    · rename_i ds hds
      obtain ⟨a, xs, rfl, hs, hA⟩ := px.seq hds
      obtain ⟨v, hv, hd⟩ := atI_dt hA h
      rcases hs with hs | hs
      · exact .inl (.inl ⟨a, xs, i, v, rfl, py.int, hs, hv, hq _ _ (Post.dt hd)⟩)
      · exact .inl (.inr (.inl ⟨a, xs, i, v, rfl, py.int, hs, hv, hq _ _ (Post.dt hd)⟩))
    · cases h
  · cases h
theorem p_sl : PSl K (rSlX K) dSl := by
  intro ps H x d lo hi e Q ht px h hq
  unfold dSl at h
  split at h
  · split at h
    · rename_i z hsz
      cases h
      exact .inr (.inr ⟨z, px.str, by rw [sizeLine_eq]; exact hsz, hq _ _ (Post.dt (.str _))⟩)
    · cases h
  · rename_i ds
    cases h
    obtain ⟨a, xs, rfl, h1, hA⟩ := px.tup
    obtain ⟨S1, o1, _⟩ := px
    refine .inr (.inl ⟨a, xs, rfl, h1, fun hw => ?_, fun _ p hp => hq _ _ (Post.tup ht hp (cut_dt hA lo hi))⟩)
    have : cutD ds lo hi = ds := by
      unfold cutD
      rw [← hA.1, hw.1, hw.2, hA.1]
      simp
    rw [this] at hq
    exact hq _ _ (Post.dt (o1.dt rfl))
  · cases h; obtain ⟨a, xs, rfl, h1, hA⟩ := px.lst; exact .inl ⟨a, xs, rfl, SqL.of h1, fun p hp => hq _ _ (Post.lst hp (cut_dt hA lo hi))⟩
  · cases h; obtain ⟨a, xs, rfl, h1, hA⟩ := px.rol; exact .inl ⟨a, xs, rfl, h1, fun p hp => hq _ _ (Post.lst hp (cut_dt hA lo hi))⟩
  · cases h; obtain ⟨a, xs, rfl, h1, hA⟩ := px.mls; exact .inl ⟨a, xs, rfl, SqL.of h1, fun p hp => hq _ _ (Post.lst hp (cut_dt hA lo hi))⟩
  · cases h
theorem PeekA.one {xs : List V} {d : D} (h : PeekA K ps H xs [d]) : ∃ x, xs = [x] ∧ Peek K ps H x d := by
  cases h with
  | cons h1 h2 => cases h2; exact ⟨_, rfl, h1⟩
theorem PeekA.two {xs : List V} {d e : D} (h : PeekA K ps H xs [d, e]) : ∃ x y, xs = [x, y] ∧ Peek K ps H x d ∧ Peek K ps H y e := by
  cases h with
  | cons h1 h2 =>
    obtain ⟨y, rfl, h3⟩ := h2.one
    exact ⟨_, _, rfl, h1, h3⟩
theorem p_len : PN K (rLenD K) dLen := by
  intro ps H xs ds e Q ht p h hq
  unfold dLen at h
  split at h
  · split at h
    · rename_i z hsz
      cases h
      obtain ⟨x, rfl, px⟩ := p.one
      rw [px.str]
      exact .inl ⟨_, z.length, rfl, ⟨by rw [sizeLine_eq]; exact hsz, rfl⟩, fun _ => hq _ _ (Post.dt (.int _))⟩
    · cases h
  · split at h
    · rename_i ds' hds
      cases h
      obtain ⟨x, rfl, px⟩ := p.one
      obtain ⟨a, xs, rfl, hs, hA⟩ := px.seq hds
      have e := hA.1
      rcases hs with hs | hs
      · exact .inl ⟨_, ds'.length, rfl, .inl ⟨xs, hs, e.symm⟩, fun _ => hq _ _ (Post.dt (.int _))⟩
      · exact .inl ⟨_, ds'.length, rfl, .inr ⟨xs, hs, e.symm⟩, fun _ => hq _ _ (Post.dt (.int _))⟩
    · cases h
  · cases h
theorem p_int : PN K rIntD dInt := by
  intro ps H xs ds e Q ht p h hq
  unfold dInt at h
  split at h
  · cases h
    obtain ⟨x, rfl, px⟩ := p.one
    rw [px.int]; exact hq _ _ (Post.dt (.int _))
  · cases h
theorem p_list : PN K (rListD K) dList := by
  intro ps H xs ds e Q ht p h hq
  unfold dList at h
  split at h
  · split at h
    · rename_i hds
      cases h
      obtain ⟨x, rfl, px⟩ := p.one
      obtain ⟨a, xs, rfl, hs, hA⟩ := px.seq hds
      exact ⟨a, xs, rfl, hs, fun l hl => hq _ _ (Post.lst hl hA)⟩
    · cases h
  · cases h
theorem p_tuple : PN K (rTupleD K) dTuple := by
  intro ps H xs ds e Q ht p h hq
  unfold dTuple at h
  split at h
  · rename_i d
    split at h
    · rename_i hds
      cases h
      obtain ⟨x, rfl, px⟩ := p.one
      cases d <;> cases hds
      · obtain ⟨a, xs, rfl, hs, hA⟩ := px.tup
        obtain ⟨S1, o1, _⟩ := px
        exact ⟨a, xs, rfl, .inr ⟨hs, hq _ _ (Post.dt (o1.dt rfl))⟩⟩
      · obtain ⟨a, xs, rfl, hs, hA⟩ := px.lst
        exact ⟨a, xs, rfl, .inl ⟨SqL.of hs, fun l hl => hq _ _ (Post.tup ht hl hA)⟩⟩
      · obtain ⟨a, xs, rfl, hs, hA⟩ := px.rol
        exact ⟨a, xs, rfl, .inl ⟨hs, fun l hl => hq _ _ (Post.tup ht hl hA)⟩⟩
      · obtain ⟨a, xs, rfl, hs, hA⟩ := px.mls
        exact ⟨a, xs, rfl, .inl ⟨SqL.of hs, fun l hl => hq _ _ (Post.tup ht hl hA)⟩⟩
    · cases h
  · cases h
theorem p_str : PN K rStrD dStr := by
  intro ps H xs ds e Q ht p h hq
  unfold dStr at h
  split at h
  · split at h
    · rename_i hc
      cases h
      obtain ⟨x, rfl, px⟩ := p.one
      rw [px.int]; exact ⟨hc, hq _ _ (Post.dt (.str _))⟩
    · cases h
  · cases h
theorem p_min : PN K (rMinD K) dMin := by
  intro ps H xs ds e Q ht p h hq
  unfold dMin at h
  split at h
  · cases h
    obtain ⟨x, y, rfl, px, py⟩ := p.two
    rw [px.int, py.int]; exact hq _ _ (Post.dt (.int _))
  · cases h
theorem p_max : PN K (rMaxD K) dMax := by
  intro ps H xs ds e Q ht p h hq
  unfold dMax at h
  split at h
  · cases h
    obtain ⟨x, y, rfl, px, py⟩ := p.two
    rw [px.int, py.int]; exact hq _ _ (Post.dt (.int _))
  · cases h
theorem Peek.ty {t : String} (p : Peek K ps H v d) (h : tyD d = some t) : TyX K H v (.type t) := by
  cases d with
  | non => cases h; rw [p.non]; exact .base .non
  | bl b => cases h; rw [p.bl]; exact .base (.bl b)
  | int b => cases h; rw [p.int]; exact .base (.int b)
  | str b => cases h; rw [p.str]; exact .base (.str b)
  | lst ds => cases h; obtain ⟨a, xs, rfl, h1, _⟩ := p.lst; exact .base (.lst h1)
  | mls ds => cases h; obtain ⟨a, xs, rfl, h1, _⟩ := p.mls; exact .base (.lst h1)
  | tup ds =>
    cases h
    obtain ⟨S, o, _⟩ := p
    obtain ⟨a, xs, rfl, h1, _⟩ := (o.dt rfl).inv_tup
    rcases h1 with ⟨h1, _⟩ | ⟨o, its, n, h1, h2, _⟩
    · exact .base (.tup h1)
    · exact .kTuple h1 h2
  | rol ds => cases h
  | cst c => cases h
  | al k => cases h
theorem p_isi : PN K (rIsi K) dIsi := by
  intro ps H xs ds e Q ht p h hq
  unfold dIsi at h
  split at h
  · rename_i d U
    split at h
    · rename_i t htd
      split at h
      · rename_i b hb
        cases h
        obtain ⟨x, y, rfl, px, py⟩ := p.two
        rw [py.cst]
        exact ⟨x, .ty U, .type t, .type U, b, rfl, .ty U, px.ty htd, kit_ty hb, hq _ _ (Post.dt (.bl _))⟩
      · cases h
    · cases h
  · cases h
theorem p_all : PN K (rAll K) dAll := by
  intro ps H xs ds e Q ht p h hq
  unfold dAll at h
  split at h
  · split at h
    · rename_i ds' hds
      split at h
      · rename_i hb
        cases h
        obtain ⟨x, rfl, px⟩ := p.one
        obtain ⟨a, xs, rfl, hs, hA⟩ := px.ls hds
        rw [bls_dt hA hb] at hs
        refine ⟨a, _, rfl, hs, ?_⟩
        have : (ds'.map unBl).all id = ds'.all unBl := by rw [List.all_map]; rfl
        rw [this]
        exact hq _ _ (Post.dt (.bl _))
      · cases h
    · cases h
  · cases h
theorem p_any : PN K (rAny K) dAny := by
  intro ps H xs ds e Q ht p h hq
  unfold dAny at h
  split at h
  · split at h
    · rename_i ds' hds
      split at h
      · rename_i hb
        cases h
        obtain ⟨x, rfl, px⟩ := p.one
        obtain ⟨a, xs, rfl, hs, hA⟩ := px.ls hds
        rw [bls_dt hA hb] at hs
        refine ⟨a, _, rfl, hs, ?_⟩
        have : (ds'.map unBl).any id = ds'.any unBl := by rw [List.any_map]; rfl
        rw [this]
        exact hq _ _ (Post.dt (.bl _))
      · cases h
    · cases h
  · cases h
theorem p_sum : PN K (rSum K) dSum := by
  intro ps H xs ds e Q ht p h hq
  unfold dSum at h
  split at h
  · split at h
    · rename_i ds' hds
      split at h
      · rename_i hb
        cases h
        obtain ⟨x, rfl, px⟩ := p.one
        obtain ⟨a, xs, rfl, hs, hA⟩ := px.ls hds
        rw [ints_dt hA hb] at hs
        exact ⟨a, _, rfl, hs, hq _ _ (Post.dt (.int _))⟩
      · cases h
    · cases h
  · cases h
theorem p_ipadd : P2 K (ipI fun i j => i + j) (fun x y => match x, y with | .int i, .int j => some (.int (i + j)) | _, _ => none) := by
  intro ps H x y d d' e Q ht px py h hq
  match d, d', h with
  | .int i, .int j, h => cases h; rw [px.int, py.int]; exact ⟨i, j, rfl, rfl, hq _ _ (Post.dt (.int _))⟩
theorem p_ipsub : P2 K (ipI fun i j => i - j) dSub := by
  intro ps H x y d d' e Q ht px py h hq
  match d, d', h with
  | .int i, .int j, h => cases h; rw [px.int, py.int]; exact ⟨i, j, rfl, rfl, hq _ _ (Post.dt (.int _))⟩
end
end Q


namespace Q
open PySem L2
section
variable {X : Cx} {CX : CXT} {k : Nat} {f : Addr} {fd : FuncData} {ps : List Str} {sp : Sp} {E : St → XK} {x : Str} {p pos : Pos}
theorem pe_callS0 (F : FnOk X.prog X.w X.K X.mg X.base CX k f fd ps sp) (hr : Room k X.A) (hg : Gl X x) (hm : X.mg x = some (.ref f)) (hk : PySem.W.keepIn X.K (.ref f) = true) (hb : Binds X.K fd ps []) (hx : ∀ σ, PassesAt CX X σ (E σ))
    (hdb : (x == ("__debug__" : Str)) = false := by decide) : PE X (.Call (.Name x p) [] [] pos) (tCallS sp E tNil) := by
  refine ⟨fun pins s σ H Q I h => ?_⟩
  refine wpAny_Call_Name_kw (ld_glob I hg hm ?_ hdb)
  exact PySem.W.callWith_K0 I.kIn hk (run_fnS (us := []) F hr hb (hx σ) I .nil h)
end
theorem spM_len {K : PySem.W.Frag} {cv : Str → Value} {np nl : Nat} {asg : List Nat} {body : MS} (vs : List V) (H : Hp) (Q : VK) (E : XK) (h : spM K cv (mFun np nl asg body) vs H Q E) : vs.length = np := by
  obtain ⟨B, ds, r, _, hl, hm, _⟩ := h
  unfold mFun at hm
  split at hm
  · rename_i hc; omega
  · cases hm
/-- the law, asked -/
theorem spM_law {K : PySem.W.Frag} {cv : Str → Value} {mf : MF} {H : Hp} {a : Addr} {ns : List Int} (hS : SqL K H a (ns.map V.int)) (h : ∃ ds', mf [.rol (ns.map D.int)] = some (.ok (.bl true) ds')) : spM K cv mf [.ref a] H (fun v _ => v = .bl true) fun _ _ _ => False := by
  obtain ⟨ds', h⟩ := h
  have hR : RolAt K (fun _ => False) H a (ns.map V.int) := by
    rcases hS with hS | hS
    · exact .inl ⟨hS, id⟩
    · exact .inr hS
  have hD : Dt K (fun _ => False) H (.ref a) (.rol (ns.map D.int)) := .rol hR (by simp) (DtA.ints ns).2
  refine ⟨⟨fun _ => False, H, fun _ => False⟩, _, _, rfl, rfl, h, ⟨fun _ _ => False, .refl, fun a h => h.elim, fun i a h => h.elim, fun i a h => h.elim, fun i j a h => h.elim, rfl, ⟨fun _ _ => rfl, rfl⟩, fun i d e => ?_, fun j v d e => by simp at e⟩, fun v H' _ R => (tmp_bl (ts := []) R).1⟩
  cases i with
  | zero =>
    simp at e
    subst e
    exact ⟨_, rfl, .fz (hD.move .refl fun a z => by rcases z with z | ⟨_, z⟩ <;> exact z.elim) fun _ z => z⟩
  | succ i => simp at e
theorem cx_none {P : Program} {w : World} {H : Hp} {s : Shared} {e : Value} {s' : Shared} (h : L2.CX P w [] H s (fun _ _ _ => False) e s') : False := by
  obtain ⟨_, _, _, _, _, _, _, _, _, _, _, _, z⟩ := h
  exact z
def wFuel : Nat := 1000000
def dIpAdd (x y : D) : Option D := match x, y with | .int i, .int j => some (.int (i + j)) | _, _ => none
theorem p_ipadd2 {K : PySem.W.Frag} : P2 K (ipI fun i j => i + j) dIpAdd := p_ipadd
theorem fn_stuck {P : Program} {w : World} {K : PySem.W.Frag} {mg : Str → Option Value} {base : Heap} {CX : CXT} {k : Nat} {f : Addr} {fd : FuncData} {ps : List Str} {cv : Str → Value} : FnOk P w K mg base CX k f fd ps (spM K cv fun _ => none) :=
  ⟨fun vs H Q E h => (by obtain ⟨_, _, _, _, _, hm, _⟩ := h; cases hm), fun A outer s H args us vs Q E _ _ _ _ h => (by obtain ⟨_, _, _, _, _, hm, _⟩ := h; cases hm)⟩
/-- whatever classes there are -/
def spE (K : PySem.W.Frag) (mf : MF) : Sp := fun vs H Q E => (∃ x, vs = [x]) ∧ ∀ cv, spM K cv mf vs H Q E
theorem spE_of {P : Program} {w : World} {K : PySem.W.Frag} {mg : Str → Option Value} {base : Heap} {CX : CXT} {k : Nat} {f : Addr} {fd : FuncData} {ps : List Str} {cv : Str → Value} {mf : MF} (F : FnOk P w K mg base CX k f fd ps (spM K cv mf)) : FnOk P w K mg base CX k f fd ps (spE K mf) :=
  F.imp fun vs H Q E h => h.2 cv
theorem spE_law {K : PySem.W.Frag} {mf : MF} {H : Hp} {a : Addr} {ns : List Int} (hS : SqL K H a (ns.map V.int)) (h : ∃ ds', mf [.rol (ns.map D.int)] = some (.ok (.bl true) ds')) : spE K mf [.ref a] H (fun v _ => v = .bl true) fun _ _ _ => False :=
  ⟨⟨_, rfl⟩, fun cv => spM_law hS h⟩
/-- a text by its codes -/
def st (l : List Nat) : Str := ⟨l.toArray⟩
theorem se_cs {C : Cn} {s t : Str} (h : s = t) : SE C (tC (.str s)) (mC (.str t)) := h ▸ se_c (.str s)
end Q


namespace Q
open PySem L2
theorem nr {α : Sort _} {a b : α} (h : a = b) : a = b := h
/-! ### reckoning the mirrors -/
def kSeq (r : Option (Rs Fl)) (b : MS) : Option (Rs Fl) := bnd r fun f e1 => match f with
  | .nx => b e1
  | f => some (.ok f e1)
theorem ev_seq (a b : MS) (e : Env) : mSeq a b e = kSeq (a e) b := nr rfl
theorem kSeq_nx (b : MS) (e : Env) : kSeq (some (.ok .nx e)) b = b e := nr rfl
theorem kSeq_rt (d : D) (b : MS) (e : Env) : kSeq (some (.ok (.rt d) e)) b = some (.ok (.rt d) e) := nr rfl
theorem kSeq_bk (b : MS) (e : Env) : kSeq (some (.ok .bk e)) b = some (.ok .bk e) := nr rfl
theorem kSeq_ct (b : MS) (e : Env) : kSeq (some (.ok .ct e)) b = some (.ok .ct e) := nr rfl
theorem kSeq_ex (x : Xc) (b : MS) (e : Env) : kSeq (some (.ex x e)) b = some (.ex x e) := nr rfl
def kAsg (r : Option (Rs D)) (g : MG) : Option (Rs Fl) := bnd r fun x e1 => match tk x e1 with
  | some (y, e2) => (match g y e2 with | some e3 => some (.ok .nx e3) | none => none)
  | none => none
def kAsg2 (r : Option (D × Env)) (g : MG) : Option (Rs Fl) := match r with
  | some (y, e2) => (match g y e2 with | some e3 => some (.ok .nx e3) | none => none)
  | none => none
def kAsg3 (r : Option Env) : Option (Rs Fl) := match r with | some e3 => some (.ok .nx e3) | none => none
theorem ev_asg (a : ME) (g : MG) (e : Env) : mAsg a g e = kAsg (a e) g := nr rfl
theorem kAsg_ok (x : D) (e : Env) (g : MG) : kAsg (some (.ok x e)) g = kAsg2 (tk x e) g := nr rfl
theorem kAsg_ex (x : Xc) (e : Env) (g : MG) : kAsg (some (.ex x e)) g = some (.ex x e) := nr rfl
theorem kAsg2_ok (y : D) (e : Env) (g : MG) : kAsg2 (some (y, e)) g = kAsg3 (g y e) := nr rfl
theorem kAsg3_ok (e : Env) : kAsg3 (some e) = some (.ok .nx e) := nr rfl
theorem ev_nm (n : Nat) (d : D) (e : Env) : gNm n d e = some (e.set n (some d)) := nr rfl
def kIx3 (r : Option Nat) (ds : List D) (n : Nat) (d : D) (e : Env) : Option Env := match r with
        | some k => if isFz d = true then some (e.set n (some (.mls (ds.set k d)))) else none
        | none => none
def kIx2 (r : Option (Option D)) (i : Int) (n : Nat) (d : D) (e : Env) : Option Env := match r with
      | some (some (.mls ds)) => kIx3 (ixN ds.length i) ds n d e
      | _ => none
def kIx (r : Option (Rs D)) (n : Nat) (d : D) : Option Env := match r with
    | some (.ok (.int i) e1) => kIx2 e1[n]? i n d e1
    | _ => none
def kIx0 (s : Option (Option D)) (r : Option (Rs D)) (n : Nat) (d : D) : Option Env := match s with
  | some (some _) => kIx r n d
  | _ => none
theorem ev_ixg (n : Nat) (a : ME) (d : D) (e : Env) : gIx n a d e = kIx0 e[n]? (a e) n d := nr rfl
theorem kIx0_ok (d0 : D) (r : Option (Rs D)) (n : Nat) (d : D) : kIx0 (some (some d0)) r n d = kIx r n d := nr rfl
theorem kIx_ok (i : Int) (e : Env) (n : Nat) (d : D) : kIx (some (.ok (.int i) e)) n d = kIx2 e[n]? i n d e := nr rfl
theorem kIx2_ok (ds : List D) (i : Int) (n : Nat) (d : D) (e : Env) : kIx2 (some (some (.mls ds))) i n d e = kIx3 (ixN ds.length i) ds n d e := nr rfl
theorem kIx3_ok {k : Nat} {ds : List D} {n : Nat} {d : D} {e : Env} (h : isFz d = true) : kIx3 (some k) ds n d e = some (e.set n (some (.mls (ds.set k d)))) := by
  unfold kIx3; simp only [h, if_true]
def kUnp (r : Option (List D)) (n : Nat) (m : MGs) (e : Env) : Option Env := match r with
  | some ds => if ds.length = n then m ds e else none
  | none => none
theorem ev_un (n : Nat) (m : MGs) (d : D) (e : Env) : gUn n m d e = kUnp (seqD d) n m e := nr rfl
theorem kUnp_ok (ds : List D) (n : Nat) (m : MGs) (e : Env) : kUnp (some ds) n m e = if ds.length = n then m ds e else none := nr rfl
def kGs (r : Option Env) (m : MGs) (ds : List D) : Option Env := match r with | some e1 => m ds e1 | none => none
theorem ev_gscons (g : MG) (r : MGs) (d : D) (ds : List D) (e : Env) : gsCons g r (d :: ds) e = kGs (g d e) r ds := nr rfl
theorem kGs_ok (e : Env) (m : MGs) (ds : List D) : kGs (some e) m ds = m ds e := nr rfl
theorem ev_gsnil (e : Env) : gsNil [] e = some e := nr rfl
theorem ev_next (e : Env) : mNext e = some (.ok .nx e) := nr rfl
theorem ev_break (e : Env) : mBreak e = some (.ok .bk e) := nr rfl
theorem ev_cont (e : Env) : mCont e = some (.ok .ct e) := nr rfl
theorem ev_retN (e : Env) : mRetN e = some (.ok (.rt .non) e) := nr rfl
def kDrop (r : Option (Rs D)) : Option (Rs Fl) := bnd r fun _ e1 => some (.ok .nx e1)
theorem ev_drop (a : ME) (e : Env) : mDrop a e = kDrop (a e) := nr rfl
theorem kDrop_ok (x : D) (e : Env) : kDrop (some (.ok x e)) = some (.ok .nx e) := nr rfl
theorem kDrop_ex (x : Xc) (e : Env) : kDrop (some (.ex x e)) = some (.ex x e) := nr rfl
def kIf {α : Type} (r : Option (Rs Bool)) (a b : M α) : Option (Rs α) := bnd r fun x e1 => if x = true then a e1 else b e1
theorem ev_if (c : MT) (a b : MS) (e : Env) : mIfS c a b e = kIf (c e) a b := nr rfl
theorem ev_ifE (c : MT) (a b : ME) (e : Env) : mIfE c a b e = kIf (c e) a b := nr rfl
theorem kIf_t {α : Type} (e : Env) (a b : M α) : kIf (some (.ok true e)) a b = a e := nr rfl
theorem kIf_f {α : Type} (e : Env) (a b : M α) : kIf (some (.ok false e)) a b = b e := nr rfl
theorem kIf_ex {α : Type} (x : Xc) (e : Env) (a b : M α) : kIf (some (.ex x e)) a b = some (.ex x e) := nr rfl
def kRet (r : Option (Rs D)) (np : Nat) : Option (Rs Fl) := bnd r fun x e1 => match out np x e1 with
  | some (y, e2) => some (.ok (.rt y) e2)
  | none => none
def kRet2 (r : Option (D × Env)) : Option (Rs Fl) := match r with
  | some (y, e2) => some (.ok (.rt y) e2)
  | none => none
theorem ev_ret (np : Nat) (a : ME) (e : Env) : mRet np a e = kRet (a e) np := nr rfl
theorem kRet_ok (x : D) (e : Env) (np : Nat) : kRet (some (.ok x e)) np = kRet2 (out np x e) := nr rfl
theorem kRet_ex (x : Xc) (e : Env) (np : Nat) : kRet (some (.ex x e)) np = some (.ex x e) := nr rfl
theorem kRet2_ok (x : D) (e : Env) : kRet2 (some (x, e)) = some (.ok (.rt x) e) := nr rfl
theorem ev_c (d : D) (e : Env) : mC d e = some (.ok d e) := nr rfl
def kVar (r : Option (Option D)) (i : Nat) (e : Env) : Option (Rs D) := match r with
  | some (some d) => if isFz d = true then some (.ok d e) else some (.ok (.al i) e)
  | _ => none
theorem ev_var (i : Nat) (e : Env) : mVar i e = kVar e[i]? i e := nr rfl
theorem kVar_fz {d : D} {i : Nat} {e : Env} (h : isFz d = true) : kVar (some (some d)) i e = some (.ok d e) := by
  unfold kVar; simp only [h, if_true]
theorem kVar_m (ds : List D) (i : Nat) (e : Env) : kVar (some (some (.mls ds))) i e = some (.ok (.al i) e) := nr rfl
def kJ (r : Option (Option D)) : Option D := match r with | some (some d) => some d | _ => none
theorem res_al (k : Nat) (e : Env) : res e (.al k) = kJ e[k]? := nr rfl
theorem kJ_ok (d : D) : kJ (some (some d)) = some d := nr rfl
def kUn (r : Option (Rs D)) (f : D → Option D) : Option (Rs D) := bnd r fun x e1 => ap1 f x e1
theorem ev_unr (f : D → Option D) (a : ME) (e : Env) : mUn f a e = kUn (a e) f := nr rfl
theorem kUn_ok (x : D) (e : Env) (f : D → Option D) : kUn (some (.ok x e)) f = ap1 f x e := nr rfl
def kOp (r : Option (Rs D)) (b : ME) (f : D → D → Option D) : Option (Rs D) := bnd r fun x e1 => bnd (b e1) fun y e2 => ap2 f x y e2
def kOp2 (r : Option (Rs D)) (x : D) (f : D → D → Option D) : Option (Rs D) := bnd r fun y e2 => ap2 f x y e2
theorem ev_op (f : D → D → Option D) (a b : ME) (e : Env) : mOp f a b e = kOp (a e) b f := nr rfl
theorem kOp_ok (x : D) (e : Env) (b : ME) (f : D → D → Option D) : kOp (some (.ok x e)) b f = kOp2 (b e) x f := nr rfl
theorem kOp_ex (x : Xc) (e : Env) (b : ME) (f : D → D → Option D) : kOp (some (.ex x e)) b f = some (.ex x e) := nr rfl
theorem kOp2_ok (x y : D) (e : Env) (f : D → D → Option D) : kOp2 (some (.ok y e)) x f = ap2 f x y e := nr rfl
theorem kOp2_ex (x : Xc) (y : D) (e : Env) (f : D → D → Option D) : kOp2 (some (.ex x e)) y f = some (.ex x e) := nr rfl
def kP (r : Option D) (e : Env) : Option (Rs D) := match r with | some d => some (.ok d e) | none => none
theorem kP_ok (d : D) (e : Env) : kP (some d) e = some (.ok d e) := nr rfl
def kA1 (r : Option D) (f : D → Option D) (e : Env) : Option (Rs D) := match r with | some d => kP (f d) e | none => none
theorem ev_ap1 (f : D → Option D) (x : D) (e : Env) : ap1 f x e = kA1 (res e x) f e := nr rfl
theorem kA1_ok (x : D) (f : D → Option D) (e : Env) : kA1 (some x) f e = kP (f x) e := nr rfl
def kA2 (r s : Option D) (f : D → D → Option D) (e : Env) : Option (Rs D) := match r with | some x => (match s with | some y => kP (f x y) e | none => none) | none => none
theorem ev_ap2 (f : D → D → Option D) (x y : D) (e : Env) : ap2 f x y e = kA2 (res e x) (res e y) f e := nr rfl
theorem kA2_ok (x y : D) (f : D → D → Option D) (e : Env) : kA2 (some x) (some y) f e = kP (f x y) e := nr rfl
def kCB (r : Option (Rs (List D))) (f : List D → Option D) : Option (Rs D) := bnd r fun xs e1 => apN f xs e1
theorem ev_cb (f : List D → Option D) (a : MA) (e : Env) : mCB f a e = kCB (a e) f := nr rfl
theorem kCB_ok (xs : List D) (e : Env) (f : List D → Option D) : kCB (some (.ok xs e)) f = apN f xs e := nr rfl
def kAN (r : Option (List D)) (f : List D → Option D) (e : Env) : Option (Rs D) := match r with | some ds => kP (f ds) e | none => none
theorem ev_apN (f : List D → Option D) (xs : List D) (e : Env) : apN f xs e = kAN (lend xs e) f e := nr rfl
theorem kAN_ok (ds : List D) (f : List D → Option D) (e : Env) : kAN (some ds) f e = kP (f ds) e := nr rfl
theorem ev_lnil (e : Env) : lend [] e = some [] := nr rfl
def kL (r : Option D) (s : Option (List D)) : Option (List D) := match r with | some d => (match s with | some ds => some (d :: ds) | none => none) | none => none
theorem ev_lcons (x : D) (xs : List D) (e : Env) : lend (x :: xs) e = kL (res e x) (lend xs e) := nr rfl
theorem kL_ok (d : D) (ds : List D) : kL (some d) (some ds) = some (d :: ds) := nr rfl
theorem ev_nil (e : Env) : mNil e = some (.ok [] e) := nr rfl
def kCons (r : Option (Rs D)) (b : MA) : Option (Rs (List D)) := bnd r fun x e1 => bnd (b e1) fun xs e2 => some (.ok (x :: xs) e2)
def kCons2 (r : Option (Rs (List D))) (x : D) : Option (Rs (List D)) := bnd r fun xs e2 => some (.ok (x :: xs) e2)
theorem ev_cons (a : ME) (b : MA) (e : Env) : mCons a b e = kCons (a e) b := nr rfl
theorem kCons_ok (x : D) (e : Env) (b : MA) : kCons (some (.ok x e)) b = kCons2 (b e) x := nr rfl
theorem kCons_ex (x : Xc) (e : Env) (b : MA) : kCons (some (.ex x e)) b = some (.ex x e) := nr rfl
theorem kCons2_ok (x : D) (xs : List D) (e : Env) : kCons2 (some (.ok xs e)) x = some (.ok (x :: xs) e) := nr rfl
def kTest (r : Option (Rs D)) : Option (Rs Bool) := bnd r fun x e1 => match x with
  | .bl b => some (.ok b e1)
  | _ => none
theorem ev_test (a : ME) (e : Env) : mTest a e = kTest (a e) := nr rfl
theorem kTest_ok (b : Bool) (e : Env) : kTest (some (.ok (.bl b) e)) = some (.ok b e) := nr rfl
theorem kTest_ex (x : Xc) (e : Env) : kTest (some (.ex x e)) = some (.ex x e) := nr rfl
def kTru (r : Option (Rs D)) : Option (Rs Bool) := bnd r fun x e1 => match res e1 x with
  | some d => (match truD d with | some b => some (.ok b e1) | none => none)
  | none => none
def kTr2 (r : Option D) (e : Env) : Option (Rs Bool) := match r with | some d => (match truD d with | some b => some (.ok b e) | none => none) | none => none
def kTr3 (r : Option Bool) (e : Env) : Option (Rs Bool) := match r with | some b => some (.ok b e) | none => none
theorem ev_tru (a : ME) (e : Env) : mTru a e = kTru (a e) := nr rfl
theorem kTru_ok (x : D) (e : Env) : kTru (some (.ok x e)) = kTr2 (res e x) e := nr rfl
theorem kTr2_ok (x : D) (e : Env) : kTr2 (some x) e = kTr3 (truD x) e := nr rfl
theorem kTr3_ok (b : Bool) (e : Env) : kTr3 (some b) e = some (.ok b e) := nr rfl
def kAnd (r : Option (Rs Bool)) (b : MT) : Option (Rs Bool) := bnd r fun c e1 => if c = true then b e1 else some (.ok false e1)
def kOr (r : Option (Rs Bool)) (b : MT) : Option (Rs Bool) := bnd r fun c e1 => if c = true then some (.ok true e1) else b e1
def kNot (r : Option (Rs Bool)) : Option (Rs Bool) := bnd r fun c e1 => some (.ok (!c) e1)
theorem ev_and (a b : MT) (e : Env) : mAnd a b e = kAnd (a e) b := nr rfl
theorem ev_or (a b : MT) (e : Env) : mOr a b e = kOr (a e) b := nr rfl
theorem ev_not (a : MT) (e : Env) : mNot a e = kNot (a e) := nr rfl
theorem kAnd_t (b : MT) (e : Env) : kAnd (some (.ok true e)) b = b e := nr rfl
theorem kAnd_f (b : MT) (e : Env) : kAnd (some (.ok false e)) b = some (.ok false e) := nr rfl
theorem kOr_t (b : MT) (e : Env) : kOr (some (.ok true e)) b = some (.ok true e) := nr rfl
theorem kOr_f (b : MT) (e : Env) : kOr (some (.ok false e)) b = b e := nr rfl
theorem kNot_ok (b : Bool) (e : Env) : kNot (some (.ok b e)) = some (.ok (!b) e) := nr rfl
def kAndV (r : Option (Rs D)) (b : ME) : Option (Rs D) := bnd r fun x e1 => match x with
  | .bl true => b e1
  | .bl false => some (.ok (.bl false) e1)
  | _ => none
def kOrV (r : Option (Rs D)) (b : ME) : Option (Rs D) := bnd r fun x e1 => match x with
  | .bl true => some (.ok (.bl true) e1)
  | .bl false => b e1
  | _ => none
def kNotV (r : Option (Rs D)) : Option (Rs D) := bnd r fun x e1 => match x with
  | .bl b => some (.ok (.bl (!b)) e1)
  | _ => none
theorem ev_andV (a b : ME) (e : Env) : mAndV a b e = kAndV (a e) b := nr rfl
theorem ev_orV (a b : ME) (e : Env) : mOrV a b e = kOrV (a e) b := nr rfl
theorem ev_notV (a : ME) (e : Env) : mNotV a e = kNotV (a e) := nr rfl
theorem kAndV_t (b : ME) (e : Env) : kAndV (some (.ok (.bl true) e)) b = b e := nr rfl
theorem kAndV_f (b : ME) (e : Env) : kAndV (some (.ok (.bl false) e)) b = some (.ok (.bl false) e) := nr rfl
theorem kOrV_t (b : ME) (e : Env) : kOrV (some (.ok (.bl true) e)) b = some (.ok (.bl true) e) := nr rfl
theorem kOrV_f (b : ME) (e : Env) : kOrV (some (.ok (.bl false) e)) b = b e := nr rfl
theorem kNotV_ok (b : Bool) (e : Env) : kNotV (some (.ok (.bl b) e)) = some (.ok (.bl (!b)) e) := nr rfl
def kLst (r : Option (Rs (List D))) (c : List D → D) : Option (Rs D) := bnd r fun xs e1 => match tkfA xs e1 with
  | some (ys, e2) => if ys.length ≤ 16777216 then some (.ok (c ys) e2) else none
  | none => none
def kLs2 (r : Option (List D × Env)) (c : List D → D) : Option (Rs D) := match r with
  | some (ys, e2) => if ys.length ≤ 16777216 then some (.ok (c ys) e2) else none
  | none => none
theorem ev_lst (a : MA) (e : Env) : mLst a e = kLst (a e) D.mls := nr rfl
theorem ev_tup (a : MA) (e : Env) : mTup a e = kLst (a e) D.tup := nr rfl
theorem kLst_ok (xs : List D) (e : Env) (c : List D → D) : kLst (some (.ok xs e)) c = kLs2 (tkfA xs e) c := nr rfl
theorem kLst_ex (x : Xc) (e : Env) (c : List D → D) : kLst (some (.ex x e)) c = some (.ex x e) := nr rfl
theorem kLs2_ok {ys : List D} {e : Env} {c : List D → D} (h : ys.length ≤ 16777216) : kLs2 (some (ys, e)) c = some (.ok (c ys) e) := by
  unfold kLs2; simp only [h, if_true]
theorem ev_tnil (e : Env) : tkfA [] e = some ([], e) := nr rfl
def kT (r : Option (D × Env)) (xs : List D) : Option (List D × Env) := match r with
    | some (y, e1) => (match tkfA xs e1 with
      | some (ys, e2) => some (y :: ys, e2)
      | none => none)
    | none => none
def kT2 (r : Option (List D × Env)) (y : D) : Option (List D × Env) := match r with | some (ys, e2) => some (y :: ys, e2) | none => none
theorem ev_tcons (x : D) (xs : List D) (e : Env) : tkfA (x :: xs) e = kT (tkf x e) xs := nr rfl
theorem kT_ok (y : D) (e : Env) (xs : List D) : kT (some (y, e)) xs = kT2 (tkfA xs e) y := nr rfl
theorem kT2_ok (y : D) (ys : List D) (e : Env) : kT2 (some (ys, e)) y = some (y :: ys, e) := nr rfl
theorem tkf_fz {d : D} {e : Env} (h : isFz d = true) : tkf d e = some (d, e) := by cases d <;> first | rfl | cases h
theorem tkf_mls (ds : List D) (e : Env) : tkf (.mls ds) e = some (.lst ds, e) := nr rfl
def kTk (r : Option (Option D)) (k : Nat) (e : Env) : Option (D × Env) := match r with
    | some (some d) => some (frz d, e.set k (some (frz d)))
    | _ => none
def kTkf (r : Option (D × Env)) : Option (D × Env) := match r with | some (d, e1) => some (frz d, e1) | none => none
theorem tkf_al (k : Nat) (e : Env) : tkf (.al k) e = kTkf (kTk e[k]? k e) := nr rfl
theorem kTkf_ok (d : D) (e : Env) : kTkf (some (d, e)) = some (frz d, e) := nr rfl
theorem tk_fz {d : D} {e : Env} (h : isFz d = true) : tk d e = some (d, e) := by cases d <;> first | rfl | cases h
theorem tk_mls (ds : List D) (e : Env) : tk (.mls ds) e = some (.mls ds, e) := nr rfl
theorem tk_al (k : Nat) (e : Env) : tk (.al k) e = kTk e[k]? k e := nr rfl
theorem kTk_ok (d : D) (k : Nat) (e : Env) : kTk (some (some d)) k e = some (frz d, e.set k (some (frz d))) := nr rfl
theorem frz_of {d : D} (h : isFz d = true) : frz d = d := by cases d <;> first | rfl | cases h
theorem frz_mls (ds : List D) : frz (.mls ds) = .lst ds := nr rfl
theorem res_fz {d : D} {e : Env} (h : isFz d = true) : res e d = some d := by cases d <;> first | rfl | cases h
theorem res_mls (ds : List D) (e : Env) : res e (.mls ds) = some (.mls ds) := nr rfl
theorem out_fz {np : Nat} {d : D} {e : Env} (h : isFz d = true) : out np d e = some (d, e) := by cases d <;> first | rfl | cases h
theorem out_mls (np : Nat) (ds : List D) (e : Env) : out np (.mls ds) e = some (.mls ds, e) := nr rfl
def kOut (r : Option (Option D)) (k : Nat) (e : Env) : Option (D × Env) := match r with
    | some (some d) => some (d, e.set k none)
    | _ => none
theorem out_al (np k : Nat) (e : Env) : out np (.al k) e = if k < np then kTk e[k]? k e else kOut e[k]? k e := nr rfl
theorem kOut_ok (d : D) (k : Nat) (e : Env) : kOut (some (some d)) k e = some (d, e.set k none) := nr rfl
def kPart (r : Option (Rs D)) : Option (Rs (Option Int)) := bnd r fun x e1 => match x with
  | .int i => some (.ok (some i) e1)
  | _ => none
theorem ev_nopart (e : Env) : mNoPart e = some (.ok none e) := nr rfl
theorem ev_part (a : ME) (e : Env) : mPart a e = kPart (a e) := nr rfl
theorem kPart_ok (i : Int) (e : Env) : kPart (some (.ok (.int i) e)) = some (.ok (some i) e) := nr rfl
def kSl (r : Option (Rs D)) (l h : MO) (f : D → Option Int → Option Int → Option D) : Option (Rs D) := bnd r fun x e1 => bnd (l e1) fun lo e2 => bnd (h e2) fun hi e3 => match res e3 x with
  | some x' => (match f x' lo hi with | some d => some (.ok d e3) | none => none)
  | none => none
def kSl2 (r : Option (Rs (Option Int))) (x : D) (h : MO) (f : D → Option Int → Option Int → Option D) : Option (Rs D) := bnd r fun lo e2 => bnd (h e2) fun hi e3 => match res e3 x with
  | some x' => (match f x' lo hi with | some d => some (.ok d e3) | none => none)
  | none => none
def kSl3 (r : Option (Rs (Option Int))) (x : D) (lo : Option Int) (f : D → Option Int → Option Int → Option D) : Option (Rs D) := bnd r fun hi e3 => match res e3 x with
  | some x' => (match f x' lo hi with | some d => some (.ok d e3) | none => none)
  | none => none
def kSl4 (r : Option D) (lo hi : Option Int) (f : D → Option Int → Option Int → Option D) (e : Env) : Option (Rs D) := match r with
  | some x' => kP (f x' lo hi) e
  | none => none
theorem ev_sl (f : D → Option Int → Option Int → Option D) (a : ME) (l h : MO) (e : Env) : mSl f a l h e = kSl (a e) l h f := nr rfl
theorem kSl_ok (x : D) (e : Env) (l h : MO) (f : D → Option Int → Option Int → Option D) : kSl (some (.ok x e)) l h f = kSl2 (l e) x h f := nr rfl
theorem kSl2_ok (lo : Option Int) (x : D) (e : Env) (h : MO) (f : D → Option Int → Option Int → Option D) : kSl2 (some (.ok lo e)) x h f = kSl3 (h e) x lo f := nr rfl
theorem kSl3_ok (lo hi : Option Int) (x : D) (e : Env) (f : D → Option Int → Option Int → Option D) : kSl3 (some (.ok hi e)) x lo f = kSl4 (res e x) lo hi f e := nr rfl
theorem kSl4_ok (lo hi : Option Int) (x : D) (e : Env) (f : D → Option Int → Option Int → Option D) : kSl4 (some x) lo hi f e = kP (f x lo hi) e := nr rfl
def kApp3 (r : Option (Option D)) (y : D) (n : Nat) (e : Env) : Option (Rs D) := match r with
      | some (some (.mls ds)) => if ds.length < 16777216 then some (.ok .non (e.set n (some (.mls (ds ++ [y]))))) else none
      | _ => none
def kApp2 (r : Option (D × Env)) (n : Nat) : Option (Rs D) := match r with
    | some (y, e2) => kApp3 e2[n]? y n e2
    | none => none
def kApp (r : Option (Rs D)) (n : Nat) : Option (Rs D) := bnd r fun x e1 => kApp2 (tkf x e1) n
def kApp0 (s : Option (Option D)) (r : Option (Rs D)) (n : Nat) : Option (Rs D) := match s with
  | some (some (.mls _)) => kApp r n
  | _ => none
theorem ev_app (n : Nat) (a : ME) (e : Env) : mApp n a e = kApp0 e[n]? (a e) n := nr rfl
theorem kApp0_ok (ds : List D) (r : Option (Rs D)) (n : Nat) : kApp0 (some (some (.mls ds))) r n = kApp r n := nr rfl
theorem kApp_ok (x : D) (e : Env) (n : Nat) : kApp (some (.ok x e)) n = kApp2 (tkf x e) n := nr rfl
theorem kApp_ex (x : Xc) (e : Env) (n : Nat) : kApp (some (.ex x e)) n = some (.ex x e) := nr rfl
theorem kApp2_ok (y : D) (e : Env) (n : Nat) : kApp2 (some (y, e)) n = kApp3 e[n]? y n e := nr rfl
theorem kApp3_ok {ds : List D} {y : D} {n : Nat} {e : Env} (h : ds.length < 16777216) : kApp3 (some (some (.mls ds))) y n e = some (.ok .non (e.set n (some (.mls (ds ++ [y]))))) := by
  unfold kApp3; simp only [h, if_true]
def kE2 (r : Option D) (s : Option (Option D)) (n : Nat) (e : Env) : Option (Rs D) := match r with
    | some y => (match s with
      | some (some (.mls ds)) => (match y with
        | .lst es => if ds.length + es.length ≤ 16777216 then some (.ok .non (e.set n (some (.mls (ds ++ es))))) else none
        | .mls es => if ds.length + es.length ≤ 16777216 then some (.ok .non (e.set n (some (.mls (ds ++ es))))) else none
        | .tup es => if ds.length + es.length ≤ 16777216 then some (.ok .non (e.set n (some (.mls (ds ++ es))))) else none
        | _ => none)
      | _ => none)
    | none => none
def kExt (r : Option (Rs D)) (n : Nat) : Option (Rs D) := bnd r fun x e1 => kE2 (res e1 x) e1[n]? n e1
def kExt0 (s : Option (Option D)) (r : Option (Rs D)) (n : Nat) : Option (Rs D) := match s with
  | some (some (.mls _)) => kExt r n
  | _ => none
theorem ev_ext (n : Nat) (a : ME) (e : Env) : mExt n a e = kExt0 e[n]? (a e) n := nr rfl
theorem kExt0_ok (ds : List D) (r : Option (Rs D)) (n : Nat) : kExt0 (some (some (.mls ds))) r n = kExt r n := nr rfl
theorem kExt_ok (x : D) (e : Env) (n : Nat) : kExt (some (.ok x e)) n = kE2 (res e x) e[n]? n e := nr rfl
theorem kE2_lst {es ds : List D} {n : Nat} {e : Env} (h : ds.length + es.length ≤ 16777216) : kE2 (some (.lst es)) (some (some (.mls ds))) n e = some (.ok .non (e.set n (some (.mls (ds ++ es))))) := by
  unfold kE2; simp only [h, if_true]
theorem kE2_mls {es ds : List D} {n : Nat} {e : Env} (h : ds.length + es.length ≤ 16777216) : kE2 (some (.mls es)) (some (some (.mls ds))) n e = some (.ok .non (e.set n (some (.mls (ds ++ es))))) := by
  unfold kE2; simp only [h, if_true]
theorem kE2_tup {es ds : List D} {n : Nat} {e : Env} (h : ds.length + es.length ≤ 16777216) : kE2 (some (.tup es)) (some (some (.mls ds))) n e = some (.ok .non (e.set n (some (.mls (ds ++ es))))) := by
  unfold kE2; simp only [h, if_true]
def kCall (r : Option (Rs (List D))) (f : MF) : Option (Rs D) := bnd r fun xs e1 => match lend xs e1 with
  | some ds => if alsOk xs = true then (match f ds with
    | some (.ok d ds') => if ds'.length = ds.length then some (.ok d (back xs ds' e1)) else none
    | some (.ex x ds') => if ds'.length = ds.length then some (.ex x (back xs ds' e1)) else none
    | none => none) else none
  | none => none
def kC2 (r : Option (List D)) (f : MF) (xs : List D) (e : Env) : Option (Rs D) := match r with
  | some ds => if alsOk xs = true then (match f ds with
    | some (.ok d ds') => if ds'.length = ds.length then some (.ok d (back xs ds' e)) else none
    | some (.ex x ds') => if ds'.length = ds.length then some (.ex x (back xs ds' e)) else none
    | none => none) else none
  | none => none
def kC3 (r : Option Rf) (n : Nat) (xs : List D) (e : Env) : Option (Rs D) := match r with
    | some (.ok d ds') => if ds'.length = n then some (.ok d (back xs ds' e)) else none
    | some (.ex x ds') => if ds'.length = n then some (.ex x (back xs ds' e)) else none
    | none => none
theorem ev_call (f : MF) (a : MA) (e : Env) : mCall f a e = kCall (a e) f := nr rfl
theorem kCall_ok (xs : List D) (e : Env) (f : MF) : kCall (some (.ok xs e)) f = kC2 (lend xs e) f xs e := nr rfl
theorem kC2_ok {ds : List D} {f : MF} {xs : List D} {e : Env} (h : alsOk xs = true) : kC2 (some ds) f xs e = kC3 (f ds) ds.length xs e := by
  unfold kC2 kC3; simp only [h, if_true]
theorem kC3_ok (d : D) (ds : List D) (n : Nat) (xs : List D) (e : Env) (h : ds.length = n) : kC3 (some (.ok d ds)) n xs e = some (.ok d (back xs ds e)) := by
  unfold kC3; simp only [h, if_true]
theorem kC3_ex (x : Xc) (ds : List D) (n : Nat) (xs : List D) (e : Env) (h : ds.length = n) : kC3 (some (.ex x ds)) n xs e = some (.ex x (back xs ds e)) := by
  unfold kC3; simp only [h, if_true]
def kFor (r : Option (Rs (List D))) (g : MG) (b : MS) : Option (Rs Fl) := bnd r fun xs e1 => mLoop g b xs e1
theorem ev_for (i : MI) (g : MG) (b : MS) (e : Env) : mFor i g b e = kFor (i e) g b := nr rfl
theorem kFor_ok (xs : List D) (e : Env) (g : MG) (b : MS) : kFor (some (.ok xs e)) g b = mLoop g b xs e := nr rfl
theorem loop_nil (g : MG) (b : MS) (e : Env) : mLoop g b [] e = some (.ok .nx e) := nr rfl
def kLp (r : Option (Rs Fl)) (g : MG) (b : MS) (xs : List D) : Option (Rs Fl) := bnd r fun f e2 => (match f with
      | .nx => mLoop g b xs e2
      | .ct => mLoop g b xs e2
      | .bk => some (.ok .nx e2)
      | .rt d => some (.ok (.rt d) e2))
def kLp0 (r : Option Env) (g : MG) (b : MS) (xs : List D) : Option (Rs Fl) := match r with
    | some e1 => kLp (b e1) g b xs
    | none => none
theorem loop_cons (g : MG) (b : MS) (x : D) (xs : List D) (e : Env) : mLoop g b (x :: xs) e = kLp0 (g x e) g b xs := nr rfl
theorem kLp0_ok (e : Env) (g : MG) (b : MS) (xs : List D) : kLp0 (some e) g b xs = kLp (b e) g b xs := nr rfl
theorem kLp_nx (e : Env) (g : MG) (b : MS) (xs : List D) : kLp (some (.ok .nx e)) g b xs = mLoop g b xs e := nr rfl
theorem kLp_ct (e : Env) (g : MG) (b : MS) (xs : List D) : kLp (some (.ok .ct e)) g b xs = mLoop g b xs e := nr rfl
theorem kLp_bk (e : Env) (g : MG) (b : MS) (xs : List D) : kLp (some (.ok .bk e)) g b xs = some (.ok .nx e) := nr rfl
theorem kLp_rt (d : D) (e : Env) (g : MG) (b : MS) (xs : List D) : kLp (some (.ok (.rt d) e)) g b xs = some (.ok (.rt d) e) := nr rfl
theorem kLp_ex (x : Xc) (e : Env) (g : MG) (b : MS) (xs : List D) : kLp (some (.ex x e)) g b xs = some (.ex x e) := nr rfl
def kSI (r : Option (Rs D)) : Option (Rs (List D)) := bnd r fun x e1 => match tkf x e1 with
  | some (y, e2) => (match seqD y with | some ds => some (.ok ds e2) | none => none)
  | none => none
def kSI2 (r : Option (D × Env)) : Option (Rs (List D)) := match r with
  | some (y, e2) => (match seqD y with | some ds => some (.ok ds e2) | none => none)
  | none => none
def kSI3 (r : Option (List D)) (e : Env) : Option (Rs (List D)) := match r with | some ds => some (.ok ds e) | none => none
theorem ev_si (a : ME) (e : Env) : mSeqI a e = kSI (a e) := nr rfl
theorem kSI_ok (x : D) (e : Env) : kSI (some (.ok x e)) = kSI2 (tkf x e) := nr rfl
theorem kSI2_ok (x : D) (e : Env) : kSI2 (some (x, e)) = kSI3 (seqD x) e := nr rfl
theorem kSI3_ok (ds : List D) (e : Env) : kSI3 (some ds) e = some (.ok ds e) := nr rfl
def kR1 (r : Option (Rs (List D))) : Option (Rs (List D)) := bnd r fun xs e1 => match xs with
  | [.int j] => if -4611686018427387904 ≤ j ∧ j < 4611686018427387904 then some (.ok (rngD 0 j.toNat) e1) else none
  | _ => none
theorem ev_r1 (a : MA) (e : Env) : mRng1 a e = kR1 (a e) := nr rfl
theorem kR1_ok {j : Int} {e : Env} (h : -4611686018427387904 ≤ j ∧ j < 4611686018427387904) : kR1 (some (.ok [.int j] e)) = some (.ok (rngD 0 j.toNat) e) := by
  show (if _ then _ else _) = _
  rw [if_pos h]
def kR2 (r : Option (Rs (List D))) : Option (Rs (List D)) := bnd r fun xs e1 => match xs with
  | [.int i, .int j] => if (-4611686018427387904 ≤ i ∧ i < 4611686018427387904) ∧ -4611686018427387904 ≤ j ∧ j < 4611686018427387904 then some (.ok (rngD i (j - i).toNat) e1) else none
  | _ => none
theorem ev_r2 (a : MA) (e : Env) : mRng2 a e = kR2 (a e) := nr rfl
def kV1 (r : Option (Rs D)) : Option (Rs (List D)) := bnd r fun x e1 => match x with
  | .int j => if -4611686018427387904 ≤ j ∧ j < 4611686018427387904 then some (.ok (rngC (j.toNat - 1) j.toNat) e1) else none
  | _ => none
theorem ev_v1 (a : ME) (e : Env) : mRev1 a e = kV1 (a e) := nr rfl
def kLc (r : Option (Rs (List D))) (g : MG) (t : MT) (el : ME) (own : List Nat) : Option (Rs D) := bnd r fun xs e1 => match mCl g t el own xs [] (wipeE e1 own) with
  | some (ys, e2) => some (.ok (.mls ys) e2)
  | none => none
def kLc2 (r : Option (List D × Env)) : Option (Rs D) := match r with
  | some (ys, e2) => some (.ok (.mls ys) e2)
  | none => none
theorem ev_lc (i : MI) (g : MG) (t : MT) (el : ME) (own : List Nat) (e : Env) : mLc i g t el own e = kLc (i e) g t el own := nr rfl
theorem kLc_ok (xs : List D) (e : Env) (g : MG) (t : MT) (el : ME) (own : List Nat) : kLc (some (.ok xs e)) g t el own = kLc2 (mCl g t el own xs [] (wipeE e own)) := nr rfl
theorem kLc2_ok (ys : List D) (e : Env) : kLc2 (some (ys, e)) = some (.ok (.mls ys) e) := nr rfl
theorem cl_nil (g : MG) (t : MT) (el : ME) (own : List Nat) (acc : List D) (e : Env) : mCl g t el own [] acc e = some (acc, e) := nr rfl
def kQ (r : Option Env) (g : MG) (t : MT) (el : ME) (own : List Nat) (xs acc : List D) : Option (List D × Env) := match r with
    | some e1 => (match t e1 with
      | some (.ok b e2) => if b = true then (match el e2 with
        | some (.ok y e3) => (match tkf y e3 with
          | some (y', e4) => if acc.length < 16777216 then mCl g t el own xs (acc ++ [y']) (wipeE e4 own) else none
          | none => none)
        | _ => none) else mCl g t el own xs acc (wipeE e2 own)
      | _ => none)
    | none => none
def kQ2 (r : Option (Rs Bool)) (g : MG) (t : MT) (el : ME) (own : List Nat) (xs acc : List D) : Option (List D × Env) := match r with
      | some (.ok b e2) => if b = true then (match el e2 with
        | some (.ok y e3) => (match tkf y e3 with
          | some (y', e4) => if acc.length < 16777216 then mCl g t el own xs (acc ++ [y']) (wipeE e4 own) else none
          | none => none)
        | _ => none) else mCl g t el own xs acc (wipeE e2 own)
      | _ => none
def kQ3 (r : Option (Rs D)) (g : MG) (t : MT) (el : ME) (own : List Nat) (xs acc : List D) : Option (List D × Env) := match r with
        | some (.ok y e3) => (match tkf y e3 with
          | some (y', e4) => if acc.length < 16777216 then mCl g t el own xs (acc ++ [y']) (wipeE e4 own) else none
          | none => none)
        | _ => none
def kQ4 (r : Option (D × Env)) (g : MG) (t : MT) (el : ME) (own : List Nat) (xs acc : List D) : Option (List D × Env) := match r with
          | some (y', e4) => if acc.length < 16777216 then mCl g t el own xs (acc ++ [y']) (wipeE e4 own) else none
          | none => none
theorem cl_cons (g : MG) (t : MT) (el : ME) (own : List Nat) (x : D) (xs acc : List D) (e : Env) : mCl g t el own (x :: xs) acc e = kQ (g x e) g t el own xs acc := nr rfl
theorem kQ_ok (e : Env) (g : MG) (t : MT) (el : ME) (own : List Nat) (xs acc : List D) : kQ (some e) g t el own xs acc = kQ2 (t e) g t el own xs acc := nr rfl
theorem kQ2_t (e : Env) (g : MG) (t : MT) (el : ME) (own : List Nat) (xs acc : List D) : kQ2 (some (.ok true e)) g t el own xs acc = kQ3 (el e) g t el own xs acc := nr rfl
theorem kQ2_f (e : Env) (g : MG) (t : MT) (el : ME) (own : List Nat) (xs acc : List D) : kQ2 (some (.ok false e)) g t el own xs acc = mCl g t el own xs acc (wipeE e own) := nr rfl
theorem kQ3_ok (y : D) (e : Env) (g : MG) (t : MT) (el : ME) (own : List Nat) (xs acc : List D) : kQ3 (some (.ok y e)) g t el own xs acc = kQ4 (tkf y e) g t el own xs acc := nr rfl
theorem kQ4_ok {y : D} {e : Env} {g : MG} {t : MT} {el : ME} {own : List Nat} {xs acc : List D} (h : acc.length < 16777216) : kQ4 (some (y, e)) g t el own xs acc = mCl g t el own xs (acc ++ [y]) (wipeE e own) := by
  unfold kQ4; simp only [h, if_true]
def kFun (r : Option (Rs Fl)) (ds : List D) : Option Rf := match r with
  | some (.ok (.rt d) e) => (match outA ds e with | some ds' => some (.ok d ds') | none => none)
  | some (.ok .nx e) => (match outA ds e with | some ds' => some (.ok .non ds') | none => none)
  | some (.ex x e) => (match outA ds e with | some ds' => some (.ex x ds') | none => none)
  | _ => none
theorem ev_fun {np nl : Nat} {asg : List Nat} {body : MS} {ds : List D} (h1 : ds.length = np) (h2 : asg.all (fun j => match ds[j]? with | some d => isFz d | none => true) = true) : mFun np nl asg body ds = kFun (body (ds.map some ++ List.replicate nl none)) ds := by
  unfold mFun kFun
  rw [if_pos ⟨h1, h2⟩]; first | done | rfl
def kF2 (r : Option (List D)) (d : D) : Option Rf := match r with | some ds' => some (.ok d ds') | none => none
def kF3 (r : Option (List D)) (x : Xc) : Option Rf := match r with | some ds' => some (.ex x ds') | none => none
theorem kFun_rt (d : D) (e : Env) (ds : List D) : kFun (some (.ok (.rt d) e)) ds = kF2 (outA ds e) d := nr rfl
theorem kFun_nx (e : Env) (ds : List D) : kFun (some (.ok .nx e)) ds = kF2 (outA ds e) .non := nr rfl
theorem kFun_ex (x : Xc) (e : Env) (ds : List D) : kFun (some (.ex x e)) ds = kF3 (outA ds e) x := nr rfl
theorem kF2_ok (ds : List D) (d : D) : kF2 (some ds) d = some (.ok d ds) := nr rfl
theorem kF3_ok (ds : List D) (x : Xc) : kF3 (some ds) x = some (.ex x ds) := nr rfl
def kO (r : Option D) (s : Option (List D)) : Option (List D) := match r with | some x => (match s with | some xs => some (x :: xs) | none => none) | none => none
theorem outA_nil (e : Env) : outA [] e = some [] := nr rfl
theorem outA_fz {d : D} {ds : List D} {o : Option D} {e : Env} (h : isFz d = true) : outA (d :: ds) (o :: e) = kO (some d) (outA ds e) := by
  show (match (if isFz d = true then some d else o) with | some x => _ | none => _) = _
  rw [if_pos h]; rfl
theorem outA_mls (ds0 ds : List D) (o : Option D) (e : Env) : outA (.mls ds0 :: ds) (o :: e) = kO o (outA ds e) := by cases o <;> rfl
theorem kO_ok (d : D) (ds : List D) : kO (some d) (some ds) = some (d :: ds) := nr rfl
theorem back_nil (ds : List D) (e : Env) : back [] ds e = e := nr rfl
theorem back_al (k : Nat) (xs : List D) (d : D) (ds : List D) (e : Env) : back (.al k :: xs) (d :: ds) e = back xs ds (e.set k (some d)) := nr rfl
theorem back_fz {x : D} {xs : List D} {d : D} {ds : List D} {e : Env} (h : isAl x = false) : back (x :: xs) (d :: ds) e = back xs ds e := by cases x <;> first | rfl | cases h
theorem als_nil : alsOk [] = true := nr rfl
theorem als_fz {x : D} {xs : List D} (h : isAl x = false) : alsOk (x :: xs) = alsOk xs := by cases x <;> first | rfl | cases h
theorem als_al (k : Nat) (xs : List D) : alsOk (.al k :: xs) = (!xs.any (isAlK k) && alsOk xs) := nr rfl
theorem isAl_fz {x : D} (h : isFz x = true) : isAl x = false := by cases x <;> first | rfl | cases h
theorem isAlK_fz {x : D} {k : Nat} (h : isFz x = true) : isAlK k x = false := by cases x <;> first | rfl | cases h
theorem isFz_non  : isFz D.non = true := nr rfl
theorem isAl_non  : isAl D.non = false := nr rfl
theorem isAlK_non (j : Nat)  : isAlK j D.non = false := nr rfl
theorem isFz_bl (b : Bool) : isFz (D.bl b) = true := nr rfl
theorem isAl_bl (b : Bool) : isAl (D.bl b) = false := nr rfl
theorem isAlK_bl (j : Nat) (b : Bool) : isAlK j (D.bl b) = false := nr rfl
theorem isFz_int (i : Int) : isFz (D.int i) = true := nr rfl
theorem isAl_int (i : Int) : isAl (D.int i) = false := nr rfl
theorem isAlK_int (j : Nat) (i : Int) : isAlK j (D.int i) = false := nr rfl
theorem isFz_str (s : Str) : isFz (D.str s) = true := nr rfl
theorem isAl_str (s : Str) : isAl (D.str s) = false := nr rfl
theorem isAlK_str (j : Nat) (s : Str) : isAlK j (D.str s) = false := nr rfl
theorem isFz_cst (v : V) : isFz (D.cst v) = true := nr rfl
theorem isAl_cst (v : V) : isAl (D.cst v) = false := nr rfl
theorem isAlK_cst (j : Nat) (v : V) : isAlK j (D.cst v) = false := nr rfl
theorem isFz_tup (ds : List D) : isFz (D.tup ds) = true := nr rfl
theorem isAl_tup (ds : List D) : isAl (D.tup ds) = false := nr rfl
theorem isAlK_tup (j : Nat) (ds : List D) : isAlK j (D.tup ds) = false := nr rfl
theorem isFz_lst (ds : List D) : isFz (D.lst ds) = true := nr rfl
theorem isAl_lst (ds : List D) : isAl (D.lst ds) = false := nr rfl
theorem isAlK_lst (j : Nat) (ds : List D) : isAlK j (D.lst ds) = false := nr rfl
theorem isFz_rol (ds : List D) : isFz (D.rol ds) = true := nr rfl
theorem isAl_rol (ds : List D) : isAl (D.rol ds) = false := nr rfl
theorem isAlK_rol (j : Nat) (ds : List D) : isAlK j (D.rol ds) = false := nr rfl
theorem isFz_mls (ds : List D) : isFz (D.mls ds) = false := nr rfl
theorem isAl_mls (ds : List D) : isAl (D.mls ds) = false := nr rfl
theorem isAlK_mls (j : Nat) (ds : List D) : isAlK j (D.mls ds) = false := nr rfl
theorem isFz_al (k : Nat) : isFz (D.al k) = false := nr rfl
theorem isAl_al (k : Nat) : isAl (D.al k) = true := nr rfl
theorem isAlK_al (j k : Nat) : isAlK j (D.al k) = (k == j) := nr rfl
theorem dIs_non  : dIs D.non .non = some (.bl true) := nr rfl
theorem dIsNot_non  : dIsNot D.non .non = some (.bl false) := nr rfl
theorem dIs_bl (b : Bool) : dIs (D.bl b) .non = some (.bl false) := nr rfl
theorem dIsNot_bl (b : Bool) : dIsNot (D.bl b) .non = some (.bl true) := nr rfl
theorem dIs_int (i : Int) : dIs (D.int i) .non = some (.bl false) := nr rfl
theorem dIsNot_int (i : Int) : dIsNot (D.int i) .non = some (.bl true) := nr rfl
theorem dIs_str (s : Str) : dIs (D.str s) .non = some (.bl false) := nr rfl
theorem dIsNot_str (s : Str) : dIsNot (D.str s) .non = some (.bl true) := nr rfl
theorem dIs_tup (ds : List D) : dIs (D.tup ds) .non = some (.bl false) := nr rfl
theorem dIsNot_tup (ds : List D) : dIsNot (D.tup ds) .non = some (.bl true) := nr rfl
theorem dIs_lst (ds : List D) : dIs (D.lst ds) .non = some (.bl false) := nr rfl
theorem dIsNot_lst (ds : List D) : dIsNot (D.lst ds) .non = some (.bl true) := nr rfl
theorem dIs_rol (ds : List D) : dIs (D.rol ds) .non = some (.bl false) := nr rfl
theorem dIsNot_rol (ds : List D) : dIsNot (D.rol ds) .non = some (.bl true) := nr rfl
theorem dIs_mls (ds : List D) : dIs (D.mls ds) .non = some (.bl false) := nr rfl
theorem dIsNot_mls (ds : List D) : dIsNot (D.mls ds) .non = some (.bl true) := nr rfl
theorem dIx_tup (ds : List D) (i : Int) : dIx (.tup ds) (.int i) = atI ds i := nr rfl
theorem dIx_lst (ds : List D) (i : Int) : dIx (.lst ds) (.int i) = atI ds i := nr rfl
theorem dIx_mls (ds : List D) (i : Int) : dIx (.mls ds) (.int i) = atI ds i := nr rfl
theorem dIx_rol (ds : List D) (i : Int) : dIx (.rol ds) (.int i) = atI ds i := nr rfl
theorem dLen_tup (ds : List D) : dLen [.tup ds] = some (.int ds.length) := nr rfl
theorem dLen_lst (ds : List D) : dLen [.lst ds] = some (.int ds.length) := nr rfl
theorem dLen_mls (ds : List D) : dLen [.mls ds] = some (.int ds.length) := nr rfl
theorem dLen_rol (ds : List D) : dLen [.rol ds] = some (.int ds.length) := nr rfl
theorem eqD_int (i j : Int) : dEq (.int i) (.int j) = some (.bl (decide (i = j))) := nr rfl
theorem eqD_str (i j : Str) : dEq (.str i) (.str j) = some (.bl (decide (i = j))) := nr rfl
theorem eqD_bl (i j : Bool) : dEq (.bl i) (.bl j) = some (.bl (decide (i = j))) := nr rfl
theorem eqD_non : dEq .non .non = some (.bl true) := nr rfl
theorem neD_int (i j : Int) : dNe (.int i) (.int j) = some (.bl (!decide (i = j))) := nr rfl
theorem neD_str (i j : Str) : dNe (.str i) (.str j) = some (.bl (!decide (i = j))) := nr rfl
theorem neD_bl (i j : Bool) : dNe (.bl i) (.bl j) = some (.bl (!decide (i = j))) := nr rfl
theorem neD_non : dNe .non .non = some (.bl false) := nr rfl
theorem atI_l0 {α : Type} (x0 : α) (l : List α) : atI (x0 :: l) 0 = some x0 := atI_nat (j := 0) rfl
theorem atI_l1 {α : Type} (x0 x1 : α) (l : List α) : atI (x0 :: x1 :: l) 1 = some x1 := atI_nat (j := 1) rfl
theorem atI_l2 {α : Type} (x0 x1 x2 : α) (l : List α) : atI (x0 :: x1 :: x2 :: l) 2 = some x2 := atI_nat (j := 2) rfl
theorem atI_l3 {α : Type} (x0 x1 x2 x3 : α) (l : List α) : atI (x0 :: x1 :: x2 :: x3 :: l) 3 = some x3 := atI_nat (j := 3) rfl
theorem atI_l4 {α : Type} (x0 x1 x2 x3 x4 : α) (l : List α) : atI (x0 :: x1 :: x2 :: x3 :: x4 :: l) 4 = some x4 := atI_nat (j := 4) rfl
theorem atI_l5 {α : Type} (x0 x1 x2 x3 x4 x5 : α) (l : List α) : atI (x0 :: x1 :: x2 :: x3 :: x4 :: x5 :: l) 5 = some x5 := atI_nat (j := 5) rfl
theorem atI_l6 {α : Type} (x0 x1 x2 x3 x4 x5 x6 : α) (l : List α) : atI (x0 :: x1 :: x2 :: x3 :: x4 :: x5 :: x6 :: l) 6 = some x6 := atI_nat (j := 6) rfl
theorem atI_l7 {α : Type} (x0 x1 x2 x3 x4 x5 x6 x7 : α) (l : List α) : atI (x0 :: x1 :: x2 :: x3 :: x4 :: x5 :: x6 :: x7 :: l) 7 = some x7 := atI_nat (j := 7) rfl
theorem atI_m1 {α : Type} (x0 : α) : atI [x0] (-1) = some x0 := nr rfl
theorem atI_m2 {α : Type} (x0 x1 : α) : atI [x0, x1] (-1) = some x1 := nr rfl
theorem atI_m3 {α : Type} (x0 x1 x2 : α) : atI [x0, x1, x2] (-1) = some x2 := nr rfl
theorem atI_m4 {α : Type} (x0 x1 x2 x3 : α) : atI [x0, x1, x2, x3] (-1) = some x3 := nr rfl
theorem atI_m5 {α : Type} (x0 x1 x2 x3 x4 : α) : atI [x0, x1, x2, x3, x4] (-1) = some x4 := nr rfl
/-! texts -/
theorem st_inj (a b : List Nat) : (st a = st b) = (a = b) := by
  apply propext
  constructor
  · intro h
    have := congrArg (fun s : Str => s.cps.toList) h
    simpa [st] using this
  · rintro rfl; rfl
theorem st_eta (s : Str) : s = st s.cps.toList := by
  obtain ⟨a⟩ := s
  simp [st]
theorem st_cps (a : List Nat) : (st a).cps.toList = a := by simp [st]
theorem st_len (a : List Nat) : (st a).length = a.length := by
  show (st a).cps.size = a.length
  simp [st]
theorem st_app (a b : List Nat) : st a ++ st b = st (a ++ b) := by
  rw [st_eta (st a ++ st b)]
  congr 1
  show ((st a).cps ++ (st b).cps).toList = a ++ b
  simp [st]
theorem dAdd_st (a b : List Nat) : dAdd (.str (st a)) (.str (st b)) = if a.length + b.length ≤ 16777216 then some (.str (st (a ++ b))) else none := by
  simp only [dAdd, st_len, st_app]
theorem dAdd_int (i j : Int) : dAdd (.int i) (.int j) = some (.int (i + j)) := nr rfl
theorem dAdd_tup (a b : List D) : dAdd (.tup a) (.tup b) = if a.length + b.length ≤ 16777216 then some (.tup (a ++ b)) else none := nr rfl
theorem dAdd_ll (a b : List D) : dAdd (.lst a) (.lst b) = if a.length + b.length ≤ 16777216 then some (.mls (a ++ b)) else none := nr rfl
theorem dAdd_lm (a b : List D) : dAdd (.lst a) (.mls b) = if a.length + b.length ≤ 16777216 then some (.mls (a ++ b)) else none := nr rfl
theorem dAdd_ml (a b : List D) : dAdd (.mls a) (.lst b) = if a.length + b.length ≤ 16777216 then some (.mls (a ++ b)) else none := nr rfl
theorem dAdd_mm (a b : List D) : dAdd (.mls a) (.mls b) = if a.length + b.length ≤ 16777216 then some (.mls (a ++ b)) else none := nr rfl
theorem dIx_st (a : List Nat) (i : Int) : dIx (.str (st a)) (.int i) = if a.length ≤ 16777216 then (match atI a i with | some c => some (.str (st [c])) | none => none) else none := by
  simp only [dIx, st_len, st_cps]
  rfl
def cutN (xs : List Nat) (lo hi : Option Int) : List Nat := (xs.drop (HT.sIx xs.length 0 lo)).take (HT.sIx xs.length xs.length hi - HT.sIx xs.length 0 lo)
theorem dSl_st (a : List Nat) (lo hi : Option Int) : dSl (.str (st a)) lo hi = if a.length ≤ 16777216 then some (.str (st (cutN a lo hi))) else none := by
  have : cutS (st a) lo hi = st (cutN a lo hi) := by
    unfold cutS
    simp only [st_len, st_cps]
    rfl
  simp only [dSl, st_len, this]
theorem dSl_tup (ds : List D) (lo hi : Option Int) : dSl (.tup ds) lo hi = some (.tup (cutD ds lo hi)) := nr rfl
theorem dSl_lst (ds : List D) (lo hi : Option Int) : dSl (.lst ds) lo hi = some (.mls (cutD ds lo hi)) := nr rfl
theorem dSl_mls (ds : List D) (lo hi : Option Int) : dSl (.mls ds) lo hi = some (.mls (cutD ds lo hi)) := nr rfl
theorem dLen_st (a : List Nat) : dLen [.str (st a)] = if a.length ≤ 16777216 then some (.int a.length) else none := by
  simp only [dLen, st_len]
theorem tru_st (a : List Nat) : truD (.str (st a)) = if a.length ≤ 16777216 then some ((a.length : Int) != 0) else none := by
  simp only [truD, st_len]
theorem tru_non : truD .non = some false := nr rfl
theorem tru_bl (b : Bool) : truD (.bl b) = some b := nr rfl
theorem tru_int (i : Int) : truD (.int i) = some (i != 0) := nr rfl
theorem tru_tup (ds : List D) : truD (.tup ds) = some (!ds.isEmpty) := nr rfl
theorem tru_lst (ds : List D) : truD (.lst ds) = some (!ds.isEmpty) := nr rfl
theorem tru_mls (ds : List D) : truD (.mls ds) = some (!ds.isEmpty) := nr rfl
theorem dIn_st (c : Nat) (z : List Nat) : dIn (.str (st [c])) (.str (st z)) = some (.bl (decide (c ∈ z))) := by
  simp only [dIn, inD, st_cps]; rfl
theorem dNotIn_st (c : Nat) (z : List Nat) : dNotIn (.str (st [c])) (.str (st z)) = some (.bl (!decide (c ∈ z))) := by
  simp only [dNotIn, inD, st_cps]; rfl
/-- x among flat items -/
def amongD (x : D) : List D → Bool
  | [] => false
  | d :: ds => eqV (toV d) (toV x) || amongD x ds
theorem among_any (x : D) : ∀ ds : List D, inV (toV x) (ds.map toV) = amongD x ds
  | [] => rfl
  | d :: ds => by
    have := among_any x ds
    unfold inV at this ⊢
    simp only [List.map_cons, List.any_cons, amongD, this]
theorem inD_sq {x y : D} {ds : List D} (hx : flatD x = true) (hs : seqD y = some ds) (hf : ds.all flatD = true) : inD x y = some (amongD x ds) := by
  have e : inD x y = (match seqD y with
    | some ds => if flatD x = true ∧ ds.all flatD = true then some (inV (toV x) (ds.map toV)) else none
    | none => none) := by
    cases y <;> first | rfl | cases hs
  rw [e, hs]
  simp only [hx, hf, and_self, if_true, among_any]
theorem dIn_sq {x y : D} {ds : List D} (hx : flatD x = true) (hs : seqD y = some ds) (hf : ds.all flatD = true) : dIn x y = some (.bl (amongD x ds)) := by
  unfold dIn; rw [inD_sq hx hs hf]; rfl
theorem dNotIn_sq {x y : D} {ds : List D} (hx : flatD x = true) (hs : seqD y = some ds) (hf : ds.all flatD = true) : dNotIn x y = some (.bl (!amongD x ds)) := by
  unfold dNotIn; rw [inD_sq hx hs hf]; rfl
theorem dIn_lst {x : D} {ds : List D} (hx : flatD x = true) (hf : ds.all flatD = true) : dIn x (.lst ds) = some (.bl (amongD x ds)) := dIn_sq hx rfl hf
theorem dIn_mls {x : D} {ds : List D} (hx : flatD x = true) (hf : ds.all flatD = true) : dIn x (.mls ds) = some (.bl (amongD x ds)) := dIn_sq hx rfl hf
theorem dIn_tup {x : D} {ds : List D} (hx : flatD x = true) (hf : ds.all flatD = true) : dIn x (.tup ds) = some (.bl (amongD x ds)) := dIn_sq hx rfl hf
theorem dNotIn_lst {x : D} {ds : List D} (hx : flatD x = true) (hf : ds.all flatD = true) : dNotIn x (.lst ds) = some (.bl (!amongD x ds)) := dNotIn_sq hx rfl hf
theorem dNotIn_mls {x : D} {ds : List D} (hx : flatD x = true) (hf : ds.all flatD = true) : dNotIn x (.mls ds) = some (.bl (!amongD x ds)) := dNotIn_sq hx rfl hf
theorem dNotIn_tup {x : D} {ds : List D} (hx : flatD x = true) (hf : ds.all flatD = true) : dNotIn x (.tup ds) = some (.bl (!amongD x ds)) := dNotIn_sq hx rfl hf
theorem among_nil (x : D) : amongD x [] = false := nr rfl
theorem among_ss (a b : Str) (ds : List D) : amongD (.str a) (.str b :: ds) = (decide (b = a) || amongD (.str a) ds) := by
  show ((b == a) || _) = _
  have : (b == a) = decide (b = a) := by rw [Bool.eq_iff_iff]; simp
  rw [this]
theorem among_ii (a b : Int) (ds : List D) : amongD (.int a) (.int b :: ds) = (decide (b = a) || amongD (.int a) ds) := by
  show ((b == a) || _) = _
  have : (b == a) = decide (b = a) := by rw [Bool.eq_iff_iff]; simp
  rw [this]
theorem flat_int (i : Int) : flatD (.int i) = true := nr rfl
theorem flat_str (i : Str) : flatD (.str i) = true := nr rfl
theorem flat_bl (i : Bool) : flatD (.bl i) = true := nr rfl
theorem flat_non : flatD .non = true := nr rfl
theorem flat_strs (l : List Str) : (l.map D.str).all flatD = true := by rw [List.all_eq_true]; intro d hd; obtain ⟨s, _, rfl⟩ := List.mem_map.mp hd; rfl
theorem flat_ints (l : List Int) : (l.map D.int).all flatD = true := by rw [List.all_eq_true]; intro d hd; obtain ⟨s, _, rfl⟩ := List.mem_map.mp hd; rfl
theorem dIsi_of {x : D} {U t : String} {b : Bool} (h1 : tyD x = some t) (h2 : kitB t U = some b) : dIsi [x, .cst (.ty U)] = some (.bl b) := by
  simp only [dIsi, h1, h2]
theorem isi_non_bool  : dIsi [D.non, .cst (.ty "bool")] = some (.bl false) := dIsi_of rfl (by decide +kernel)
theorem isi_bl_bool (b : Bool) : dIsi [(D.bl b), .cst (.ty "bool")] = some (.bl true) := dIsi_of rfl (by decide +kernel)
theorem isi_int_bool (i : Int) : dIsi [(D.int i), .cst (.ty "bool")] = some (.bl false) := dIsi_of rfl (by decide +kernel)
theorem isi_str_bool (s : Str) : dIsi [(D.str s), .cst (.ty "bool")] = some (.bl false) := dIsi_of rfl (by decide +kernel)
theorem isi_tup_bool (ds : List D) : dIsi [(D.tup ds), .cst (.ty "bool")] = some (.bl false) := dIsi_of rfl (by decide +kernel)
theorem isi_lst_bool (ds : List D) : dIsi [(D.lst ds), .cst (.ty "bool")] = some (.bl false) := dIsi_of rfl (by decide +kernel)
theorem isi_mls_bool (ds : List D) : dIsi [(D.mls ds), .cst (.ty "bool")] = some (.bl false) := dIsi_of rfl (by decide +kernel)
theorem isi_non_int  : dIsi [D.non, .cst (.ty "int")] = some (.bl false) := dIsi_of rfl (by decide +kernel)
theorem isi_bl_int (b : Bool) : dIsi [(D.bl b), .cst (.ty "int")] = some (.bl true) := dIsi_of rfl (by decide +kernel)
theorem isi_int_int (i : Int) : dIsi [(D.int i), .cst (.ty "int")] = some (.bl true) := dIsi_of rfl (by decide +kernel)
theorem isi_str_int (s : Str) : dIsi [(D.str s), .cst (.ty "int")] = some (.bl false) := dIsi_of rfl (by decide +kernel)
theorem isi_tup_int (ds : List D) : dIsi [(D.tup ds), .cst (.ty "int")] = some (.bl false) := dIsi_of rfl (by decide +kernel)
theorem isi_lst_int (ds : List D) : dIsi [(D.lst ds), .cst (.ty "int")] = some (.bl false) := dIsi_of rfl (by decide +kernel)
theorem isi_mls_int (ds : List D) : dIsi [(D.mls ds), .cst (.ty "int")] = some (.bl false) := dIsi_of rfl (by decide +kernel)
theorem isi_non_str  : dIsi [D.non, .cst (.ty "str")] = some (.bl false) := dIsi_of rfl (by decide +kernel)
theorem isi_bl_str (b : Bool) : dIsi [(D.bl b), .cst (.ty "str")] = some (.bl false) := dIsi_of rfl (by decide +kernel)
theorem isi_int_str (i : Int) : dIsi [(D.int i), .cst (.ty "str")] = some (.bl false) := dIsi_of rfl (by decide +kernel)
theorem isi_str_str (s : Str) : dIsi [(D.str s), .cst (.ty "str")] = some (.bl true) := dIsi_of rfl (by decide +kernel)
theorem isi_tup_str (ds : List D) : dIsi [(D.tup ds), .cst (.ty "str")] = some (.bl false) := dIsi_of rfl (by decide +kernel)
theorem isi_lst_str (ds : List D) : dIsi [(D.lst ds), .cst (.ty "str")] = some (.bl false) := dIsi_of rfl (by decide +kernel)
theorem isi_mls_str (ds : List D) : dIsi [(D.mls ds), .cst (.ty "str")] = some (.bl false) := dIsi_of rfl (by decide +kernel)
theorem isi_non_list  : dIsi [D.non, .cst (.ty "list")] = some (.bl false) := dIsi_of rfl (by decide +kernel)
theorem isi_bl_list (b : Bool) : dIsi [(D.bl b), .cst (.ty "list")] = some (.bl false) := dIsi_of rfl (by decide +kernel)
theorem isi_int_list (i : Int) : dIsi [(D.int i), .cst (.ty "list")] = some (.bl false) := dIsi_of rfl (by decide +kernel)
theorem isi_str_list (s : Str) : dIsi [(D.str s), .cst (.ty "list")] = some (.bl false) := dIsi_of rfl (by decide +kernel)
theorem isi_tup_list (ds : List D) : dIsi [(D.tup ds), .cst (.ty "list")] = some (.bl false) := dIsi_of rfl (by decide +kernel)
theorem isi_lst_list (ds : List D) : dIsi [(D.lst ds), .cst (.ty "list")] = some (.bl true) := dIsi_of rfl (by decide +kernel)
theorem isi_mls_list (ds : List D) : dIsi [(D.mls ds), .cst (.ty "list")] = some (.bl true) := dIsi_of rfl (by decide +kernel)
theorem isi_non_tuple  : dIsi [D.non, .cst (.ty "tuple")] = some (.bl false) := dIsi_of rfl (by decide +kernel)
theorem isi_bl_tuple (b : Bool) : dIsi [(D.bl b), .cst (.ty "tuple")] = some (.bl false) := dIsi_of rfl (by decide +kernel)
theorem isi_int_tuple (i : Int) : dIsi [(D.int i), .cst (.ty "tuple")] = some (.bl false) := dIsi_of rfl (by decide +kernel)
theorem isi_str_tuple (s : Str) : dIsi [(D.str s), .cst (.ty "tuple")] = some (.bl false) := dIsi_of rfl (by decide +kernel)
theorem isi_tup_tuple (ds : List D) : dIsi [(D.tup ds), .cst (.ty "tuple")] = some (.bl true) := dIsi_of rfl (by decide +kernel)
theorem isi_lst_tuple (ds : List D) : dIsi [(D.lst ds), .cst (.ty "tuple")] = some (.bl false) := dIsi_of rfl (by decide +kernel)
theorem isi_mls_tuple (ds : List D) : dIsi [(D.mls ds), .cst (.ty "tuple")] = some (.bl false) := dIsi_of rfl (by decide +kernel)
end Q


namespace Q
open PySem L2
/-! ### loops by invariants -/
/-- no turn leaves the loop -/
theorem loop_inv {g : MG} {b : MS} (I : Nat → Env → Prop) : ∀ (xs : List D) (n : Nat) (e : Env), I n e → (∀ (k : Nat) (x : D) e, xs[k]? = some x → I (n + k) e → ∃ e1 f e2, g x e = some e1 ∧ b e1 = some (.ok f e2) ∧ (f = .nx ∨ f = .ct) ∧ I (n + k + 1) e2) →
    ∃ e', mLoop g b xs e = some (.ok .nx e') ∧ I (n + xs.length) e'
  | [], n, e, h0, _ => ⟨e, rfl, h0⟩
  | x :: xs, n, e, h0, hs => by
    obtain ⟨e1, f, e2, h1, h2, h3, h4⟩ := hs 0 x e rfl h0
    obtain ⟨e', h5, h6⟩ := loop_inv I xs (n + 1) e2 h4 fun k y e hk hI => by
      have := hs (k + 1) y e (by simpa using hk) (by rw [show n + (k + 1) = n + 1 + k by omega]; exact hI)
      rw [show n + (k + 1) = n + 1 + k by omega] at this
      exact this
    refine ⟨e', ?_, by rw [List.length_cons, show n + (xs.length + 1) = n + 1 + xs.length by omega]; exact h6⟩
    rw [loop_cons, h1, kLp0_ok, h2]
    rcases h3 with rfl | rfl
    · exact h5
    · exact h5
/-- a turn may return; P tells what then holds -/
theorem loop_ret {g : MG} {b : MS} (I : Nat → Env → Prop) (P : D → Env → Prop) : ∀ (xs : List D) (n : Nat) (e : Env), I n e → (∀ (k : Nat) (x : D) e, xs[k]? = some x → I (n + k) e → ∃ e1 f e2, g x e = some e1 ∧ b e1 = some (.ok f e2) ∧ (((f = .nx ∨ f = .ct) ∧ I (n + k + 1) e2) ∨ ∃ d, f = .rt d ∧ P d e2)) →
    (∃ e', mLoop g b xs e = some (.ok .nx e') ∧ I (n + xs.length) e') ∨ ∃ d e', mLoop g b xs e = some (.ok (.rt d) e') ∧ P d e'
  | [], n, e, h0, _ => .inl ⟨e, rfl, h0⟩
  | x :: xs, n, e, h0, hs => by
    obtain ⟨e1, f, e2, h1, h2, h3⟩ := hs 0 x e rfl h0
    rcases h3 with ⟨h3, h4⟩ | ⟨d, rfl, hp⟩
    · have := loop_ret I P xs (n + 1) e2 h4 fun k y e hk hI => by
        have := hs (k + 1) y e (by simpa using hk) (by rw [show n + (k + 1) = n + 1 + k by omega]; exact hI)
        rw [show n + (k + 1) = n + 1 + k by omega] at this
        exact this
      have e0 : mLoop g b (x :: xs) e = mLoop g b xs e2 := by
        rw [loop_cons, h1, kLp0_ok, h2]
        rcases h3 with rfl | rfl <;> rfl
      rw [e0]
      rcases this with ⟨e', h5, h6⟩ | h
      · exact .inl ⟨e', h5, by rw [List.length_cons, show n + (xs.length + 1) = n + 1 + xs.length by omega]; exact h6⟩
      · exact .inr h
    · exact .inr ⟨d, e2, by rw [loop_cons, h1, kLp0_ok, h2]; rfl, hp⟩
theorem rngD_length (lo : Int) (n : Nat) : (rngD lo n).length = n := by simp [rngD]
/-- a comprehension by what it makes of an item -/
theorem cl_inv {g : MG} {t : MT} {el : ME} {own : List Nat} (I : Nat → List D → Env → Prop) : ∀ (xs : List D) (n : Nat) (acc : List D) (e : Env), I n acc e → (∀ (k : Nat) (x : D) acc e, xs[k]? = some x → I (n + k) acc e → ∃ e1 c e2, g x e = some e1 ∧ t e1 = some (.ok c e2) ∧
      ((c = false ∧ I (n + k + 1) acc (wipeE e2 own)) ∨ (c = true ∧ ∃ y e3 y' e4, el e2 = some (.ok y e3) ∧ tkf y e3 = some (y', e4) ∧ acc.length < 16777216 ∧ I (n + k + 1) (acc ++ [y']) (wipeE e4 own)))) →
    ∃ ys e', mCl g t el own xs acc e = some (ys, e') ∧ I (n + xs.length) ys e'
  | [], n, acc, e, h0, _ => ⟨acc, e, rfl, h0⟩
  | x :: xs, n, acc, e, h0, hs => by
    obtain ⟨e1, c, e2, h1, h2, h3⟩ := hs 0 x acc e rfl h0
    have st : ∀ acc' e', I (n + 1) acc' e' → ∃ ys e'', mCl g t el own xs acc' e' = some (ys, e'') ∧ I (n + (x :: xs).length) ys e'' := fun acc' e' hI => by
      obtain ⟨ys, e'', h5, h6⟩ := cl_inv I xs (n + 1) acc' e' hI fun k y acc e hk hI => by
        have := hs (k + 1) y acc e (by simpa using hk) (by rw [show n + (k + 1) = n + 1 + k by omega]; exact hI)
        rw [show n + (k + 1) = n + 1 + k by omega] at this
        exact this
      exact ⟨ys, e'', h5, by rw [List.length_cons, show n + (xs.length + 1) = n + 1 + xs.length by omega]; exact h6⟩
    rcases h3 with ⟨rfl, hI⟩ | ⟨rfl, y, e3, y', e4, h4, h5, h6, hI⟩
    · obtain ⟨ys, e'', h7, h8⟩ := st _ _ hI
      exact ⟨ys, e'', by rw [cl_cons, h1, kQ_ok, h2, kQ2_f]; exact h7, h8⟩
    · obtain ⟨ys, e'', h7, h8⟩ := st _ _ hI
      exact ⟨ys, e'', by rw [cl_cons, h1, kQ_ok, h2, kQ2_t, h4, kQ3_ok, h5, kQ4_ok h6]; exact h7, h8⟩
/-- a comprehension that filters and maps, without effect -/
theorem cl_map {g : MG} {t : MT} {el : ME} {own : List Nat} {e : Env} (f : D → Bool) (h : D → D) (xs : List D) (hl : xs.length < 16777216) (hs : ∀ x ∈ xs, ∃ e1 e2, g x e = some e1 ∧ t e1 = some (.ok (f x) e2) ∧ ((f x = false ∧ wipeE e2 own = e) ∨ (f x = true ∧ ∃ y e3 e4, el e2 = some (.ok y e3) ∧ tkf y e3 = some (h x, e4) ∧ wipeE e4 own = e))) :
    mCl g t el own xs [] e = some ((xs.filter f).map h, e) := by
  have aux : ∀ (xs acc : List D), acc.length + xs.length < 16777216 → (∀ x ∈ xs, ∃ e1 e2, g x e = some e1 ∧ t e1 = some (.ok (f x) e2) ∧ ((f x = false ∧ wipeE e2 own = e) ∨ (f x = true ∧ ∃ y e3 e4, el e2 = some (.ok y e3) ∧ tkf y e3 = some (h x, e4) ∧ wipeE e4 own = e))) → mCl g t el own xs acc e = some (acc ++ (xs.filter f).map h, e) := by
    intro xs
    induction xs with
    | nil => intro acc _ _; simp [cl_nil]
    | cons x xs ih =>
      intro acc hl hs
      rw [List.length_cons] at hl
      obtain ⟨e1, e2, h1, h2, h3⟩ := hs x (by simp)
      have hs' : ∀ x ∈ xs, _ := fun x hx => hs x (List.mem_cons_of_mem _ hx)
      rcases h3 with ⟨hf, h3⟩ | ⟨hf, y, e3, e4, h3, h4, h5⟩
      · rw [cl_cons, h1, kQ_ok, h2, hf, kQ2_f, h3, ih acc (by omega) hs', List.filter_cons, hf]; simp
      · rw [cl_cons, h1, kQ_ok, h2, hf, kQ2_t, h3, kQ3_ok, h4, kQ4_ok (by omega), h5, ih _ (by rw [List.length_append]; simp; omega) hs', List.filter_cons, hf]; simp
  simpa using aux xs [] (by simpa using hl) hs
theorem cutN_to {l : List Nat} {i : Int} (h : 0 ≤ i) : cutN l none (some i) = l.take i.toNat := by
  obtain ⟨n, rfl⟩ : ∃ n : Nat, i = (n : Int) := ⟨i.toNat, by omega⟩
  unfold cutN
  rw [HT.sIx_nat, HT.sIx_none, List.drop_zero, Int.toNat_natCast, Nat.sub_zero]
  apply List.ext_getElem?
  intro j
  rw [List.getElem?_take, List.getElem?_take]
  by_cases hj : j < l.length
  · by_cases hn : j < n
    · rw [if_pos (by omega), if_pos hn]
    · rw [if_neg (by omega), if_neg hn]
  · rw [List.getElem?_eq_none (by omega)]; simp
theorem cutN_from {l : List Nat} {i : Int} (h : 0 ≤ i) : cutN l (some i) none = l.drop i.toNat := by
  obtain ⟨n, rfl⟩ : ∃ n : Nat, i = (n : Int) := ⟨i.toNat, by omega⟩
  unfold cutN
  rw [HT.sIx_nat, HT.sIx_none, Int.toNat_natCast]
  by_cases hn : n ≤ l.length
  · rw [Nat.min_eq_left hn]
    apply List.take_of_length_le
    rw [List.length_drop]
    exact Nat.le_refl _
  · rw [Nat.min_eq_right (by omega), Nat.sub_self, List.take_zero, List.drop_of_length_le (by omega)]
theorem cutD_to {l : List D} {i : Int} (h : 0 ≤ i) : cutD l none (some i) = l.take i.toNat := by
  obtain ⟨n, rfl⟩ : ∃ n : Nat, i = (n : Int) := ⟨i.toNat, by omega⟩
  unfold cutD
  rw [HT.sIx_nat, HT.sIx_none, List.drop_zero, Int.toNat_natCast, Nat.sub_zero]
  apply List.ext_getElem?
  intro j
  rw [List.getElem?_take, List.getElem?_take]
  by_cases hj : j < l.length
  · by_cases hn : j < n
    · rw [if_pos (by omega), if_pos hn]
    · rw [if_neg (by omega), if_neg hn]
  · rw [List.getElem?_eq_none (by omega)]; simp
theorem cutD_from {l : List D} {i : Int} (h : 0 ≤ i) : cutD l (some i) none = l.drop i.toNat := by
  obtain ⟨n, rfl⟩ : ∃ n : Nat, i = (n : Int) := ⟨i.toNat, by omega⟩
  unfold cutD
  rw [HT.sIx_nat, HT.sIx_none, Int.toNat_natCast]
  by_cases hn : n ≤ l.length
  · rw [Nat.min_eq_left hn]
    apply List.take_of_length_le
    rw [List.length_drop]
    exact Nat.le_refl _
  · rw [Nat.min_eq_right (by omega), Nat.sub_self, List.take_zero, List.drop_of_length_le (by omega)]
end Q


namespace Q
open PySem L2
def topS (i : Nat) : Stmt := PySem.Challenge.pw_quickways_k04_names_of_rows.main.body.getD i (.Pass ⟨0, 0, 0, 0⟩)
abbrev s_l_pool : Stmt := topS 8
def nm_l_pool : List Str := ["_law_script"]
theorem sc_l_pool : FnScope nm_l_pool ["_law_script"] (defScope s_l_pool) := ⟨rfl, rfl, rfl, by decide +kernel, rfl, by decide +kernel, by decide +kernel⟩
abbrev s_l_mixed : Stmt := topS 9
def nm_l_mixed : List Str := ["_law_cell", "_law_turn", "_law_limit", "_law_first", "_law_second", "_law_third"]
theorem sc_l_mixed : FnScope nm_l_mixed ["_law_cell", "_law_turn", "_law_limit"] (defScope s_l_mixed) := ⟨rfl, rfl, rfl, by decide +kernel, rfl, by decide +kernel, by decide +kernel⟩
abbrev s_l_draw : Stmt := topS 10
def nm_l_draw : List Str := ["_law_pool_here", "_law_limit", "_law_digit", "_law_cell"]
theorem sc_l_draw : FnScope nm_l_draw ["_law_pool_here", "_law_limit"] (defScope s_l_draw) := ⟨rfl, rfl, rfl, by decide +kernel, rfl, by decide +kernel, by decide +kernel⟩
abbrev s_l_word : Stmt := topS 12
def nm_l_word : List Str := ["_law_pool_here", "_law_first", "_law_signs", "_law_more", "_law_word_here", "_law_k"]
theorem sc_l_word : FnScope nm_l_word ["_law_pool_here", "_law_first", "_law_signs", "_law_more"] (defScope s_l_word) := ⟨rfl, rfl, rfl, by decide +kernel, rfl, by decide +kernel, by decide +kernel⟩
abbrev s_l_kinds : Stmt := topS 11
def nm_l_kinds : List Str := []
theorem sc_l_kinds : FnScope nm_l_kinds [] (defScope s_l_kinds) := ⟨rfl, rfl, rfl, by decide +kernel, rfl, by decide +kernel, by decide +kernel⟩
abbrev s_l_fresh : Stmt := topS 13
def nm_l_fresh : List Str := ["_law_pool_here", "_law_used", "_law_letters", "_law_more", "_law_name", "_law_k"]
theorem sc_l_fresh : FnScope nm_l_fresh ["_law_pool_here", "_law_used"] (defScope s_l_fresh) := ⟨rfl, rfl, rfl, by decide +kernel, rfl, by decide +kernel, by decide +kernel⟩
abbrev s_l_literal : Stmt := topS 14
def nm_l_literal : List Str := ["_law_pool_here", "_law_choice", "_law_letters"]
theorem sc_l_literal : FnScope nm_l_literal ["_law_pool_here"] (defScope s_l_literal) := ⟨rfl, rfl, rfl, by decide +kernel, rfl, by decide +kernel, by decide +kernel⟩
abbrev s_l_grown : Stmt := topS 18
def nm_l_grown : List Str := ["_law_pool_here", "_law_names", "_law_depth", "_law_choice", "_law_word_here", "_law_first", "_law_second", "_law_name"]
theorem sc_l_grown : FnScope nm_l_grown ["_law_pool_here", "_law_names", "_law_depth"] (defScope s_l_grown) := ⟨rfl, rfl, rfl, by decide +kernel, rfl, by decide +kernel, by decide +kernel⟩
abbrev s_l_kind : Stmt := topS 15
def nm_l_kind : List Str := ["_law_pool_here"]
theorem sc_l_kind : FnScope nm_l_kind ["_law_pool_here"] (defScope s_l_kind) := ⟨rfl, rfl, rfl, by decide +kernel, rfl, by decide +kernel, by decide +kernel⟩
abbrev s_l_plain_rows : Stmt := topS 20
def nm_l_plain_rows : List Str := ["_law_pool_here", "_law_names", "_law_x", "_law_y", "_law_own", "_law_kind_here", "_law_guard", "_law_inner", "_law_fixed", "_law_rows", "_law_made"]
theorem sc_l_plain_rows : FnScope nm_l_plain_rows ["_law_pool_here", "_law_names", "_law_x", "_law_y", "_law_own"] (defScope s_l_plain_rows) := ⟨rfl, rfl, rfl, by decide +kernel, rfl, by decide +kernel, by decide +kernel⟩
abbrev s_l_args_grown : Stmt := topS 19
def nm_l_args_grown : List Str := ["_law_pool_here", "_law_names", "_law_forms", "_law_args", "_law_reads", "_law_lends", "_law_form", "_law_name", "_law_made"]
theorem sc_l_args_grown : FnScope nm_l_args_grown ["_law_pool_here", "_law_names", "_law_forms"] (defScope s_l_args_grown) := ⟨rfl, rfl, rfl, by decide +kernel, rfl, by decide +kernel, by decide +kernel⟩
abbrev s_l_call_rows : Stmt := topS 21
def nm_l_call_rows : List Str := ["_law_pool_here", "_law_names", "_law_x", "_law_own", "_law_forms", "_law_task", "_law_rows", "_law_args", "_law_reads", "_law_lends"]
theorem sc_l_call_rows : FnScope nm_l_call_rows ["_law_pool_here", "_law_names", "_law_x", "_law_own", "_law_forms"] (defScope s_l_call_rows) := ⟨rfl, rfl, rfl, by decide +kernel, rfl, by decide +kernel, by decide +kernel⟩
abbrev s_l_is_int : Stmt := topS 16
def nm_l_is_int : List Str := ["_law_thing"]
theorem sc_l_is_int : FnScope nm_l_is_int ["_law_thing"] (defScope s_l_is_int) := ⟨rfl, rfl, rfl, by decide +kernel, rfl, by decide +kernel, by decide +kernel⟩
abbrev s_l_same : Stmt := topS 17
def nm_l_same : List Str := ["_law_mine", "_law_due", "_law_k"]
theorem sc_l_same : FnScope nm_l_same ["_law_mine", "_law_due"] (defScope s_l_same) := ⟨rfl, rfl, rfl, by decide +kernel, rfl, by decide +kernel, by decide +kernel⟩
abbrev s_args_of : Stmt := topS 2
def nm_args_of : List Str := ["row"]
theorem sc_args_of : FnScope nm_args_of ["row"] (defScope s_args_of) := ⟨rfl, rfl, rfl, by decide +kernel, rfl, by decide +kernel, by decide +kernel⟩
abbrev s_row_exprs : Stmt := topS 3
def nm_row_exprs : List Str := ["row", "arg"]
theorem sc_row_exprs : FnScope nm_row_exprs ["row"] (defScope s_row_exprs) := ⟨rfl, rfl, rfl, by decide +kernel, rfl, by decide +kernel, by decide +kernel⟩
abbrev s_expr_names : Stmt := topS 1
def nm_expr_names : List Str := ["expr"]
theorem sc_expr_names : FnScope nm_expr_names ["expr"] (defScope s_expr_names) := ⟨rfl, rfl, rfl, by decide +kernel, rfl, by decide +kernel, by decide +kernel⟩
abbrev s_names_read : Stmt := topS 4
def nm_names_read : List Str := ["row", "found", "expr"]
theorem sc_names_read : FnScope nm_names_read ["row"] (defScope s_names_read) := ⟨rfl, rfl, rfl, by decide +kernel, rfl, by decide +kernel, by decide +kernel⟩
abbrev s_names_set : Stmt := topS 5
def nm_names_set : List Str := ["row"]
theorem sc_names_set : FnScope nm_names_set ["row"] (defScope s_names_set) := ⟨rfl, rfl, rfl, by decide +kernel, rfl, by decide +kernel, by decide +kernel⟩
abbrev s_names_lent : Stmt := topS 6
def nm_names_lent : List Str := ["row", "arg"]
theorem sc_names_lent : FnScope nm_names_lent ["row"] (defScope s_names_lent) := ⟨rfl, rfl, rfl, by decide +kernel, rfl, by decide +kernel, by decide +kernel⟩
abbrev s_law : Stmt := topS 22
def nm_law : List Str := ["_law_script", "_law_pool_here", "_law_names", "_law_k", "_law_own", "_law_x", "_law_y", "_law_rows", "_law_forms", "_law_row", "_law_reads", "_law_sets", "_law_lends"]
theorem sc_law : FnScope nm_law ["_law_script"] (defScope s_law) := ⟨rfl, rfl, rfl, by decide +kernel, rfl, by decide +kernel, by decide +kernel⟩
/-! the mirrors -/
def mb_l_pool : MS :=
    (mRet 1 (mLst (mCons (mCB dList (mCons (mVar 0) mNil)) (mCons (mC (.int 0)) (mCons (mC (.int 0)) (mCons (mC (.int 0)) (mCons (mC (.int 0)) mNil)))))))
def m_l_pool : MF := mFun 1 0 [] mb_l_pool
def mb_l_mixed : MS :=
    (mSeq (mAsg (mOp dMod (mCB dInt (mCons (mOp dAdd (mOp dAdd (mOp dMul (mVar 0) (mC (.int 48271))) (mOp dMul (mVar 1) (mC (.int 69621)))) (mC (.int 11))) mNil)) (mC (.int 2147483647))) (gNm 3))
    (mSeq (mAsg (mOp dMod (mCB dInt (mCons (mOp dAdd (mOp dAdd (mOp dMul (mVar 3) (mC (.int 40692))) (mOp dMul (mVar 0) (mC (.int 16807)))) (mOp dMul (mVar 1) (mC (.int 30269)))) mNil)) (mC (.int 2147483399))) (gNm 4))
    (mSeq (mAsg (mOp dMod (mCB dInt (mCons (mOp dAdd (mOp dMul (mVar 4) (mC (.int 39373))) (mOp dDiv (mVar 3) (mC (.int 7)))) mNil)) (mC (.int 1000000007))) (gNm 5))
    (mRet 3 (mOp dMod (mCB dInt (mCons (mVar 5) mNil)) (mVar 2))))))
def m_l_mixed : MF := mFun 3 3 [] mb_l_mixed
def mb_l_draw : MS :=
    (mSeq (mIfS (mTest (mOp dGt (mOp dIx (mVar 0) (mC (.int 2))) (mC (.int 0)))) (mSeq (mAsg (mOp dMod (mCB dInt (mCons (mOp dIx (mVar 0) (mC (.int 2))) mNil)) (mVar 1)) (gNm 2))
    (mSeq (mAsg (mOp dDiv (mOp dIx (mVar 0) (mC (.int 2))) (mVar 1)) (gIx 0 (mC (.int 2))))
    (mRet 2 (mVar 2)))) mNext)
    (mSeq (mIfS (mTest (mOp dGt (mOp dIx (mVar 0) (mC (.int 4))) (mC (.int 0)))) (mSeq (mAsg (mOp dSub (mOp dIx (mVar 0) (mC (.int 4))) (mC (.int 1))) (gIx 0 (mC (.int 4))))
    (mRet 2 (mCall m_l_mixed (mCons (mOp dIx (mVar 0) (mC (.int 3))) (mCons (mOp dIx (mVar 0) (mC (.int 4))) (mCons (mVar 1) mNil)))))) mNext)
    (mSeq (mIfS (mTest (mOp dGe (mOp dIx (mVar 0) (mC (.int 1))) (mCB dLen (mCons (mOp dIx (mVar 0) (mC (.int 0))) mNil)))) (mRet 2 (mC (.int 0))) mNext)
    (mSeq (mAsg (mOp dIx (mOp dIx (mVar 0) (mC (.int 0))) (mOp dIx (mVar 0) (mC (.int 1)))) (gNm 3))
    (mSeq (mAsg (mOp dAdd (mOp dIx (mVar 0) (mC (.int 1))) (mC (.int 1))) (gIx 0 (mC (.int 1))))
    (mSeq (mIfS (mTest (mOp dLt (mVar 3) (mC (.int 0)))) (mAsg (mOp dSub (mUn dNeg (mC (.int 1))) (mVar 3)) (gNm 3)) mNext)
    (mSeq (mIfS (mTest (mOp dGe (mVar 3) (mOp dPow (mC (.int 10)) (mC (.int 18))))) (mSeq (mAsg (mOp dDiv (mVar 3) (mVar 1)) (gIx 0 (mC (.int 2))))
    (mRet 2 (mOp dMod (mCB dInt (mCons (mVar 3) mNil)) (mVar 1)))) mNext)
    (mSeq (mAsg (mVar 3) (gIx 0 (mC (.int 3))))
    (mSeq (mAsg (mC (.int 7)) (gIx 0 (mC (.int 4))))
    (mRet 2 (mCall m_l_mixed (mCons (mVar 3) (mCons (mC (.int 7)) (mCons (mVar 1) mNil))))))))))))))
def m_l_draw : MF := mFun 2 2 [] mb_l_draw
def lb_l_word_1 : MS :=
    (mAsg (mOp dAdd (mVar 4) (mOp dIx (mVar 2) (mCall m_l_draw (mCons (mVar 0) (mCons (mCB dLen (mCons (mVar 2) mNil)) mNil))))) (gNm 4))
def mb_l_word : MS :=
    (mSeq (mAsg (mOp dIx (mVar 1) (mCall m_l_draw (mCons (mVar 0) (mCons (mCB dLen (mCons (mVar 1) mNil)) mNil)))) (gNm 4))
    (mSeq (mFor (mRng1 (mCons (mVar 3) mNil)) (gNm 5) lb_l_word_1)
    (mRet 4 (mVar 4))))
def m_l_word : MF := mFun 4 2 [] mb_l_word
def mb_l_kinds : MS :=
    (mRet 0 (mLst (mCons (mC (.str (st [97, 110, 121]))) (mCons (mC (.str (st [110, 117, 109]))) (mCons (mC (.str (st [110, 97, 116]))) (mCons (mC (.str (st [115, 109, 97, 108, 108]))) (mCons (mC (.str (st [100, 105, 103, 105, 116]))) (mCons (mC (.str (st [98, 105, 116]))) (mCons (mC (.str (st [119, 111, 114, 100]))) mNil)))))))))
def m_l_kinds : MF := mFun 0 0 [] mb_l_kinds
def lb_l_fresh_1 : MS :=
    (mSeq (mIfS (mAnd (mTest (mOp dNotIn (mVar 4) (mVar 1))) (mAnd (mTest (mOp dNotIn (mVar 4) (mCall m_l_kinds mNil))) (mTest (mOp dNotIn (mVar 4) (mLst (mCons (mC (.str (st [108, 101, 110, 116]))) (mCons (mC (.str (st [109, 97, 105, 110]))) mNil))))))) (mRet 2 (mVar 4)) mNext)
    (mAsg (mOp dAdd (mSl dSl (mVar 4) mNoPart (mPart (mC (.int 4)))) (mCB dStr (mCons (mVar 5) mNil))) (gNm 4)))
def mb_l_fresh : MS :=
    (mSeq (mAsg (mC (.str (st [97, 98, 99, 100, 101, 102, 103, 104, 105, 106, 107, 108, 109, 110, 111, 112, 113, 114, 115, 116, 117, 118, 119, 120, 121, 122]))) (gNm 2))
    (mSeq (mAsg (mCall m_l_draw (mCons (mVar 0) (mCons (mC (.int 3)) mNil))) (gNm 3))
    (mSeq (mIfS (mTest (mOp dEq (mVar 3) (mC (.int 2)))) (mAsg (mCall m_l_draw (mCons (mVar 0) (mCons (mC (.int 6)) mNil))) (gNm 3)) mNext)
    (mSeq (mAsg (mCall m_l_word (mCons (mVar 0) (mCons (mVar 2) (mCons (mOp dAdd (mVar 2) (mC (.str (st [48, 49, 50, 51, 52, 53, 54, 55, 56, 57])))) (mCons (mVar 3) mNil))))) (gNm 4))
    (mSeq (mFor (mRng1 (mCons (mC (.int 60)) mNil)) (gNm 5) lb_l_fresh_1)
    (mRet 2 (mVar 4)))))))
def m_l_fresh : MF := mFun 2 4 [] mb_l_fresh
def mb_l_literal : MS :=
    (mSeq (mAsg (mCall m_l_draw (mCons (mVar 0) (mCons (mC (.int 5)) mNil))) (gNm 1))
    (mSeq (mIfS (mTest (mOp dEq (mVar 1) (mC (.int 0)))) (mRet 1 (mCall m_l_draw (mCons (mVar 0) (mCons (mC (.int 2)) mNil)))) mNext)
    (mSeq (mIfS (mTest (mOp dEq (mVar 1) (mC (.int 1)))) (mRet 1 (mOp dSub (mCall m_l_draw (mCons (mVar 0) (mCons (mC (.int 199)) mNil))) (mC (.int 99)))) mNext)
    (mSeq (mIfS (mTest (mOp dEq (mVar 1) (mC (.int 2)))) (mRet 1 (mOp dIx (mLst (mCons (mUn dNeg (mC (.int 10))) (mCons (mUn dNeg (mC (.int 9))) (mCons (mUn dNeg (mC (.int 1))) (mCons (mC (.int 2)) (mCons (mC (.int 9)) (mCons (mC (.int 10)) mNil))))))) (mCall m_l_draw (mCons (mVar 0) (mCons (mC (.int 6)) mNil))))) mNext)
    (mSeq (mIfS (mTest (mOp dEq (mVar 1) (mC (.int 3)))) (mRet 1 (mCall m_l_draw (mCons (mVar 0) (mCons (mC (.int 10)) mNil)))) mNext)
    (mSeq (mAsg (mC (.str (st [97, 98, 99, 100, 101, 102, 103, 104, 105, 106, 107, 108, 109, 110, 111, 112, 113, 114, 115, 116, 117, 118, 119, 120, 121, 122]))) (gNm 2))
    (mRet 1 (mCall m_l_word (mCons (mVar 0) (mCons (mVar 2) (mCons (mVar 2) (mCons (mCall m_l_draw (mCons (mVar 0) (mCons (mC (.int 6)) mNil))) mNil))))))))))))
def m_l_literal : MF := mFun 1 2 [] mb_l_literal
def mb_l_grown (mrec : MF) : MS :=
    (mSeq (mAsg (mCall m_l_draw (mCons (mVar 0) (mCons (mC (.int 4)) mNil))) (gNm 3))
    (mSeq (mIfS (mAnd (mTest (mOp dGt (mVar 2) (mC (.int 1)))) (mTest (mOp dIn (mVar 3) (mLst (mCons (mC (.int 1)) (mCons (mC (.int 2)) mNil)))))) (mSeq (mAsg (mOp dIx (mLst (mCons (mC (.str (st [97, 100, 100]))) (mCons (mC (.str (st [115, 117, 98]))) (mCons (mC (.str (st [108, 101, 115, 115]))) (mCons (mC (.str (st [115, 97, 109, 101]))) mNil))))) (mCall m_l_draw (mCons (mVar 0) (mCons (mC (.int 4)) mNil)))) (gNm 4))
    (mSeq (mAsg (mCall mrec (mCons (mVar 0) (mCons (mVar 1) (mCons (mOp dSub (mVar 2) (mC (.int 1))) mNil)))) (gNm 5))
    (mSeq (mAsg (mCall mrec (mCons (mVar 0) (mCons (mVar 1) (mCons (mOp dSub (mVar 2) (mC (.int 1))) mNil)))) (gNm 6))
    (mRet 3 (mLst (mCons (mTup (mCons (mVar 4) (mCons (mOp dIx (mVar 5) (mC (.int 0))) (mCons (mOp dIx (mVar 6) (mC (.int 0))) mNil)))) (mCons (mOp dAdd (mOp dIx (mVar 5) (mC (.int 1))) (mOp dIx (mVar 6) (mC (.int 1)))) mNil))))))) mNext)
    (mSeq (mIfS (mTest (mOp dEq (mVar 3) (mC (.int 3)))) (mRet 3 (mLst (mCons (mTup (mCons (mC (.str (st [108, 105, 116]))) (mCons (mCall m_l_literal (mCons (mVar 0) mNil)) mNil))) (mCons (mLst mNil) mNil)))) mNext)
    (mSeq (mAsg (mOp dIx (mVar 1) (mCall m_l_draw (mCons (mVar 0) (mCons (mCB dLen (mCons (mVar 1) mNil)) mNil)))) (gNm 7))
    (mRet 3 (mLst (mCons (mTup (mCons (mC (.str (st [110, 97, 109, 101]))) (mCons (mVar 7) mNil))) (mCons (mLst (mCons (mVar 7) mNil)) mNil))))))))
def m_l_grown : Nat → MF
  | 0 => fun _ => none
  | n + 1 => mFun 3 5 [] (mb_l_grown (m_l_grown n))
def mb_l_kind : MS :=
    (mSeq (mIfS (mTest (mOp dEq (mCall m_l_draw (mCons (mVar 0) (mCons (mC (.int 2)) mNil))) (mC (.int 0)))) (mRet 1 (mC .non)) mNext)
    (mRet 1 (mOp dIx (mCall m_l_kinds mNil) (mCall m_l_draw (mCons (mVar 0) (mCons (mC (.int 7)) mNil))))))
def m_l_kind : MF := mFun 1 0 [] mb_l_kind
def mb_l_plain_rows : MS :=
    (mSeq (mAsg (mOp dIx (mCall m_l_kinds mNil) (mCall m_l_draw (mCons (mVar 0) (mCons (mC (.int 7)) mNil)))) (gNm 5))
    (mSeq (mAsg (mOp dIx (mLst (mCons (mC (.str (st [100, 111, 110, 101]))) (mCons (mC (.str (st [102, 97, 105, 108]))) (mCons (mC (.str (st [97, 108, 119, 97, 121, 115]))) mNil)))) (mCall m_l_draw (mCons (mVar 0) (mCons (mC (.int 3)) mNil)))) (gNm 6))
    (mSeq (mAsg (mTup (mCons (mTup (mCons (mC (.str (st [115, 101, 116]))) (mCons (mVar 3) (mCons (mTup (mCons (mC (.str (st [110, 97, 109, 101]))) (mCons (mVar 2) mNil))) mNil)))) (mCons (mTup (mCons (mC (.str (st [99, 97, 108, 108]))) (mCons (mVar 3) (mCons (mVar 4) (mCons (mTup (mCons (mTup (mCons (mC (.str (st [108, 101, 110, 116]))) (mCons (mVar 2) mNil))) (mCons (mTup (mCons (mC (.str (st [119, 111, 114, 116, 104]))) (mCons (mTup (mCons (mC (.str (st [110, 97, 109, 101]))) (mCons (mVar 3) mNil))) mNil))) mNil))) mNil))))) mNil))) (gNm 7))
    (mSeq (mAsg (mTup (mCons (mC (.str (st [115, 117, 98]))) (mCons (mTup (mCons (mC (.str (st [110, 97, 109, 101]))) (mCons (mOp dIx (mVar 1) (mC (.int 0))) mNil))) (mCons (mTup (mCons (mC (.str (st [97, 100, 100]))) (mCons (mTup (mCons (mC (.str (st [110, 97, 109, 101]))) (mCons (mOp dIx (mVar 1) (mC (.int 1))) mNil))) (mCons (mTup (mCons (mC (.str (st [110, 97, 109, 101]))) (mCons (mOp dIx (mVar 1) (mC (.int 1))) mNil))) mNil)))) mNil)))) (gNm 8))
    (mSeq (mAsg (mLst (mCons (mLst (mCons (mTup (mCons (mC (.str (st [112, 114, 105, 110, 116]))) (mCons (mVar 8) mNil))) (mCons (mLst (mCons (mOp dIx (mVar 1) (mC (.int 0))) (mCons (mOp dIx (mVar 1) (mC (.int 1))) (mCons (mOp dIx (mVar 1) (mC (.int 1))) mNil)))) (mCons (mLst mNil) (mCons (mLst mNil) mNil))))) mNil)) (gNm 9))
    (mSeq (mDrop (mApp 9 (mLst (mCons (mTup (mCons (mC (.str (st [114, 101, 116, 117, 114, 110]))) (mCons (mTup (mCons (mC (.str (st [115, 97, 109, 101]))) (mCons (mTup (mCons (mC (.str (st [108, 105, 116]))) (mCons (mSl dSl (mOp dIx (mVar 1) (mC (.int 0))) mNoPart (mPart (mC (.int 1)))) mNil))) (mCons (mTup (mCons (mC (.str (st [110, 97, 109, 101]))) (mCons (mVar 2) mNil))) mNil)))) mNil))) (mCons (mLst (mCons (mVar 2) mNil)) (mCons (mLst mNil) (mCons (mLst mNil) mNil)))))))
    (mSeq (mDrop (mApp 9 (mLst (mCons (mTup (mCons (mC (.str (st [97, 115, 107]))) (mCons (mVar 3) mNil))) (mCons (mLst mNil) (mCons (mLst (mCons (mVar 3) mNil)) (mCons (mLst mNil) mNil)))))))
    (mSeq (mDrop (mApp 9 (mLst (mCons (mTup (mCons (mC (.str (st [119, 97, 105, 116]))) (mCons (mVar 2) (mCons (mVar 4) mNil)))) (mCons (mLst mNil) (mCons (mLst (mCons (mVar 2) mNil)) (mCons (mLst mNil) mNil)))))))
    (mSeq (mDrop (mApp 9 (mLst (mCons (mTup (mCons (mC (.str (st [119, 97, 105, 116]))) (mCons (mC .non) (mCons (mVar 4) mNil)))) (mCons (mLst mNil) (mCons (mLst mNil) (mCons (mLst mNil) mNil)))))))
    (mSeq (mDrop (mApp 9 (mLst (mCons (mTup (mCons (mC (.str (st [110, 97, 114, 114, 111, 119]))) (mCons (mVar 2) (mCons (mVar 5) mNil)))) (mCons (mLst (mCons (mVar 2) mNil)) (mCons (mLst mNil) (mCons (mLst mNil) mNil)))))))
    (mSeq (mDrop (mApp 9 (mLst (mCons (mTup (mCons (mC (.str (st [108, 111, 111, 112]))) (mCons (mOp dAdd (mC (.int 1)) (mCall m_l_draw (mCons (mVar 0) (mCons (mC (.int 3)) mNil)))) (mCons (mVar 7) mNil)))) (mCons (mLst mNil) (mCons (mLst mNil) (mCons (mLst mNil) mNil)))))))
    (mSeq (mAsg (mCall (m_l_grown 8) (mCons (mVar 0) (mCons (mVar 1) (mCons (mC (.int 3)) mNil)))) (gNm 10))
    (mSeq (mDrop (mApp 9 (mLst (mCons (mTup (mCons (mC (.str (st [108, 101, 116]))) (mCons (mVar 4) (mCons (mCall m_l_kind (mCons (mVar 0) mNil)) (mCons (mOp dIx (mVar 10) (mC (.int 0))) mNil))))) (mCons (mOp dIx (mVar 10) (mC (.int 1))) (mCons (mLst mNil) (mCons (mLst mNil) mNil)))))))
    (mSeq (mAsg (mCall (m_l_grown 8) (mCons (mVar 0) (mCons (mVar 1) (mCons (mC (.int 3)) mNil)))) (gNm 10))
    (mSeq (mDrop (mApp 9 (mLst (mCons (mTup (mCons (mC (.str (st [115, 101, 116]))) (mCons (mVar 2) (mCons (mOp dIx (mVar 10) (mC (.int 0))) mNil)))) (mCons (mOp dIx (mVar 10) (mC (.int 1))) (mCons (mLst (mCons (mVar 2) mNil)) (mCons (mLst mNil) mNil)))))))
    (mSeq (mAsg (mCall (m_l_grown 8) (mCons (mVar 0) (mCons (mVar 1) (mCons (mC (.int 3)) mNil)))) (gNm 10))
    (mSeq (mDrop (mApp 9 (mLst (mCons (mTup (mCons (mC (.str (st [112, 114, 105, 110, 116]))) (mCons (mOp dIx (mVar 10) (mC (.int 0))) mNil))) (mCons (mOp dIx (mVar 10) (mC (.int 1))) (mCons (mLst mNil) (mCons (mLst mNil) mNil)))))))
    (mSeq (mAsg (mCall (m_l_grown 8) (mCons (mVar 0) (mCons (mVar 1) (mCons (mC (.int 3)) mNil)))) (gNm 10))
    (mSeq (mDrop (mApp 9 (mLst (mCons (mTup (mCons (mC (.str (st [114, 101, 116, 117, 114, 110]))) (mCons (mOp dIx (mVar 10) (mC (.int 0))) mNil))) (mCons (mOp dIx (mVar 10) (mC (.int 1))) (mCons (mLst mNil) (mCons (mLst mNil) mNil)))))))
    (mSeq (mAsg (mCall (m_l_grown 8) (mCons (mVar 0) (mCons (mVar 1) (mCons (mC (.int 3)) mNil)))) (gNm 10))
    (mSeq (mDrop (mApp 9 (mLst (mCons (mTup (mCons (mC (.str (st [105, 102]))) (mCons (mOp dIx (mVar 10) (mC (.int 0))) (mCons (mVar 7) (mCons (mSl dSl (mVar 7) (mPart (mC (.int 1))) mNoPart) mNil))))) (mCons (mOp dIx (mVar 10) (mC (.int 1))) (mCons (mLst mNil) (mCons (mLst mNil) mNil)))))))
    (mSeq (mAsg (mCall (m_l_grown 8) (mCons (mVar 0) (mCons (mVar 1) (mCons (mC (.int 1)) mNil)))) (gNm 10))
    (mSeq (mDrop (mApp 9 (mLst (mCons (mTup (mCons (mC (.str (st [100, 101, 102, 101, 114]))) (mCons (mVar 6) (mCons (mTup (mCons (mC (.str (st [112, 114, 105, 110, 116]))) (mCons (mOp dIx (mVar 10) (mC (.int 0))) mNil))) mNil)))) (mCons (mOp dIx (mVar 10) (mC (.int 1))) (mCons (mLst mNil) (mCons (mLst mNil) mNil)))))))
    (mSeq (mDrop (mApp 9 (mLst (mCons (mTup (mCons (mC (.str (st [100, 101, 102, 101, 114]))) (mCons (mVar 6) (mCons (mTup (mCons (mC (.str (st [115, 101, 116]))) (mCons (mVar 3) (mCons (mOp dIx (mVar 10) (mC (.int 0))) mNil)))) mNil)))) (mCons (mOp dIx (mVar 10) (mC (.int 1))) (mCons (mLst (mCons (mVar 3) mNil)) (mCons (mLst mNil) mNil)))))))
    (mRet 5 (mVar 9))))))))))))))))))))))))))
def m_l_plain_rows : MF := mFun 5 6 [] mb_l_plain_rows
def lb_l_args_grown_1 : MS :=
    (mIfS (mTest (mOp dEq (mVar 6) (mC (.str (st [108, 101, 110, 116]))))) (mSeq (mAsg (mOp dIx (mVar 1) (mCall m_l_draw (mCons (mVar 0) (mCons (mCB dLen (mCons (mVar 1) mNil)) mNil)))) (gNm 7))
    (mSeq (mAsg (mOp dAdd (mVar 3) (mTup (mCons (mTup (mCons (mC (.str (st [108, 101, 110, 116]))) (mCons (mVar 7) mNil))) mNil))) (gNm 3))
    (mDrop (mApp 5 (mVar 7))))) (mSeq (mAsg (mCall (m_l_grown 8) (mCons (mVar 0) (mCons (mVar 1) (mCons (mC (.int 3)) mNil)))) (gNm 8))
    (mSeq (mAsg (mOp dAdd (mVar 3) (mTup (mCons (mTup (mCons (mC (.str (st [119, 111, 114, 116, 104]))) (mCons (mOp dIx (mVar 8) (mC (.int 0))) mNil))) mNil))) (gNm 3))
    (mAsg (mOp dAdd (mVar 4) (mOp dIx (mVar 8) (mC (.int 1)))) (gNm 4)))))
def mb_l_args_grown : MS :=
    (mSeq (mAsg (mTup mNil) (gNm 3))
    (mSeq (mAsg (mLst mNil) (gNm 4))
    (mSeq (mAsg (mLst mNil) (gNm 5))
    (mSeq (mFor (mSeqI (mVar 2)) (gNm 6) lb_l_args_grown_1)
    (mRet 3 (mLst (mCons (mVar 3) (mCons (mVar 4) (mCons (mVar 5) mNil)))))))))
def m_l_args_grown : MF := mFun 3 6 [] mb_l_args_grown
def mb_l_call_rows : MS :=
    (mSeq (mAsg (mCall m_l_fresh (mCons (mVar 0) (mCons (mOp dAdd (mVar 1) (mLst (mCons (mVar 3) mNil))) mNil))) (gNm 5))
    (mSeq (mAsg (mLst mNil) (gNm 6))
    (mSeq (mAsg (mCall m_l_args_grown (mCons (mVar 0) (mCons (mVar 1) (mCons (mVar 4) mNil)))) (gUn 3 (gsCons (gNm 7) (gsCons (gNm 8) (gsCons (gNm 9) gsNil)))))
    (mSeq (mDrop (mApp 6 (mLst (mCons (mTup (mCons (mC (.str (st [99, 97, 108, 108]))) (mCons (mVar 2) (mCons (mVar 3) (mCons (mVar 7) mNil))))) (mCons (mVar 8) (mCons (mLst (mCons (mVar 2) mNil)) (mCons (mVar 9) mNil)))))))
    (mSeq (mDrop (mApp 6 (mLst (mCons (mTup (mCons (mC (.str (st [99, 97, 108, 108]))) (mCons (mC .non) (mCons (mVar 3) (mCons (mVar 7) mNil))))) (mCons (mVar 8) (mCons (mLst mNil) (mCons (mVar 9) mNil)))))))
    (mSeq (mDrop (mApp 6 (mLst (mCons (mTup (mCons (mC (.str (st [115, 116, 97, 114, 116]))) (mCons (mVar 5) (mCons (mVar 3) (mCons (mVar 7) mNil))))) (mCons (mVar 8) (mCons (mLst mNil) (mCons (mVar 9) mNil)))))))
    (mRet 5 (mVar 6))))))))
def m_l_call_rows : MF := mFun 5 5 [] mb_l_call_rows
def mb_l_is_int : MS :=
    (mRet 1 (mAndV (mCB dIsi (mCons (mVar 0) (mCons (mC (.cst (.ty "int"))) mNil))) (mNotV (mCB dIsi (mCons (mVar 0) (mCons (mC (.cst (.ty "bool"))) mNil))))))
def m_l_is_int : MF := mFun 1 0 [] mb_l_is_int
def lb_l_same_1 (mrec : MF) : MS :=
    (mIfS (mNot (mTru (mCall mrec (mCons (mOp dIx (mVar 0) (mVar 2)) (mCons (mOp dIx (mVar 1) (mVar 2)) mNil))))) (mRet 2 (mC (.bl false))) mNext)
def mb_l_same (mrec : MF) : MS :=
    (mSeq (mIfS (mTest (mOp dIs (mVar 1) (mC .non))) (mRet 2 (mOp dIs (mVar 0) (mC .non))) mNext)
    (mSeq (mIfS (mTru (mCB dIsi (mCons (mVar 1) (mCons (mC (.cst (.ty "bool"))) mNil)))) (mRet 2 (mAndV (mCB dIsi (mCons (mVar 0) (mCons (mC (.cst (.ty "bool"))) mNil))) (mOp dEq (mVar 0) (mVar 1)))) mNext)
    (mSeq (mIfS (mTru (mCB dIsi (mCons (mVar 1) (mCons (mC (.cst (.ty "int"))) mNil)))) (mRet 2 (mAndV (mCall m_l_is_int (mCons (mVar 0) mNil)) (mOp dEq (mVar 0) (mVar 1)))) mNext)
    (mSeq (mIfS (mTru (mCB dIsi (mCons (mVar 1) (mCons (mC (.cst (.ty "str"))) mNil)))) (mRet 2 (mAndV (mCB dIsi (mCons (mVar 0) (mCons (mC (.cst (.ty "str"))) mNil))) (mOp dEq (mVar 0) (mVar 1)))) mNext)
    (mSeq (mIfS (mAnd (mTru (mCB dIsi (mCons (mVar 1) (mCons (mC (.cst (.ty "list"))) mNil)))) (mNot (mTru (mCB dIsi (mCons (mVar 0) (mCons (mC (.cst (.ty "list"))) mNil)))))) (mRet 2 (mC (.bl false))) mNext)
    (mSeq (mIfS (mAnd (mTru (mCB dIsi (mCons (mVar 1) (mCons (mC (.cst (.ty "tuple"))) mNil)))) (mNot (mTru (mCB dIsi (mCons (mVar 0) (mCons (mC (.cst (.ty "tuple"))) mNil)))))) (mRet 2 (mC (.bl false))) mNext)
    (mSeq (mIfS (mTest (mOp dNe (mCB dLen (mCons (mVar 0) mNil)) (mCB dLen (mCons (mVar 1) mNil)))) (mRet 2 (mC (.bl false))) mNext)
    (mSeq (mFor (mRng1 (mCons (mCB dLen (mCons (mVar 1) mNil)) mNil)) (gNm 2) (lb_l_same_1 mrec))
    (mRet 2 (mC (.bl true)))))))))))
def m_l_same : Nat → MF
  | 0 => fun _ => none
  | n + 1 => mFun 2 1 [] (mb_l_same (m_l_same n))
def mb_args_of : MS :=
    (mSeq (mIfS (mOr (mTest (mOp dEq (mOp dIx (mVar 0) (mC (.int 0))) (mC (.str (st [99, 97, 108, 108]))))) (mTest (mOp dEq (mOp dIx (mVar 0) (mC (.int 0))) (mC (.str (st [115, 116, 97, 114, 116])))))) (mRet 1 (mOp dIx (mVar 0) (mC (.int 3)))) mNext)
    (mRet 1 (mTup mNil)))
def m_args_of : MF := mFun 1 0 [] mb_args_of
def le_row_exprs_1 : ME :=
    (mOp dIx (mVar 1) (mC (.int 1)))
def lt_row_exprs_1 : MT :=
    (mTest (mOp dEq (mOp dIx (mVar 1) (mC (.int 0))) (mC (.str (st [119, 111, 114, 116, 104])))))
def mb_row_exprs : MS :=
    (mSeq (mIfS (mTest (mOp dEq (mOp dIx (mVar 0) (mC (.int 0))) (mC (.str (st [108, 101, 116]))))) (mRet 1 (mTup (mCons (mOp dIx (mVar 0) (mC (.int 3))) mNil))) mNext)
    (mSeq (mIfS (mTest (mOp dEq (mOp dIx (mVar 0) (mC (.int 0))) (mC (.str (st [115, 101, 116]))))) (mRet 1 (mTup (mCons (mOp dIx (mVar 0) (mC (.int 2))) mNil))) mNext)
    (mSeq (mIfS (mOr (mTest (mOp dEq (mOp dIx (mVar 0) (mC (.int 0))) (mC (.str (st [112, 114, 105, 110, 116]))))) (mOr (mTest (mOp dEq (mOp dIx (mVar 0) (mC (.int 0))) (mC (.str (st [114, 101, 116, 117, 114, 110]))))) (mTest (mOp dEq (mOp dIx (mVar 0) (mC (.int 0))) (mC (.str (st [105, 102]))))))) (mRet 1 (mTup (mCons (mOp dIx (mVar 0) (mC (.int 1))) mNil))) mNext)
    (mSeq (mIfS (mTest (mOp dEq (mOp dIx (mVar 0) (mC (.int 0))) (mC (.str (st [100, 101, 102, 101, 114]))))) (mRet 1 (mTup (mCons (mOp dIx (mOp dIx (mVar 0) (mC (.int 2))) (mUn dNeg (mC (.int 1)))) mNil))) mNext)
    (mRet 1 (mCB dTuple (mCons (mLc (mSeqI (mCall m_args_of (mCons (mVar 0) mNil))) (gNm 1) lt_row_exprs_1 le_row_exprs_1 [1]) mNil)))))))
def m_row_exprs : MF := mFun 1 1 [] mb_row_exprs
def mb_expr_names (mrec : MF) : MS :=
    (mSeq (mIfS (mTest (mOp dEq (mOp dIx (mVar 0) (mC (.int 0))) (mC (.str (st [110, 97, 109, 101]))))) (mRet 1 (mTup (mCons (mOp dIx (mVar 0) (mC (.int 1))) mNil))) mNext)
    (mSeq (mIfS (mTest (mOp dEq (mOp dIx (mVar 0) (mC (.int 0))) (mC (.str (st [108, 105, 116]))))) (mRet 1 (mTup mNil)) mNext)
    (mRet 1 (mOp dAdd (mCall mrec (mCons (mOp dIx (mVar 0) (mC (.int 1))) mNil)) (mCall mrec (mCons (mOp dIx (mVar 0) (mC (.int 2))) mNil))))))
def m_expr_names : Nat → MF
  | 0 => fun _ => none
  | n + 1 => mFun 1 0 [] (mb_expr_names (m_expr_names n))
def lb_names_read_1 : MS :=
    (mDrop (mExt 1 (mCall (m_expr_names 8) (mCons (mVar 2) mNil))))
def mb_names_read : MS :=
    (mSeq (mIfS (mTest (mOp dEq (mOp dIx (mVar 0) (mC (.int 0))) (mC (.str (st [110, 97, 114, 114, 111, 119]))))) (mRet 1 (mTup (mCons (mOp dIx (mVar 0) (mC (.int 1))) mNil))) mNext)
    (mSeq (mAsg (mLst mNil) (gNm 1))
    (mSeq (mFor (mSeqI (mCall m_row_exprs (mCons (mVar 0) mNil))) (gNm 2) lb_names_read_1)
    (mRet 1 (mCB dTuple (mCons (mVar 1) mNil))))))
def m_names_read : MF := mFun 1 2 [] mb_names_read
def mb_names_set : MS :=
    (mSeq (mIfS (mOr (mTest (mOp dEq (mOp dIx (mVar 0) (mC (.int 0))) (mC (.str (st [115, 101, 116]))))) (mTest (mOp dEq (mOp dIx (mVar 0) (mC (.int 0))) (mC (.str (st [97, 115, 107])))))) (mRet 1 (mTup (mCons (mOp dIx (mVar 0) (mC (.int 1))) mNil))) mNext)
    (mSeq (mIfS (mOr (mTest (mOp dEq (mOp dIx (mVar 0) (mC (.int 0))) (mC (.str (st [99, 97, 108, 108]))))) (mTest (mOp dEq (mOp dIx (mVar 0) (mC (.int 0))) (mC (.str (st [119, 97, 105, 116])))))) (mRet 1 (mIfE (mTest (mOp dIs (mOp dIx (mVar 0) (mC (.int 1))) (mC .non))) (mTup mNil) (mTup (mCons (mOp dIx (mVar 0) (mC (.int 1))) mNil)))) mNext)
    (mSeq (mIfS (mAnd (mTest (mOp dEq (mOp dIx (mVar 0) (mC (.int 0))) (mC (.str (st [100, 101, 102, 101, 114]))))) (mTest (mOp dEq (mOp dIx (mOp dIx (mVar 0) (mC (.int 2))) (mC (.int 0))) (mC (.str (st [115, 101, 116])))))) (mRet 1 (mTup (mCons (mOp dIx (mOp dIx (mVar 0) (mC (.int 2))) (mC (.int 1))) mNil))) mNext)
    (mRet 1 (mTup mNil)))))
def m_names_set : MF := mFun 1 0 [] mb_names_set
def le_names_lent_1 : ME :=
    (mOp dIx (mVar 1) (mC (.int 1)))
def lt_names_lent_1 : MT :=
    (mTest (mOp dEq (mOp dIx (mVar 1) (mC (.int 0))) (mC (.str (st [108, 101, 110, 116])))))
def mb_names_lent : MS :=
    (mRet 1 (mCB dTuple (mCons (mLc (mSeqI (mCall m_args_of (mCons (mVar 0) mNil))) (gNm 1) lt_names_lent_1 le_names_lent_1 [1]) mNil)))
def m_names_lent : MF := mFun 1 1 [] mb_names_lent
def lb_law_1 : MS :=
    (mDrop (mApp 2 (mCall m_l_fresh (mCons (mVar 1) (mCons (mVar 2) mNil)))))
def le_law_1 : ME :=
    (mOp dIx (mLst (mCons (mC (.str (st [119, 111, 114, 116, 104]))) (mCons (mC (.str (st [108, 101, 110, 116]))) mNil))) (mCall m_l_draw (mCons (mVar 1) (mCons (mC (.int 2)) mNil))))
def lb_law_2 : MS :=
    (mSeq (mIfS (mOr (mNot (mTru (mCall (m_l_same 8) (mCons (mCall m_names_read (mCons (mVar 9) mNil)) (mCons (mCB dTuple (mCons (mVar 10) mNil)) mNil))))) (mNot (mTru (mCall (m_l_same 8) (mCons (mCall m_names_set (mCons (mVar 9) mNil)) (mCons (mCB dTuple (mCons (mVar 11) mNil)) mNil)))))) (mRet 1 (mC (.bl false))) mNext)
    (mIfS (mNot (mTru (mCall (m_l_same 8) (mCons (mCall m_names_lent (mCons (mVar 9) mNil)) (mCons (mCB dTuple (mCons (mVar 12) mNil)) mNil))))) (mRet 1 (mC (.bl false))) mNext))
def mb_law : MS :=
    (mSeq (mAsg (mCall m_l_pool (mCons (mVar 0) mNil)) (gNm 1))
    (mSeq (mAsg (mLst mNil) (gNm 2))
    (mSeq (mFor (mRng1 (mCons (mOp dAdd (mC (.int 2)) (mCall m_l_draw (mCons (mVar 1) (mCons (mC (.int 4)) mNil)))) mNil)) (gNm 3) lb_law_1)
    (mSeq (mAsg (mCall m_l_fresh (mCons (mVar 1) (mCons (mVar 2) mNil))) (gNm 4))
    (mSeq (mAsg (mOp dIx (mVar 2) (mCall m_l_draw (mCons (mVar 1) (mCons (mCB dLen (mCons (mVar 2) mNil)) mNil)))) (gNm 5))
    (mSeq (mAsg (mOp dIx (mVar 2) (mCall m_l_draw (mCons (mVar 1) (mCons (mCB dLen (mCons (mVar 2) mNil)) mNil)))) (gNm 6))
    (mSeq (mAsg (mCall m_l_plain_rows (mCons (mVar 1) (mCons (mVar 2) (mCons (mVar 5) (mCons (mVar 6) (mCons (mVar 4) mNil)))))) (gNm 7))
    (mSeq (mAsg (mOp dAdd (mVar 7) (mCall m_l_call_rows (mCons (mVar 1) (mCons (mVar 2) (mCons (mVar 5) (mCons (mVar 4) (mCons (mLst (mCons (mC (.str (st [119, 111, 114, 116, 104]))) (mCons (mC (.str (st [108, 101, 110, 116]))) (mCons (mC (.str (st [119, 111, 114, 116, 104]))) mNil)))) mNil))))))) (gNm 7))
    (mSeq (mAsg (mLc (mRng1 (mCons (mCall m_l_draw (mCons (mVar 1) (mCons (mC (.int 4)) mNil))) mNil)) (gNm 3) (fun e => some (.ok true e)) le_law_1 [3]) (gNm 8))
    (mSeq (mAsg (mOp dAdd (mVar 7) (mCall m_l_call_rows (mCons (mVar 1) (mCons (mVar 2) (mCons (mVar 6) (mCons (mVar 4) (mCons (mVar 8) mNil))))))) (gNm 7))
    (mSeq (mAsg (mOp dAdd (mVar 7) (mCall m_l_call_rows (mCons (mVar 1) (mCons (mVar 2) (mCons (mVar 6) (mCons (mVar 4) (mCons (mLst (mCons (mC (.str (st [108, 101, 110, 116]))) (mCons (mC (.str (st [119, 111, 114, 116, 104]))) (mCons (mC (.str (st [108, 101, 110, 116]))) mNil)))) mNil))))))) (gNm 7))
    (mSeq (mFor (mSeqI (mOp dAdd (mVar 7) (mSl dSl (mVar 7) mNoPart (mPart (mC (.int 6)))))) (gUn 4 (gsCons (gNm 9) (gsCons (gNm 10) (gsCons (gNm 11) (gsCons (gNm 12) gsNil))))) lb_law_2)
    (mRet 1 (mC (.bl true)))))))))))))))
def m_law : MF := mFun 1 12 [] mb_law
/-- what the top has written -/
structure Txt (K : PySem.W.Frag) (mg : Str → Option Value) where
  f_l_pool : Addr
  d_l_pool : FuncData
  F_l_pool : Fun K "_law_pool" "_law_pool" s_l_pool f_l_pool d_l_pool
  g_l_pool : mg "_law_pool" = some (.ref f_l_pool)
  b_l_pool : Binds K d_l_pool ["_law_script"] []
  f_l_mixed : Addr
  d_l_mixed : FuncData
  F_l_mixed : Fun K "_law_mixed" "_law_mixed" s_l_mixed f_l_mixed d_l_mixed
  g_l_mixed : mg "_law_mixed" = some (.ref f_l_mixed)
  b_l_mixed : Binds K d_l_mixed ["_law_cell", "_law_turn", "_law_limit"] []
  f_l_draw : Addr
  d_l_draw : FuncData
  F_l_draw : Fun K "_law_draw" "_law_draw" s_l_draw f_l_draw d_l_draw
  g_l_draw : mg "_law_draw" = some (.ref f_l_draw)
  b_l_draw : Binds K d_l_draw ["_law_pool_here", "_law_limit"] []
  f_l_word : Addr
  d_l_word : FuncData
  F_l_word : Fun K "_law_word" "_law_word" s_l_word f_l_word d_l_word
  g_l_word : mg "_law_word" = some (.ref f_l_word)
  b_l_word : Binds K d_l_word ["_law_pool_here", "_law_first", "_law_signs", "_law_more"] []
  f_l_kinds : Addr
  d_l_kinds : FuncData
  F_l_kinds : Fun K "_law_kinds" "_law_kinds" s_l_kinds f_l_kinds d_l_kinds
  g_l_kinds : mg "_law_kinds" = some (.ref f_l_kinds)
  b_l_kinds : Binds K d_l_kinds [] []
  f_l_fresh : Addr
  d_l_fresh : FuncData
  F_l_fresh : Fun K "_law_fresh" "_law_fresh" s_l_fresh f_l_fresh d_l_fresh
  g_l_fresh : mg "_law_fresh" = some (.ref f_l_fresh)
  b_l_fresh : Binds K d_l_fresh ["_law_pool_here", "_law_used"] []
  f_l_literal : Addr
  d_l_literal : FuncData
  F_l_literal : Fun K "_law_literal" "_law_literal" s_l_literal f_l_literal d_l_literal
  g_l_literal : mg "_law_literal" = some (.ref f_l_literal)
  b_l_literal : Binds K d_l_literal ["_law_pool_here"] []
  f_l_grown : Addr
  d_l_grown : FuncData
  F_l_grown : Fun K "_law_grown" "_law_grown" s_l_grown f_l_grown d_l_grown
  g_l_grown : mg "_law_grown" = some (.ref f_l_grown)
  b_l_grown : Binds K d_l_grown ["_law_pool_here", "_law_names", "_law_depth"] []
  f_l_kind : Addr
  d_l_kind : FuncData
  F_l_kind : Fun K "_law_kind" "_law_kind" s_l_kind f_l_kind d_l_kind
  g_l_kind : mg "_law_kind" = some (.ref f_l_kind)
  b_l_kind : Binds K d_l_kind ["_law_pool_here"] []
  f_l_plain_rows : Addr
  d_l_plain_rows : FuncData
  F_l_plain_rows : Fun K "_law_plain_rows" "_law_plain_rows" s_l_plain_rows f_l_plain_rows d_l_plain_rows
  g_l_plain_rows : mg "_law_plain_rows" = some (.ref f_l_plain_rows)
  b_l_plain_rows : Binds K d_l_plain_rows ["_law_pool_here", "_law_names", "_law_x", "_law_y", "_law_own"] []
  f_l_args_grown : Addr
  d_l_args_grown : FuncData
  F_l_args_grown : Fun K "_law_args_grown" "_law_args_grown" s_l_args_grown f_l_args_grown d_l_args_grown
  g_l_args_grown : mg "_law_args_grown" = some (.ref f_l_args_grown)
  b_l_args_grown : Binds K d_l_args_grown ["_law_pool_here", "_law_names", "_law_forms"] []
  f_l_call_rows : Addr
  d_l_call_rows : FuncData
  F_l_call_rows : Fun K "_law_call_rows" "_law_call_rows" s_l_call_rows f_l_call_rows d_l_call_rows
  g_l_call_rows : mg "_law_call_rows" = some (.ref f_l_call_rows)
  b_l_call_rows : Binds K d_l_call_rows ["_law_pool_here", "_law_names", "_law_x", "_law_own", "_law_forms"] []
  f_l_is_int : Addr
  d_l_is_int : FuncData
  F_l_is_int : Fun K "_law_is_int" "_law_is_int" s_l_is_int f_l_is_int d_l_is_int
  g_l_is_int : mg "_law_is_int" = some (.ref f_l_is_int)
  b_l_is_int : Binds K d_l_is_int ["_law_thing"] []
  f_l_same : Addr
  d_l_same : FuncData
  F_l_same : Fun K "_law_same" "_law_same" s_l_same f_l_same d_l_same
  g_l_same : mg "_law_same" = some (.ref f_l_same)
  b_l_same : Binds K d_l_same ["_law_mine", "_law_due"] []
  f_args_of : Addr
  d_args_of : FuncData
  F_args_of : Fun K "args_of" "args_of" s_args_of f_args_of d_args_of
  g_args_of : mg "args_of" = some (.ref f_args_of)
  b_args_of : Binds K d_args_of ["row"] []
  f_row_exprs : Addr
  d_row_exprs : FuncData
  F_row_exprs : Fun K "row_exprs" "row_exprs" s_row_exprs f_row_exprs d_row_exprs
  g_row_exprs : mg "row_exprs" = some (.ref f_row_exprs)
  b_row_exprs : Binds K d_row_exprs ["row"] []
  f_expr_names : Addr
  d_expr_names : FuncData
  F_expr_names : Fun K "expr_names" "expr_names" s_expr_names f_expr_names d_expr_names
  g_expr_names : mg "expr_names" = some (.ref f_expr_names)
  b_expr_names : Binds K d_expr_names ["expr"] []
  f_names_read : Addr
  d_names_read : FuncData
  F_names_read : Fun K "names_read" "names_read" s_names_read f_names_read d_names_read
  g_names_read : mg "names_read" = some (.ref f_names_read)
  b_names_read : Binds K d_names_read ["row"] []
  f_names_set : Addr
  d_names_set : FuncData
  F_names_set : Fun K "names_set" "names_set" s_names_set f_names_set d_names_set
  g_names_set : mg "names_set" = some (.ref f_names_set)
  b_names_set : Binds K d_names_set ["row"] []
  f_names_lent : Addr
  d_names_lent : FuncData
  F_names_lent : Fun K "names_lent" "names_lent" s_names_lent f_names_lent d_names_lent
  g_names_lent : mg "names_lent" = some (.ref f_names_lent)
  b_names_lent : Binds K d_names_lent ["row"] []
  f_law : Addr
  d_law : FuncData
  F_law : Fun K "law" "law" s_law f_law d_law
  g_law : mg "law" = some (.ref f_law)
  b_law : Binds K d_law ["_law_script"] []
  b_range : mg "range" = none
  b_len : mg "len" = none
  b_tuple : mg "tuple" = none
  b_list : mg "list" = none
  b_int : mg "int" = none
  b_str : mg "str" = none
  b_isinstance : mg "isinstance" = none
  b_bool : mg "bool" = none
def cvT {K : PySem.W.Frag} {mg : Str → Option Value} (T : Txt K mg) : Str → Value := fun _ => .none
section
variable {P : Program} {w : World} {K : PySem.W.Frag} {mg : Str → Option Value} {base : Heap}
def rd_l_pool {K : PySem.W.Frag} {mg : Str → Option Value} (T : Txt K mg) (W : WX) : TS :=
    (tRet (tLst (tCons (tCB (rListD K) (tCons (tVar 0) tNil)) (tCons (tC (.int 0)) (tCons (tC (.int 0)) (tCons (tC (.int 0)) (tCons (tC (.int 0)) tNil)))))))
theorem sim_l_pool {K : PySem.W.Frag} {mg : Str → Option Value} (T : Txt K mg) (W : WX) : SS (bC K W (cvT T) 1 []) (rd_l_pool T W) (mb_l_pool) := by
  unfold rd_l_pool mb_l_pool
  exact (ss_ret (se_lst (sa_cons (se_cb p_list (sa_cons (se_var 0) sa_nil)) (sa_cons (se_c (.int 0)) (sa_cons (se_c (.int 0)) (sa_cons (se_c (.int 0)) (sa_cons (se_c (.int 0)) sa_nil)))))))
theorem fn_l_pool (T : Txt K mg) {k : Nat} : FnOk P w K mg base (L2.CX P w) (k + 1) T.f_l_pool T.d_l_pool ["_law_script"] (spM K (cvT T) (mFun 1 0 [] (mb_l_pool))) := by
  refine T.F_l_pool.okX sc_l_pool (fun vs H Q E h => spM_len vs H Q E h) (fun cdv A outer s H vs Q E hr h0 => ⟨rd_l_pool T (fun c o _ H => E c o H), ?_, body_mir (np := 1) (nl := 0) rfl (sim_l_pool T _) h0⟩)
  exact (pss_one (ps_ret (pe_lst (pa_cons (pe_callTy call_listD (by rfl) T.b_list bt_list (pa_cons (pv 0) pa_nil)) (pa_cons pe_int (pa_cons pe_int (pa_cons pe_int (pa_cons pe_int pa_nil))))))))
theorem ok_l_pool (T : Txt K mg) : FnOk P w K mg base (L2.CX P w) 1 T.f_l_pool T.d_l_pool ["_law_script"] (spM K (cvT T) m_l_pool) := fn_l_pool (k := 0) T 
def rd_l_mixed {K : PySem.W.Frag} {mg : Str → Option Value} (T : Txt K mg) (W : WX) : TS :=
    (tSeq (tAsg (tOp rModD (tCB (rIntD) (tCons (tOp (rAddD K) (tOp (rAddD K) (tOp rMulD (tVar 0) (tC (.int 48271))) (tOp rMulD (tVar 1) (tC (.int 69621)))) (tC (.int 11))) tNil)) (tC (.int 2147483647))) (gName 3))
    (tSeq (tAsg (tOp rModD (tCB (rIntD) (tCons (tOp (rAddD K) (tOp (rAddD K) (tOp rMulD (tVar 3) (tC (.int 40692))) (tOp rMulD (tVar 0) (tC (.int 16807)))) (tOp rMulD (tVar 1) (tC (.int 30269)))) tNil)) (tC (.int 2147483399))) (gName 4))
    (tSeq (tAsg (tOp rModD (tCB (rIntD) (tCons (tOp (rAddD K) (tOp rMulD (tVar 4) (tC (.int 39373))) (tOp rFdivD (tVar 3) (tC (.int 7)))) tNil)) (tC (.int 1000000007))) (gName 5))
    (tRet (tOp rModD (tCB (rIntD) (tCons (tVar 5) tNil)) (tVar 2))))))
theorem sim_l_mixed {K : PySem.W.Frag} {mg : Str → Option Value} (T : Txt K mg) (W : WX) : SS (bC K W (cvT T) 3 []) (rd_l_mixed T W) (mb_l_mixed) := by
  unfold rd_l_mixed mb_l_mixed
  exact (ss_seq (ss_asg (se_op p_mod (se_cb p_int (sa_cons (se_op p_add (se_op p_add (se_op p_mul (se_var 0) (se_c (.int 48271))) (se_op p_mul (se_var 1) (se_c (.int 69621)))) (se_c (.int 11))) sa_nil)) (se_c (.int 2147483647))) (sg_name rfl))
    (ss_seq (ss_asg (se_op p_mod (se_cb p_int (sa_cons (se_op p_add (se_op p_add (se_op p_mul (se_var 3) (se_c (.int 40692))) (se_op p_mul (se_var 0) (se_c (.int 16807)))) (se_op p_mul (se_var 1) (se_c (.int 30269)))) sa_nil)) (se_c (.int 2147483399))) (sg_name rfl))
    (ss_seq (ss_asg (se_op p_mod (se_cb p_int (sa_cons (se_op p_add (se_op p_mul (se_var 4) (se_c (.int 39373))) (se_op p_div (se_var 3) (se_c (.int 7)))) sa_nil)) (se_c (.int 1000000007))) (sg_name rfl))
    (ss_ret (se_op p_mod (se_cb p_int (sa_cons (se_var 5) sa_nil)) (se_var 2))))))
theorem fn_l_mixed (T : Txt K mg) {k : Nat} : FnOk P w K mg base (L2.CX P w) (k + 1) T.f_l_mixed T.d_l_mixed ["_law_cell", "_law_turn", "_law_limit"] (spM K (cvT T) (mFun 3 3 [] (mb_l_mixed))) := by
  refine T.F_l_mixed.okX sc_l_mixed (fun vs H Q E h => spM_len vs H Q E h) (fun cdv A outer s H vs Q E hr h0 => ⟨rd_l_mixed T (fun c o _ H => E c o H), ?_, body_mir (np := 3) (nl := 3) rfl (sim_l_mixed T _) h0⟩)
  exact (pss_cons (sset 3 sc_l_mixed.nd (pe_op op_modD (pe_callTy call_intD (by rfl) T.b_int bt_int (pa_cons (pe_op op_addD (pe_op op_addD (pe_op op_mulD (pv 0) pe_int) (pe_op op_mulD (pv 1) pe_int)) pe_int) pa_nil)) pe_int))
      (pss_cons (sset 4 sc_l_mixed.nd (pe_op op_modD (pe_callTy call_intD (by rfl) T.b_int bt_int (pa_cons (pe_op op_addD (pe_op op_addD (pe_op op_mulD (pv 3) pe_int) (pe_op op_mulD (pv 0) pe_int)) (pe_op op_mulD (pv 1) pe_int)) pa_nil)) pe_int))
      (pss_cons (sset 5 sc_l_mixed.nd (pe_op op_modD (pe_callTy call_intD (by rfl) T.b_int bt_int (pa_cons (pe_op op_addD (pe_op op_mulD (pv 4) pe_int) (pe_op op_fdivD (pv 3) pe_int)) pa_nil)) pe_int))
      (pss_one (ps_ret (pe_op op_modD (pe_callTy call_intD (by rfl) T.b_int bt_int (pa_cons (pv 5) pa_nil)) (pv 2)))))))
theorem ok_l_mixed (T : Txt K mg) : FnOk P w K mg base (L2.CX P w) 1 T.f_l_mixed T.d_l_mixed ["_law_cell", "_law_turn", "_law_limit"] (spM K (cvT T) m_l_mixed) := fn_l_mixed (k := 0) T 
def rd_l_draw {K : PySem.W.Frag} {mg : Str → Option Value} (T : Txt K mg) (W : WX) : TS :=
    (tSeq (tIfS (tTest (tOp rGtD (tOp (rIxD K) (tVar 0) (tC (.int 2))) (tC (.int 0)))) (tSeq (tAsg (tOp rModD (tCB (rIntD) (tCons (tOp (rIxD K) (tVar 0) (tC (.int 2))) tNil)) (tVar 1)) (gName 2))
    (tSeq (tAsg (tOp rFdivD (tOp (rIxD K) (tVar 0) (tC (.int 2))) (tVar 1)) (gSub (tVar 0) (tC (.int 2)) rSetD))
    (tRet (tVar 2)))) tNext)
    (tSeq (tIfS (tTest (tOp rGtD (tOp (rIxD K) (tVar 0) (tC (.int 4))) (tC (.int 0)))) (tSeq (tAsg (tOp rSubD (tOp (rIxD K) (tVar 0) (tC (.int 4))) (tC (.int 1))) (gSub (tVar 0) (tC (.int 4)) rSetD))
    (tRet (tCallS (spM K (cvT T) m_l_mixed) (WE W) (tCons (tOp (rIxD K) (tVar 0) (tC (.int 3))) (tCons (tOp (rIxD K) (tVar 0) (tC (.int 4))) (tCons (tVar 1) tNil)))))) tNext)
    (tSeq (tIfS (tTest (tOp rGeD (tOp (rIxD K) (tVar 0) (tC (.int 1))) (tCB (rLenD K) (tCons (tOp (rIxD K) (tVar 0) (tC (.int 0))) tNil)))) (tRet (tC (.int 0))) tNext)
    (tSeq (tAsg (tOp (rIxD K) (tOp (rIxD K) (tVar 0) (tC (.int 0))) (tOp (rIxD K) (tVar 0) (tC (.int 1)))) (gName 3))
    (tSeq (tAsg (tOp (rAddD K) (tOp (rIxD K) (tVar 0) (tC (.int 1))) (tC (.int 1))) (gSub (tVar 0) (tC (.int 1)) rSetD))
    (tSeq (tIfS (tTest (tOp rLtD (tVar 3) (tC (.int 0)))) (tAsg (tOp rSubD (tUn rNeg (tC (.int 1))) (tVar 3)) (gName 3)) tNext)
    (tSeq (tIfS (tTest (tOp rGeD (tVar 3) (tOp rPowD (tC (.int 10)) (tC (.int 18))))) (tSeq (tAsg (tOp rFdivD (tVar 3) (tVar 1)) (gSub (tVar 0) (tC (.int 2)) rSetD))
    (tRet (tOp rModD (tCB (rIntD) (tCons (tVar 3) tNil)) (tVar 1)))) tNext)
    (tSeq (tAsg (tVar 3) (gSub (tVar 0) (tC (.int 3)) rSetD))
    (tSeq (tAsg (tC (.int 7)) (gSub (tVar 0) (tC (.int 4)) rSetD))
    (tRet (tCallS (spM K (cvT T) m_l_mixed) (WE W) (tCons (tVar 3) (tCons (tC (.int 7)) (tCons (tVar 1) tNil))))))))))))))
theorem sim_l_draw {K : PySem.W.Frag} {mg : Str → Option Value} (T : Txt K mg) (W : WX) : SS (bC K W (cvT T) 2 []) (rd_l_draw T W) (mb_l_draw) := by
  unfold rd_l_draw mb_l_draw
  exact (ss_seq (ss_if (st_test (se_op p_gt (se_op p_ix (se_var 0) (se_c (.int 2))) (se_c (.int 0)))) (ss_seq (ss_asg (se_op p_mod (se_cb p_int (sa_cons (se_op p_ix (se_var 0) (se_c (.int 2))) sa_nil)) (se_var 1)) (sg_name rfl))
    (ss_seq (ss_asg (se_op p_div (se_op p_ix (se_var 0) (se_c (.int 2))) (se_var 1)) (sg_ix (se_c (.int 2))))
    (ss_ret (se_var 2)))) ss_next)
    (ss_seq (ss_if (st_test (se_op p_gt (se_op p_ix (se_var 0) (se_c (.int 4))) (se_c (.int 0)))) (ss_seq (ss_asg (se_op p_sub (se_op p_ix (se_var 0) (se_c (.int 4))) (se_c (.int 1))) (sg_ix (se_c (.int 4))))
    (ss_ret (se_callS (sa_cons (se_op p_ix (se_var 0) (se_c (.int 3))) (sa_cons (se_op p_ix (se_var 0) (se_c (.int 4))) (sa_cons (se_var 1) sa_nil)))))) ss_next)
    (ss_seq (ss_if (st_test (se_op p_ge (se_op p_ix (se_var 0) (se_c (.int 1))) (se_cb p_len (sa_cons (se_op p_ix (se_var 0) (se_c (.int 0))) sa_nil)))) (ss_ret (se_c (.int 0))) ss_next)
    (ss_seq (ss_asg (se_op p_ix (se_op p_ix (se_var 0) (se_c (.int 0))) (se_op p_ix (se_var 0) (se_c (.int 1)))) (sg_name rfl))
    (ss_seq (ss_asg (se_op p_add (se_op p_ix (se_var 0) (se_c (.int 1))) (se_c (.int 1))) (sg_ix (se_c (.int 1))))
    (ss_seq (ss_if (st_test (se_op p_lt (se_var 3) (se_c (.int 0)))) (ss_asg (se_op p_sub (se_un p_neg (se_c (.int 1))) (se_var 3)) (sg_name rfl)) ss_next)
    (ss_seq (ss_if (st_test (se_op p_ge (se_var 3) (se_op p_pow (se_c (.int 10)) (se_c (.int 18))))) (ss_seq (ss_asg (se_op p_div (se_var 3) (se_var 1)) (sg_ix (se_c (.int 2))))
    (ss_ret (se_op p_mod (se_cb p_int (sa_cons (se_var 3) sa_nil)) (se_var 1)))) ss_next)
    (ss_seq (ss_asg (se_var 3) (sg_ix (se_c (.int 3))))
    (ss_seq (ss_asg (se_c (.int 7)) (sg_ix (se_c (.int 4))))
    (ss_ret (se_callS (sa_cons (se_var 3) (sa_cons (se_c (.int 7)) (sa_cons (se_var 1) sa_nil))))))))))))))
theorem fn_l_draw (T : Txt K mg) {k : Nat} {k_l_mixed : Nat} (G_l_mixed : FnOk P w K mg base (L2.CX P w) k_l_mixed T.f_l_mixed T.d_l_mixed ["_law_cell", "_law_turn", "_law_limit"] (spM K (cvT T) m_l_mixed)) (h_l_mixed : k_l_mixed ≤ k) : FnOk P w K mg base (L2.CX P w) (k + 1) T.f_l_draw T.d_l_draw ["_law_pool_here", "_law_limit"] (spM K (cvT T) (mFun 2 2 [] (mb_l_draw))) := by
  refine T.F_l_draw.okX sc_l_draw (fun vs H Q E h => spM_len vs H Q E h) (fun cdv A outer s H vs Q E hr h0 => ⟨rd_l_draw T (fun c o _ H => E c o H), ?_, body_mir (np := 2) (nl := 2) rfl (sim_l_draw T _) h0⟩)
  exact (pss_cons (ps_if (pt_cmpR op_gtD (pe_ix (ix_D hr.units) (pv 0) pe_int (fun _ _ => rfl)) pe_int (nomark _)) (pss_cons (sset 2 sc_l_draw.nd (pe_op op_modD (pe_callTy call_intD (by rfl) T.b_int bt_int (pa_cons (pe_ix (ix_D hr.units) (pv 0) pe_int (fun _ _ => rfl)) pa_nil)) (pv 1)))
      (pss_cons (ps_asg (pe_op op_fdivD (pe_ix (ix_D hr.units) (pv 0) pe_int (fun _ _ => rfl)) (pv 1)) (pg_sub (pv 0) pe_int (set_D hr.units)))
      (pss_one (ps_ret (pv 2))))) pss_nil)
      (pss_cons (ps_if (pt_cmpR op_gtD (pe_ix (ix_D hr.units) (pv 0) pe_int (fun _ _ => rfl)) pe_int (nomark _)) (pss_cons (ps_asg (pe_op op_subD (pe_ix (ix_D hr.units) (pv 0) pe_int (fun _ _ => rfl)) pe_int) (pg_sub (pv 0) pe_int (set_D hr.units)))
      (pss_one (ps_ret (pe_callS G_l_mixed (hr.mono h_l_mixed) rfl T.g_l_mixed T.F_l_mixed.kp T.b_l_mixed (fun σ => passAt (takes_of rfl rfl rfl rfl) σ) (pa_cons (pe_ix (ix_D hr.units) (pv 0) pe_int (fun _ _ => rfl)) (pa_cons (pe_ix (ix_D hr.units) (pv 0) pe_int (fun _ _ => rfl)) (pa_cons (pv 1) pa_nil))))))) pss_nil)
      (pss_cons (ps_if (pt_cmpR op_geD (pe_ix (ix_D hr.units) (pv 0) pe_int (fun _ _ => rfl)) (pe_callB call_lenX (by rfl) T.b_len bt_len (pa_cons (pe_ix (ix_D hr.units) (pv 0) pe_int (fun _ _ => rfl)) pa_nil)) (nomark _)) (pss_one (ps_ret pe_int)) pss_nil)
      (pss_cons (sset 3 sc_l_draw.nd (pe_ix (ix_D hr.units) (pe_ix (ix_D hr.units) (pv 0) pe_int (fun _ _ => rfl)) (pe_ix (ix_D hr.units) (pv 0) pe_int (fun _ _ => rfl)) (fun _ _ => rfl)))
      (pss_cons (ps_asg (pe_op op_addD (pe_ix (ix_D hr.units) (pv 0) pe_int (fun _ _ => rfl)) pe_int) (pg_sub (pv 0) pe_int (set_D hr.units)))
      (pss_cons (ps_if (pt_cmpR op_ltD (pv 3) pe_int (nomark _)) (pss_one (sset 3 sc_l_draw.nd (pe_op op_subD (pe_un un_neg pe_int) (pv 3)))) pss_nil)
      (pss_cons (ps_if (pt_cmpR op_geD (pv 3) (pe_op op_powD pe_int pe_int) (nomark _)) (pss_cons (ps_asg (pe_op op_fdivD (pv 3) (pv 1)) (pg_sub (pv 0) pe_int (set_D hr.units)))
      (pss_one (ps_ret (pe_op op_modD (pe_callTy call_intD (by rfl) T.b_int bt_int (pa_cons (pv 3) pa_nil)) (pv 1))))) pss_nil)
      (pss_cons (ps_asg (pv 3) (pg_sub (pv 0) pe_int (set_D hr.units)))
      (pss_cons (ps_asg pe_int (pg_sub (pv 0) pe_int (set_D hr.units)))
      (pss_one (ps_ret (pe_callS G_l_mixed (hr.mono h_l_mixed) rfl T.g_l_mixed T.F_l_mixed.kp T.b_l_mixed (fun σ => passAt (takes_of rfl rfl rfl rfl) σ) (pa_cons (pv 3) (pa_cons pe_int (pa_cons (pv 1) pa_nil)))))))))))))))
theorem ok_l_draw (T : Txt K mg) : FnOk P w K mg base (L2.CX P w) 2 T.f_l_draw T.d_l_draw ["_law_pool_here", "_law_limit"] (spM K (cvT T) m_l_draw) := fn_l_draw (k := 1) T (ok_l_mixed T) (by omega)
def rd_l_word {K : PySem.W.Frag} {mg : Str → Option Value} (T : Txt K mg) (W : WX) : TS :=
    (tSeq (tAsg (tOp (rIxD K) (tVar 1) (tCallS (spM K (cvT T) m_l_draw) (WE W) (tCons (tVar 0) (tCons (tCB (rLenD K) (tCons (tVar 1) tNil)) tNil)))) (gName 4))
    (tSeq (tFor (iRng1 (tCons (tVar 3) tNil)) (gName 5) (tAsg (tOp (rAddD K) (tVar 4) (tOp (rIxD K) (tVar 2) (tCallS (spM K (cvT T) m_l_draw) (WE W) (tCons (tVar 0) (tCons (tCB (rLenD K) (tCons (tVar 2) tNil)) tNil))))) (gName 4)))
    (tRet (tVar 4))))
theorem sim_l_word {K : PySem.W.Frag} {mg : Str → Option Value} (T : Txt K mg) (W : WX) : SS (bC K W (cvT T) 4 []) (rd_l_word T W) (mb_l_word) := by
  unfold rd_l_word mb_l_word lb_l_word_1
  exact (ss_seq (ss_asg (se_op p_ix (se_var 1) (se_callS (sa_cons (se_var 0) (sa_cons (se_cb p_len (sa_cons (se_var 1) sa_nil)) sa_nil)))) (sg_name rfl))
    (ss_seq (ss_for (si_rng1 (sa_cons (se_var 3) sa_nil)) (sg_name rfl) (ss_asg (se_op p_add (se_var 4) (se_op p_ix (se_var 2) (se_callS (sa_cons (se_var 0) (sa_cons (se_cb p_len (sa_cons (se_var 2) sa_nil)) sa_nil))))) (sg_name rfl)))
    (ss_ret (se_var 4))))
theorem fn_l_word (T : Txt K mg) {k : Nat} {k_l_draw : Nat} (G_l_draw : FnOk P w K mg base (L2.CX P w) k_l_draw T.f_l_draw T.d_l_draw ["_law_pool_here", "_law_limit"] (spM K (cvT T) m_l_draw)) (h_l_draw : k_l_draw ≤ k) : FnOk P w K mg base (L2.CX P w) (k + 1) T.f_l_word T.d_l_word ["_law_pool_here", "_law_first", "_law_signs", "_law_more"] (spM K (cvT T) (mFun 4 2 [] (mb_l_word))) := by
  refine T.F_l_word.okX sc_l_word (fun vs H Q E h => spM_len vs H Q E h) (fun cdv A outer s H vs Q E hr h0 => ⟨rd_l_word T (fun c o _ H => E c o H), ?_, body_mir (np := 4) (nl := 2) rfl (sim_l_word T _) h0⟩)
  exact (pss_cons (sset 4 sc_l_word.nd (pe_ix (ix_D hr.units) (pv 1) (pe_callS G_l_draw (hr.mono h_l_draw) rfl T.g_l_draw T.F_l_draw.kp T.b_l_draw (fun σ => passAt (takes_of rfl rfl rfl rfl) σ) (pa_cons (pv 0) (pa_cons (pe_callB call_lenX (by rfl) T.b_len bt_len (pa_cons (pv 1) pa_nil)) pa_nil))) (fun _ _ => rfl)))
      (pss_cons (ps_for (passes_of rfl) rfl (pi_range1 (by rfl) T.b_range (pa_cons (pv 3) pa_nil)) (gn 5 sc_l_word.nd) (pss_one (sset 4 sc_l_word.nd (pe_op op_addD (pv 4) (pe_ix (ix_D hr.units) (pv 2) (pe_callS G_l_draw (hr.mono h_l_draw) rfl T.g_l_draw T.F_l_draw.kp T.b_l_draw (fun σ => passAt (takes_of rfl rfl rfl rfl) σ) (pa_cons (pv 0) (pa_cons (pe_callB call_lenX (by rfl) T.b_len bt_len (pa_cons (pv 2) pa_nil)) pa_nil))) (fun _ _ => rfl))))))
      (pss_one (ps_ret (pv 4)))))
theorem ok_l_word (T : Txt K mg) : FnOk P w K mg base (L2.CX P w) 3 T.f_l_word T.d_l_word ["_law_pool_here", "_law_first", "_law_signs", "_law_more"] (spM K (cvT T) m_l_word) := fn_l_word (k := 2) T (ok_l_draw T) (by omega)
def rd_l_kinds {K : PySem.W.Frag} {mg : Str → Option Value} (T : Txt K mg) (W : WX) : TS :=
    (tRet (tLst (tCons (tC (.str "any")) (tCons (tC (.str "num")) (tCons (tC (.str "nat")) (tCons (tC (.str "small")) (tCons (tC (.str "digit")) (tCons (tC (.str "bit")) (tCons (tC (.str "word")) tNil)))))))))
theorem sim_l_kinds {K : PySem.W.Frag} {mg : Str → Option Value} (T : Txt K mg) (W : WX) : SS (bC K W (cvT T) 0 []) (rd_l_kinds T W) (mb_l_kinds) := by
  unfold rd_l_kinds mb_l_kinds
  exact (ss_ret (se_lst (sa_cons (se_cs (by decide +kernel)) (sa_cons (se_cs (by decide +kernel)) (sa_cons (se_cs (by decide +kernel)) (sa_cons (se_cs (by decide +kernel)) (sa_cons (se_cs (by decide +kernel)) (sa_cons (se_cs (by decide +kernel)) (sa_cons (se_cs (by decide +kernel)) sa_nil)))))))))
theorem fn_l_kinds (T : Txt K mg) {k : Nat} : FnOk P w K mg base (L2.CX P w) (k + 1) T.f_l_kinds T.d_l_kinds [] (spM K (cvT T) (mFun 0 0 [] (mb_l_kinds))) := by
  refine T.F_l_kinds.okX sc_l_kinds (fun vs H Q E h => spM_len vs H Q E h) (fun cdv A outer s H vs Q E hr h0 => ⟨rd_l_kinds T (fun c o _ H => E c o H), ?_, body_mir (np := 0) (nl := 0) rfl (sim_l_kinds T _) h0⟩)
  exact (pss_one (ps_ret (pe_lst (pa_cons pe_str (pa_cons pe_str (pa_cons pe_str (pa_cons pe_str (pa_cons pe_str (pa_cons pe_str (pa_cons pe_str pa_nil))))))))))
theorem ok_l_kinds (T : Txt K mg) : FnOk P w K mg base (L2.CX P w) 1 T.f_l_kinds T.d_l_kinds [] (spM K (cvT T) m_l_kinds) := fn_l_kinds (k := 0) T 
def rd_l_fresh {K : PySem.W.Frag} {mg : Str → Option Value} (T : Txt K mg) (W : WX) : TS :=
    (tSeq (tAsg (tC (.str "abcdefghijklmnopqrstuvwxyz")) (gName 2))
    (tSeq (tAsg (tCallS (spM K (cvT T) m_l_draw) (WE W) (tCons (tVar 0) (tCons (tC (.int 3)) tNil))) (gName 3))
    (tSeq (tIfS (tTest (tOp (rEqX K) (tVar 3) (tC (.int 2)))) (tAsg (tCallS (spM K (cvT T) m_l_draw) (WE W) (tCons (tVar 0) (tCons (tC (.int 6)) tNil))) (gName 3)) tNext)
    (tSeq (tAsg (tCallS (spM K (cvT T) m_l_word) (WE W) (tCons (tVar 0) (tCons (tVar 2) (tCons (tOp (rAddD K) (tVar 2) (tC (.str "0123456789"))) (tCons (tVar 3) tNil))))) (gName 4))
    (tSeq (tFor (iRng1 (tCons (tC (.int 60)) tNil)) (gName 5) (tSeq (tIfS (tAnd (tTest (tOp (rNotInD K) (tVar 4) (tVar 1))) (tAnd (tTest (tOp (rNotInD K) (tVar 4) (tCallS (spM K (cvT T) m_l_kinds) (WE W) tNil))) (tTest (tOp (rNotInD K) (tVar 4) (tLst (tCons (tC (.str "lent")) (tCons (tC (.str "main")) tNil))))))) (tRet (tVar 4)) tNext)
    (tAsg (tOp (rAddD K) (tSl (rSlX K) (tVar 4) tNoPart (tPart (tC (.int 4)))) (tCB (rStrD) (tCons (tVar 5) tNil))) (gName 4))))
    (tRet (tVar 4)))))))
theorem sim_l_fresh {K : PySem.W.Frag} {mg : Str → Option Value} (T : Txt K mg) (W : WX) : SS (bC K W (cvT T) 2 []) (rd_l_fresh T W) (mb_l_fresh) := by
  unfold rd_l_fresh mb_l_fresh lb_l_fresh_1
  exact (ss_seq (ss_asg (se_cs (by decide +kernel)) (sg_name rfl))
    (ss_seq (ss_asg (se_callS (sa_cons (se_var 0) (sa_cons (se_c (.int 3)) sa_nil))) (sg_name rfl))
    (ss_seq (ss_if (st_test (se_op p_eq (se_var 3) (se_c (.int 2)))) (ss_asg (se_callS (sa_cons (se_var 0) (sa_cons (se_c (.int 6)) sa_nil))) (sg_name rfl)) ss_next)
    (ss_seq (ss_asg (se_callS (sa_cons (se_var 0) (sa_cons (se_var 2) (sa_cons (se_op p_add (se_var 2) (se_cs (by decide +kernel))) (sa_cons (se_var 3) sa_nil))))) (sg_name rfl))
    (ss_seq (ss_for (si_rng1 (sa_cons (se_c (.int 60)) sa_nil)) (sg_name rfl) (ss_seq (ss_if (st_and (st_test (se_op p_notin (se_var 4) (se_var 1))) (st_and (st_test (se_op p_notin (se_var 4) (se_callS sa_nil))) (st_test (se_op p_notin (se_var 4) (se_lst (sa_cons (se_cs (by decide +kernel)) (sa_cons (se_cs (by decide +kernel)) sa_nil))))))) (ss_ret (se_var 4)) ss_next)
    (ss_asg (se_op p_add (se_sl p_sl (se_var 4) so_none (so_part (se_c (.int 4)))) (se_cb p_str (sa_cons (se_var 5) sa_nil))) (sg_name rfl))))
    (ss_ret (se_var 4)))))))
theorem fn_l_fresh (T : Txt K mg) {k : Nat} {k_l_draw : Nat} (G_l_draw : FnOk P w K mg base (L2.CX P w) k_l_draw T.f_l_draw T.d_l_draw ["_law_pool_here", "_law_limit"] (spM K (cvT T) m_l_draw)) (h_l_draw : k_l_draw ≤ k) {k_l_word : Nat} (G_l_word : FnOk P w K mg base (L2.CX P w) k_l_word T.f_l_word T.d_l_word ["_law_pool_here", "_law_first", "_law_signs", "_law_more"] (spM K (cvT T) m_l_word)) (h_l_word : k_l_word ≤ k) {k_l_kinds : Nat} (G_l_kinds : FnOk P w K mg base (L2.CX P w) k_l_kinds T.f_l_kinds T.d_l_kinds [] (spM K (cvT T) m_l_kinds)) (h_l_kinds : k_l_kinds ≤ k) : FnOk P w K mg base (L2.CX P w) (k + 1) T.f_l_fresh T.d_l_fresh ["_law_pool_here", "_law_used"] (spM K (cvT T) (mFun 2 4 [] (mb_l_fresh))) := by
  refine T.F_l_fresh.okX sc_l_fresh (fun vs H Q E h => spM_len vs H Q E h) (fun cdv A outer s H vs Q E hr h0 => ⟨rd_l_fresh T (fun c o _ H => E c o H), ?_, body_mir (np := 2) (nl := 4) rfl (sim_l_fresh T _) h0⟩)
  exact (pss_cons (sset 2 sc_l_fresh.nd pe_str)
      (pss_cons (sset 3 sc_l_fresh.nd (pe_callS G_l_draw (hr.mono h_l_draw) rfl T.g_l_draw T.F_l_draw.kp T.b_l_draw (fun σ => passAt (takes_of rfl rfl rfl rfl) σ) (pa_cons (pv 0) (pa_cons pe_int pa_nil))))
      (pss_cons (ps_if (pt_cmpR (op_eqX hr.units) (pv 3) pe_int (nomark _)) (pss_one (sset 3 sc_l_fresh.nd (pe_callS G_l_draw (hr.mono h_l_draw) rfl T.g_l_draw T.F_l_draw.kp T.b_l_draw (fun σ => passAt (takes_of rfl rfl rfl rfl) σ) (pa_cons (pv 0) (pa_cons pe_int pa_nil))))) pss_nil)
      (pss_cons (sset 4 sc_l_fresh.nd (pe_callS G_l_word (hr.mono h_l_word) rfl T.g_l_word T.F_l_word.kp T.b_l_word (fun σ => passAt (takes_of rfl rfl rfl rfl) σ) (pa_cons (pv 0) (pa_cons (pv 2) (pa_cons (pe_op op_addD (pv 2) pe_str) (pa_cons (pv 3) pa_nil))))))
      (pss_cons (ps_for (passes_of rfl) rfl (pi_range1 (by rfl) T.b_range (pa_cons pe_int pa_nil)) (gn 5 sc_l_fresh.nd) (pss_cons (ps_if (PW.pt (pw_and (pt_cmpR (op_notInD hr.units) (pv 4) (pv 1) (by rfl)) (pw_and (pt_cmpR (op_notInD hr.units) (pv 4) (pe_callS0 G_l_kinds (hr.mono h_l_kinds) rfl T.g_l_kinds T.F_l_kinds.kp T.b_l_kinds (fun σ => passAt (takes_of rfl rfl rfl rfl) σ)) (by rfl)) (pw_and1 (pt_cmpR (op_notInD hr.units) (pv 4) (pe_lst (pa_cons pe_str (pa_cons pe_str pa_nil))) (by rfl)))))) (pss_one (ps_ret (pv 4))) pss_nil)
      (pss_one (sset 4 sc_l_fresh.nd (pe_op op_addD (pe_slice sl_X (pv 4) po_none (po_some pe_int)) (pe_callTy call_strD (by rfl) T.b_str bt_str (pa_cons (pv 5) pa_nil)))))))
      (pss_one (ps_ret (pv 4))))))))
theorem ok_l_fresh (T : Txt K mg) : FnOk P w K mg base (L2.CX P w) 4 T.f_l_fresh T.d_l_fresh ["_law_pool_here", "_law_used"] (spM K (cvT T) m_l_fresh) := fn_l_fresh (k := 3) T (ok_l_draw T) (by omega) (ok_l_word T) (by omega) (ok_l_kinds T) (by omega)
def rd_l_literal {K : PySem.W.Frag} {mg : Str → Option Value} (T : Txt K mg) (W : WX) : TS :=
    (tSeq (tAsg (tCallS (spM K (cvT T) m_l_draw) (WE W) (tCons (tVar 0) (tCons (tC (.int 5)) tNil))) (gName 1))
    (tSeq (tIfS (tTest (tOp (rEqX K) (tVar 1) (tC (.int 0)))) (tRet (tCallS (spM K (cvT T) m_l_draw) (WE W) (tCons (tVar 0) (tCons (tC (.int 2)) tNil)))) tNext)
    (tSeq (tIfS (tTest (tOp (rEqX K) (tVar 1) (tC (.int 1)))) (tRet (tOp rSubD (tCallS (spM K (cvT T) m_l_draw) (WE W) (tCons (tVar 0) (tCons (tC (.int 199)) tNil))) (tC (.int 99)))) tNext)
    (tSeq (tIfS (tTest (tOp (rEqX K) (tVar 1) (tC (.int 2)))) (tRet (tOp (rIxD K) (tLst (tCons (tUn rNeg (tC (.int 10))) (tCons (tUn rNeg (tC (.int 9))) (tCons (tUn rNeg (tC (.int 1))) (tCons (tC (.int 2)) (tCons (tC (.int 9)) (tCons (tC (.int 10)) tNil))))))) (tCallS (spM K (cvT T) m_l_draw) (WE W) (tCons (tVar 0) (tCons (tC (.int 6)) tNil))))) tNext)
    (tSeq (tIfS (tTest (tOp (rEqX K) (tVar 1) (tC (.int 3)))) (tRet (tCallS (spM K (cvT T) m_l_draw) (WE W) (tCons (tVar 0) (tCons (tC (.int 10)) tNil)))) tNext)
    (tSeq (tAsg (tC (.str "abcdefghijklmnopqrstuvwxyz")) (gName 2))
    (tRet (tCallS (spM K (cvT T) m_l_word) (WE W) (tCons (tVar 0) (tCons (tVar 2) (tCons (tVar 2) (tCons (tCallS (spM K (cvT T) m_l_draw) (WE W) (tCons (tVar 0) (tCons (tC (.int 6)) tNil))) tNil))))))))))))
theorem sim_l_literal {K : PySem.W.Frag} {mg : Str → Option Value} (T : Txt K mg) (W : WX) : SS (bC K W (cvT T) 1 []) (rd_l_literal T W) (mb_l_literal) := by
  unfold rd_l_literal mb_l_literal
  exact (ss_seq (ss_asg (se_callS (sa_cons (se_var 0) (sa_cons (se_c (.int 5)) sa_nil))) (sg_name rfl))
    (ss_seq (ss_if (st_test (se_op p_eq (se_var 1) (se_c (.int 0)))) (ss_ret (se_callS (sa_cons (se_var 0) (sa_cons (se_c (.int 2)) sa_nil)))) ss_next)
    (ss_seq (ss_if (st_test (se_op p_eq (se_var 1) (se_c (.int 1)))) (ss_ret (se_op p_sub (se_callS (sa_cons (se_var 0) (sa_cons (se_c (.int 199)) sa_nil))) (se_c (.int 99)))) ss_next)
    (ss_seq (ss_if (st_test (se_op p_eq (se_var 1) (se_c (.int 2)))) (ss_ret (se_op p_ix (se_lst (sa_cons (se_un p_neg (se_c (.int 10))) (sa_cons (se_un p_neg (se_c (.int 9))) (sa_cons (se_un p_neg (se_c (.int 1))) (sa_cons (se_c (.int 2)) (sa_cons (se_c (.int 9)) (sa_cons (se_c (.int 10)) sa_nil))))))) (se_callS (sa_cons (se_var 0) (sa_cons (se_c (.int 6)) sa_nil))))) ss_next)
    (ss_seq (ss_if (st_test (se_op p_eq (se_var 1) (se_c (.int 3)))) (ss_ret (se_callS (sa_cons (se_var 0) (sa_cons (se_c (.int 10)) sa_nil)))) ss_next)
    (ss_seq (ss_asg (se_cs (by decide +kernel)) (sg_name rfl))
    (ss_ret (se_callS (sa_cons (se_var 0) (sa_cons (se_var 2) (sa_cons (se_var 2) (sa_cons (se_callS (sa_cons (se_var 0) (sa_cons (se_c (.int 6)) sa_nil))) sa_nil))))))))))))
theorem fn_l_literal (T : Txt K mg) {k : Nat} {k_l_draw : Nat} (G_l_draw : FnOk P w K mg base (L2.CX P w) k_l_draw T.f_l_draw T.d_l_draw ["_law_pool_here", "_law_limit"] (spM K (cvT T) m_l_draw)) (h_l_draw : k_l_draw ≤ k) {k_l_word : Nat} (G_l_word : FnOk P w K mg base (L2.CX P w) k_l_word T.f_l_word T.d_l_word ["_law_pool_here", "_law_first", "_law_signs", "_law_more"] (spM K (cvT T) m_l_word)) (h_l_word : k_l_word ≤ k) : FnOk P w K mg base (L2.CX P w) (k + 1) T.f_l_literal T.d_l_literal ["_law_pool_here"] (spM K (cvT T) (mFun 1 2 [] (mb_l_literal))) := by
  refine T.F_l_literal.okX sc_l_literal (fun vs H Q E h => spM_len vs H Q E h) (fun cdv A outer s H vs Q E hr h0 => ⟨rd_l_literal T (fun c o _ H => E c o H), ?_, body_mir (np := 1) (nl := 2) rfl (sim_l_literal T _) h0⟩)
  exact (pss_cons (sset 1 sc_l_literal.nd (pe_callS G_l_draw (hr.mono h_l_draw) rfl T.g_l_draw T.F_l_draw.kp T.b_l_draw (fun σ => passAt (takes_of rfl rfl rfl rfl) σ) (pa_cons (pv 0) (pa_cons pe_int pa_nil))))
      (pss_cons (ps_if (pt_cmpR (op_eqX hr.units) (pv 1) pe_int (nomark _)) (pss_one (ps_ret (pe_callS G_l_draw (hr.mono h_l_draw) rfl T.g_l_draw T.F_l_draw.kp T.b_l_draw (fun σ => passAt (takes_of rfl rfl rfl rfl) σ) (pa_cons (pv 0) (pa_cons pe_int pa_nil))))) pss_nil)
      (pss_cons (ps_if (pt_cmpR (op_eqX hr.units) (pv 1) pe_int (nomark _)) (pss_one (ps_ret (pe_op op_subD (pe_callS G_l_draw (hr.mono h_l_draw) rfl T.g_l_draw T.F_l_draw.kp T.b_l_draw (fun σ => passAt (takes_of rfl rfl rfl rfl) σ) (pa_cons (pv 0) (pa_cons pe_int pa_nil))) pe_int))) pss_nil)
      (pss_cons (ps_if (pt_cmpR (op_eqX hr.units) (pv 1) pe_int (nomark _)) (pss_one (ps_ret (pe_ix (ix_D hr.units) (pe_lst (pa_cons (pe_un un_neg pe_int) (pa_cons (pe_un un_neg pe_int) (pa_cons (pe_un un_neg pe_int) (pa_cons pe_int (pa_cons pe_int (pa_cons pe_int pa_nil))))))) (pe_callS G_l_draw (hr.mono h_l_draw) rfl T.g_l_draw T.F_l_draw.kp T.b_l_draw (fun σ => passAt (takes_of rfl rfl rfl rfl) σ) (pa_cons (pv 0) (pa_cons pe_int pa_nil))) (fun _ _ => rfl)))) pss_nil)
      (pss_cons (ps_if (pt_cmpR (op_eqX hr.units) (pv 1) pe_int (nomark _)) (pss_one (ps_ret (pe_callS G_l_draw (hr.mono h_l_draw) rfl T.g_l_draw T.F_l_draw.kp T.b_l_draw (fun σ => passAt (takes_of rfl rfl rfl rfl) σ) (pa_cons (pv 0) (pa_cons pe_int pa_nil))))) pss_nil)
      (pss_cons (sset 2 sc_l_literal.nd pe_str)
      (pss_one (ps_ret (pe_callS G_l_word (hr.mono h_l_word) rfl T.g_l_word T.F_l_word.kp T.b_l_word (fun σ => passAt (takes_of rfl rfl rfl rfl) σ) (pa_cons (pv 0) (pa_cons (pv 2) (pa_cons (pv 2) (pa_cons (pe_callS G_l_draw (hr.mono h_l_draw) rfl T.g_l_draw T.F_l_draw.kp T.b_l_draw (fun σ => passAt (takes_of rfl rfl rfl rfl) σ) (pa_cons (pv 0) (pa_cons pe_int pa_nil))) pa_nil)))))))))))))
theorem ok_l_literal (T : Txt K mg) : FnOk P w K mg base (L2.CX P w) 4 T.f_l_literal T.d_l_literal ["_law_pool_here"] (spM K (cvT T) m_l_literal) := fn_l_literal (k := 3) T (ok_l_draw T) (by omega) (ok_l_word T) (by omega)
def rd_l_grown {K : PySem.W.Frag} {mg : Str → Option Value} (T : Txt K mg) (W : WX) (mrec : MF) : TS :=
    (tSeq (tAsg (tCallS (spM K (cvT T) m_l_draw) (WE W) (tCons (tVar 0) (tCons (tC (.int 4)) tNil))) (gName 3))
    (tSeq (tIfS (tAnd (tTest (tOp rGtD (tVar 2) (tC (.int 1)))) (tTest (tOp (rInD K) (tVar 3) (tLst (tCons (tC (.int 1)) (tCons (tC (.int 2)) tNil)))))) (tSeq (tAsg (tOp (rIxD K) (tLst (tCons (tC (.str "add")) (tCons (tC (.str "sub")) (tCons (tC (.str "less")) (tCons (tC (.str "same")) tNil))))) (tCallS (spM K (cvT T) m_l_draw) (WE W) (tCons (tVar 0) (tCons (tC (.int 4)) tNil)))) (gName 4))
    (tSeq (tAsg (tCallS (spM K (cvT T) mrec) (WE W) (tCons (tVar 0) (tCons (tVar 1) (tCons (tOp rSubD (tVar 2) (tC (.int 1))) tNil)))) (gName 5))
    (tSeq (tAsg (tCallS (spM K (cvT T) mrec) (WE W) (tCons (tVar 0) (tCons (tVar 1) (tCons (tOp rSubD (tVar 2) (tC (.int 1))) tNil)))) (gName 6))
    (tRet (tLst (tCons (tTup (tCons (tVar 4) (tCons (tOp (rIxD K) (tVar 5) (tC (.int 0))) (tCons (tOp (rIxD K) (tVar 6) (tC (.int 0))) tNil)))) (tCons (tOp (rAddD K) (tOp (rIxD K) (tVar 5) (tC (.int 1))) (tOp (rIxD K) (tVar 6) (tC (.int 1)))) tNil))))))) tNext)
    (tSeq (tIfS (tTest (tOp (rEqX K) (tVar 3) (tC (.int 3)))) (tRet (tLst (tCons (tTup (tCons (tC (.str "lit")) (tCons (tCallS (spM K (cvT T) m_l_literal) (WE W) (tCons (tVar 0) tNil)) tNil))) (tCons (tLst tNil) tNil)))) tNext)
    (tSeq (tAsg (tOp (rIxD K) (tVar 1) (tCallS (spM K (cvT T) m_l_draw) (WE W) (tCons (tVar 0) (tCons (tCB (rLenD K) (tCons (tVar 1) tNil)) tNil)))) (gName 7))
    (tRet (tLst (tCons (tTup (tCons (tC (.str "name")) (tCons (tVar 7) tNil))) (tCons (tLst (tCons (tVar 7) tNil)) tNil))))))))
theorem sim_l_grown {K : PySem.W.Frag} {mg : Str → Option Value} (T : Txt K mg) (W : WX) (mrec : MF) : SS (bC K W (cvT T) 3 []) (rd_l_grown T W mrec) (mb_l_grown mrec) := by
  unfold rd_l_grown mb_l_grown
  exact (ss_seq (ss_asg (se_callS (sa_cons (se_var 0) (sa_cons (se_c (.int 4)) sa_nil))) (sg_name rfl))
    (ss_seq (ss_if (st_and (st_test (se_op p_gt (se_var 2) (se_c (.int 1)))) (st_test (se_op p_in (se_var 3) (se_lst (sa_cons (se_c (.int 1)) (sa_cons (se_c (.int 2)) sa_nil)))))) (ss_seq (ss_asg (se_op p_ix (se_lst (sa_cons (se_cs (by decide +kernel)) (sa_cons (se_cs (by decide +kernel)) (sa_cons (se_cs (by decide +kernel)) (sa_cons (se_cs (by decide +kernel)) sa_nil))))) (se_callS (sa_cons (se_var 0) (sa_cons (se_c (.int 4)) sa_nil)))) (sg_name rfl))
    (ss_seq (ss_asg (se_callS (sa_cons (se_var 0) (sa_cons (se_var 1) (sa_cons (se_op p_sub (se_var 2) (se_c (.int 1))) sa_nil)))) (sg_name rfl))
    (ss_seq (ss_asg (se_callS (sa_cons (se_var 0) (sa_cons (se_var 1) (sa_cons (se_op p_sub (se_var 2) (se_c (.int 1))) sa_nil)))) (sg_name rfl))
    (ss_ret (se_lst (sa_cons (se_tup (sa_cons (se_var 4) (sa_cons (se_op p_ix (se_var 5) (se_c (.int 0))) (sa_cons (se_op p_ix (se_var 6) (se_c (.int 0))) sa_nil)))) (sa_cons (se_op p_add (se_op p_ix (se_var 5) (se_c (.int 1))) (se_op p_ix (se_var 6) (se_c (.int 1)))) sa_nil))))))) ss_next)
    (ss_seq (ss_if (st_test (se_op p_eq (se_var 3) (se_c (.int 3)))) (ss_ret (se_lst (sa_cons (se_tup (sa_cons (se_cs (by decide +kernel)) (sa_cons (se_callS (sa_cons (se_var 0) sa_nil)) sa_nil))) (sa_cons (se_lst sa_nil) sa_nil)))) ss_next)
    (ss_seq (ss_asg (se_op p_ix (se_var 1) (se_callS (sa_cons (se_var 0) (sa_cons (se_cb p_len (sa_cons (se_var 1) sa_nil)) sa_nil)))) (sg_name rfl))
    (ss_ret (se_lst (sa_cons (se_tup (sa_cons (se_cs (by decide +kernel)) (sa_cons (se_var 7) sa_nil))) (sa_cons (se_lst (sa_cons (se_var 7) sa_nil)) sa_nil))))))))
theorem fn_l_grown (T : Txt K mg) {mrec : MF} {k : Nat} {k_l_draw : Nat} (G_l_draw : FnOk P w K mg base (L2.CX P w) k_l_draw T.f_l_draw T.d_l_draw ["_law_pool_here", "_law_limit"] (spM K (cvT T) m_l_draw)) (h_l_draw : k_l_draw ≤ k) {k_l_grown : Nat} (G_l_grown : FnOk P w K mg base (L2.CX P w) k_l_grown T.f_l_grown T.d_l_grown ["_law_pool_here", "_law_names", "_law_depth"] (spM K (cvT T) mrec)) (h_l_grown : k_l_grown ≤ k) {k_l_literal : Nat} (G_l_literal : FnOk P w K mg base (L2.CX P w) k_l_literal T.f_l_literal T.d_l_literal ["_law_pool_here"] (spM K (cvT T) m_l_literal)) (h_l_literal : k_l_literal ≤ k) : FnOk P w K mg base (L2.CX P w) (k + 1) T.f_l_grown T.d_l_grown ["_law_pool_here", "_law_names", "_law_depth"] (spM K (cvT T) (mFun 3 5 [] (mb_l_grown mrec))) := by
  refine T.F_l_grown.okX sc_l_grown (fun vs H Q E h => spM_len vs H Q E h) (fun cdv A outer s H vs Q E hr h0 => ⟨rd_l_grown T (fun c o _ H => E c o H) mrec, ?_, body_mir (np := 3) (nl := 5) rfl (sim_l_grown T _ mrec) h0⟩)
  exact (pss_cons (sset 3 sc_l_grown.nd (pe_callS G_l_draw (hr.mono h_l_draw) rfl T.g_l_draw T.F_l_draw.kp T.b_l_draw (fun σ => passAt (takes_of rfl rfl rfl rfl) σ) (pa_cons (pv 0) (pa_cons pe_int pa_nil))))
      (pss_cons (ps_if (PW.pt (pw_and (pt_cmpR op_gtD (pv 2) pe_int (nomark _)) (pw_and1 (pt_cmpR (op_inD hr.units) (pv 3) (pe_lst (pa_cons pe_int (pa_cons pe_int pa_nil))) (by rfl))))) (pss_cons (sset 4 sc_l_grown.nd (pe_ix (ix_D hr.units) (pe_lst (pa_cons pe_str (pa_cons pe_str (pa_cons pe_str (pa_cons pe_str pa_nil))))) (pe_callS G_l_draw (hr.mono h_l_draw) rfl T.g_l_draw T.F_l_draw.kp T.b_l_draw (fun σ => passAt (takes_of rfl rfl rfl rfl) σ) (pa_cons (pv 0) (pa_cons pe_int pa_nil))) (fun _ _ => rfl)))
      (pss_cons (sset 5 sc_l_grown.nd (pe_callS G_l_grown (hr.mono h_l_grown) rfl T.g_l_grown T.F_l_grown.kp T.b_l_grown (fun σ => passAt (takes_of rfl rfl rfl rfl) σ) (pa_cons (pv 0) (pa_cons (pv 1) (pa_cons (pe_op op_subD (pv 2) pe_int) pa_nil)))))
      (pss_cons (sset 6 sc_l_grown.nd (pe_callS G_l_grown (hr.mono h_l_grown) rfl T.g_l_grown T.F_l_grown.kp T.b_l_grown (fun σ => passAt (takes_of rfl rfl rfl rfl) σ) (pa_cons (pv 0) (pa_cons (pv 1) (pa_cons (pe_op op_subD (pv 2) pe_int) pa_nil)))))
      (pss_one (ps_ret (pe_lst (pa_cons (pe_tup (pa_cons (pv 4) (pa_cons (pe_ix (ix_D hr.units) (pv 5) pe_int (fun _ _ => rfl)) (pa_cons (pe_ix (ix_D hr.units) (pv 6) pe_int (fun _ _ => rfl)) pa_nil)))) (pa_cons (pe_op op_addD (pe_ix (ix_D hr.units) (pv 5) pe_int (fun _ _ => rfl)) (pe_ix (ix_D hr.units) (pv 6) pe_int (fun _ _ => rfl))) pa_nil)))))))) pss_nil)
      (pss_cons (ps_if (pt_cmpR (op_eqX hr.units) (pv 3) pe_int (nomark _)) (pss_one (ps_ret (pe_lst (pa_cons (pe_tup (pa_cons pe_str (pa_cons (pe_callS G_l_literal (hr.mono h_l_literal) rfl T.g_l_literal T.F_l_literal.kp T.b_l_literal (fun σ => passAt (takes_of rfl rfl rfl rfl) σ) (pa_cons (pv 0) pa_nil)) pa_nil))) (pa_cons (pe_lst pa_nil) pa_nil))))) pss_nil)
      (pss_cons (sset 7 sc_l_grown.nd (pe_ix (ix_D hr.units) (pv 1) (pe_callS G_l_draw (hr.mono h_l_draw) rfl T.g_l_draw T.F_l_draw.kp T.b_l_draw (fun σ => passAt (takes_of rfl rfl rfl rfl) σ) (pa_cons (pv 0) (pa_cons (pe_callB call_lenX (by rfl) T.b_len bt_len (pa_cons (pv 1) pa_nil)) pa_nil))) (fun _ _ => rfl)))
      (pss_one (ps_ret (pe_lst (pa_cons (pe_tup (pa_cons pe_str (pa_cons (pv 7) pa_nil))) (pa_cons (pe_lst (pa_cons (pv 7) pa_nil)) pa_nil)))))))))
theorem ok_l_grown (T : Txt K mg) : ∀ n, FnOk P w K mg base (L2.CX P w) (n + 5) T.f_l_grown T.d_l_grown ["_law_pool_here", "_law_names", "_law_depth"] (spM K (cvT T) (m_l_grown n))
  | 0 => fn_stuck
  | n + 1 => fn_l_grown (k := n + 5) T (ok_l_draw T) (by omega) (ok_l_grown T n) (by omega) (ok_l_literal T) (by omega)
theorem okn_l_grown (T : Txt K mg) : FnOk P w K mg base (L2.CX P w) 13 T.f_l_grown T.d_l_grown ["_law_pool_here", "_law_names", "_law_depth"] (spM K (cvT T) (m_l_grown 8)) := ok_l_grown T 8
def rd_l_kind {K : PySem.W.Frag} {mg : Str → Option Value} (T : Txt K mg) (W : WX) : TS :=
    (tSeq (tIfS (tTest (tOp (rEqX K) (tCallS (spM K (cvT T) m_l_draw) (WE W) (tCons (tVar 0) (tCons (tC (.int 2)) tNil))) (tC (.int 0)))) (tRet (tC .non)) tNext)
    (tRet (tOp (rIxD K) (tCallS (spM K (cvT T) m_l_kinds) (WE W) tNil) (tCallS (spM K (cvT T) m_l_draw) (WE W) (tCons (tVar 0) (tCons (tC (.int 7)) tNil))))))
theorem sim_l_kind {K : PySem.W.Frag} {mg : Str → Option Value} (T : Txt K mg) (W : WX) : SS (bC K W (cvT T) 1 []) (rd_l_kind T W) (mb_l_kind) := by
  unfold rd_l_kind mb_l_kind
  exact (ss_seq (ss_if (st_test (se_op p_eq (se_callS (sa_cons (se_var 0) (sa_cons (se_c (.int 2)) sa_nil))) (se_c (.int 0)))) (ss_ret (se_c .non)) ss_next)
    (ss_ret (se_op p_ix (se_callS sa_nil) (se_callS (sa_cons (se_var 0) (sa_cons (se_c (.int 7)) sa_nil))))))
theorem fn_l_kind (T : Txt K mg) {k : Nat} {k_l_draw : Nat} (G_l_draw : FnOk P w K mg base (L2.CX P w) k_l_draw T.f_l_draw T.d_l_draw ["_law_pool_here", "_law_limit"] (spM K (cvT T) m_l_draw)) (h_l_draw : k_l_draw ≤ k) {k_l_kinds : Nat} (G_l_kinds : FnOk P w K mg base (L2.CX P w) k_l_kinds T.f_l_kinds T.d_l_kinds [] (spM K (cvT T) m_l_kinds)) (h_l_kinds : k_l_kinds ≤ k) : FnOk P w K mg base (L2.CX P w) (k + 1) T.f_l_kind T.d_l_kind ["_law_pool_here"] (spM K (cvT T) (mFun 1 0 [] (mb_l_kind))) := by
  refine T.F_l_kind.okX sc_l_kind (fun vs H Q E h => spM_len vs H Q E h) (fun cdv A outer s H vs Q E hr h0 => ⟨rd_l_kind T (fun c o _ H => E c o H), ?_, body_mir (np := 1) (nl := 0) rfl (sim_l_kind T _) h0⟩)
  exact (pss_cons (ps_if (pt_cmpR (op_eqX hr.units) (pe_callS G_l_draw (hr.mono h_l_draw) rfl T.g_l_draw T.F_l_draw.kp T.b_l_draw (fun σ => passAt (takes_of rfl rfl rfl rfl) σ) (pa_cons (pv 0) (pa_cons pe_int pa_nil))) pe_int (nomark _)) (pss_one (ps_ret pe_non)) pss_nil)
      (pss_one (ps_ret (pe_ix (ix_D hr.units) (pe_callS0 G_l_kinds (hr.mono h_l_kinds) rfl T.g_l_kinds T.F_l_kinds.kp T.b_l_kinds (fun σ => passAt (takes_of rfl rfl rfl rfl) σ)) (pe_callS G_l_draw (hr.mono h_l_draw) rfl T.g_l_draw T.F_l_draw.kp T.b_l_draw (fun σ => passAt (takes_of rfl rfl rfl rfl) σ) (pa_cons (pv 0) (pa_cons pe_int pa_nil))) (fun _ _ => rfl)))))
theorem ok_l_kind (T : Txt K mg) : FnOk P w K mg base (L2.CX P w) 3 T.f_l_kind T.d_l_kind ["_law_pool_here"] (spM K (cvT T) m_l_kind) := fn_l_kind (k := 2) T (ok_l_draw T) (by omega) (ok_l_kinds T) (by omega)
def rd_l_plain_rows {K : PySem.W.Frag} {mg : Str → Option Value} (T : Txt K mg) (W : WX) : TS :=
    (tSeq (tAsg (tOp (rIxD K) (tCallS (spM K (cvT T) m_l_kinds) (WE W) tNil) (tCallS (spM K (cvT T) m_l_draw) (WE W) (tCons (tVar 0) (tCons (tC (.int 7)) tNil)))) (gName 5))
    (tSeq (tAsg (tOp (rIxD K) (tLst (tCons (tC (.str "done")) (tCons (tC (.str "fail")) (tCons (tC (.str "always")) tNil)))) (tCallS (spM K (cvT T) m_l_draw) (WE W) (tCons (tVar 0) (tCons (tC (.int 3)) tNil)))) (gName 6))
    (tSeq (tAsg (tTup (tCons (tTup (tCons (tC (.str "set")) (tCons (tVar 3) (tCons (tTup (tCons (tC (.str "name")) (tCons (tVar 2) tNil))) tNil)))) (tCons (tTup (tCons (tC (.str "call")) (tCons (tVar 3) (tCons (tVar 4) (tCons (tTup (tCons (tTup (tCons (tC (.str "lent")) (tCons (tVar 2) tNil))) (tCons (tTup (tCons (tC (.str "worth")) (tCons (tTup (tCons (tC (.str "name")) (tCons (tVar 3) tNil))) tNil))) tNil))) tNil))))) tNil))) (gName 7))
    (tSeq (tAsg (tTup (tCons (tC (.str "sub")) (tCons (tTup (tCons (tC (.str "name")) (tCons (tOp (rIxD K) (tVar 1) (tC (.int 0))) tNil))) (tCons (tTup (tCons (tC (.str "add")) (tCons (tTup (tCons (tC (.str "name")) (tCons (tOp (rIxD K) (tVar 1) (tC (.int 1))) tNil))) (tCons (tTup (tCons (tC (.str "name")) (tCons (tOp (rIxD K) (tVar 1) (tC (.int 1))) tNil))) tNil)))) tNil)))) (gName 8))
    (tSeq (tAsg (tLst (tCons (tLst (tCons (tTup (tCons (tC (.str "print")) (tCons (tVar 8) tNil))) (tCons (tLst (tCons (tOp (rIxD K) (tVar 1) (tC (.int 0))) (tCons (tOp (rIxD K) (tVar 1) (tC (.int 1))) (tCons (tOp (rIxD K) (tVar 1) (tC (.int 1))) tNil)))) (tCons (tLst tNil) (tCons (tLst tNil) tNil))))) tNil)) (gName 9))
    (tSeq (tDrop (tBM K "list" rAppend (tVar 9) (tCons (tLst (tCons (tTup (tCons (tC (.str "return")) (tCons (tTup (tCons (tC (.str "same")) (tCons (tTup (tCons (tC (.str "lit")) (tCons (tSl (rSlX K) (tOp (rIxD K) (tVar 1) (tC (.int 0))) tNoPart (tPart (tC (.int 1)))) tNil))) (tCons (tTup (tCons (tC (.str "name")) (tCons (tVar 2) tNil))) tNil)))) tNil))) (tCons (tLst (tCons (tVar 2) tNil)) (tCons (tLst tNil) (tCons (tLst tNil) tNil))))) tNil)))
    (tSeq (tDrop (tBM K "list" rAppend (tVar 9) (tCons (tLst (tCons (tTup (tCons (tC (.str "ask")) (tCons (tVar 3) tNil))) (tCons (tLst tNil) (tCons (tLst (tCons (tVar 3) tNil)) (tCons (tLst tNil) tNil))))) tNil)))
    (tSeq (tDrop (tBM K "list" rAppend (tVar 9) (tCons (tLst (tCons (tTup (tCons (tC (.str "wait")) (tCons (tVar 2) (tCons (tVar 4) tNil)))) (tCons (tLst tNil) (tCons (tLst (tCons (tVar 2) tNil)) (tCons (tLst tNil) tNil))))) tNil)))
    (tSeq (tDrop (tBM K "list" rAppend (tVar 9) (tCons (tLst (tCons (tTup (tCons (tC (.str "wait")) (tCons (tC .non) (tCons (tVar 4) tNil)))) (tCons (tLst tNil) (tCons (tLst tNil) (tCons (tLst tNil) tNil))))) tNil)))
    (tSeq (tDrop (tBM K "list" rAppend (tVar 9) (tCons (tLst (tCons (tTup (tCons (tC (.str "narrow")) (tCons (tVar 2) (tCons (tVar 5) tNil)))) (tCons (tLst (tCons (tVar 2) tNil)) (tCons (tLst tNil) (tCons (tLst tNil) tNil))))) tNil)))
    (tSeq (tDrop (tBM K "list" rAppend (tVar 9) (tCons (tLst (tCons (tTup (tCons (tC (.str "loop")) (tCons (tOp (rAddD K) (tC (.int 1)) (tCallS (spM K (cvT T) m_l_draw) (WE W) (tCons (tVar 0) (tCons (tC (.int 3)) tNil)))) (tCons (tVar 7) tNil)))) (tCons (tLst tNil) (tCons (tLst tNil) (tCons (tLst tNil) tNil))))) tNil)))
    (tSeq (tAsg (tCallS (spM K (cvT T) (m_l_grown 8)) (WE W) (tCons (tVar 0) (tCons (tVar 1) (tCons (tC (.int 3)) tNil)))) (gName 10))
    (tSeq (tDrop (tBM K "list" rAppend (tVar 9) (tCons (tLst (tCons (tTup (tCons (tC (.str "let")) (tCons (tVar 4) (tCons (tCallS (spM K (cvT T) m_l_kind) (WE W) (tCons (tVar 0) tNil)) (tCons (tOp (rIxD K) (tVar 10) (tC (.int 0))) tNil))))) (tCons (tOp (rIxD K) (tVar 10) (tC (.int 1))) (tCons (tLst tNil) (tCons (tLst tNil) tNil))))) tNil)))
    (tSeq (tAsg (tCallS (spM K (cvT T) (m_l_grown 8)) (WE W) (tCons (tVar 0) (tCons (tVar 1) (tCons (tC (.int 3)) tNil)))) (gName 10))
    (tSeq (tDrop (tBM K "list" rAppend (tVar 9) (tCons (tLst (tCons (tTup (tCons (tC (.str "set")) (tCons (tVar 2) (tCons (tOp (rIxD K) (tVar 10) (tC (.int 0))) tNil)))) (tCons (tOp (rIxD K) (tVar 10) (tC (.int 1))) (tCons (tLst (tCons (tVar 2) tNil)) (tCons (tLst tNil) tNil))))) tNil)))
    (tSeq (tAsg (tCallS (spM K (cvT T) (m_l_grown 8)) (WE W) (tCons (tVar 0) (tCons (tVar 1) (tCons (tC (.int 3)) tNil)))) (gName 10))
    (tSeq (tDrop (tBM K "list" rAppend (tVar 9) (tCons (tLst (tCons (tTup (tCons (tC (.str "print")) (tCons (tOp (rIxD K) (tVar 10) (tC (.int 0))) tNil))) (tCons (tOp (rIxD K) (tVar 10) (tC (.int 1))) (tCons (tLst tNil) (tCons (tLst tNil) tNil))))) tNil)))
    (tSeq (tAsg (tCallS (spM K (cvT T) (m_l_grown 8)) (WE W) (tCons (tVar 0) (tCons (tVar 1) (tCons (tC (.int 3)) tNil)))) (gName 10))
    (tSeq (tDrop (tBM K "list" rAppend (tVar 9) (tCons (tLst (tCons (tTup (tCons (tC (.str "return")) (tCons (tOp (rIxD K) (tVar 10) (tC (.int 0))) tNil))) (tCons (tOp (rIxD K) (tVar 10) (tC (.int 1))) (tCons (tLst tNil) (tCons (tLst tNil) tNil))))) tNil)))
    (tSeq (tAsg (tCallS (spM K (cvT T) (m_l_grown 8)) (WE W) (tCons (tVar 0) (tCons (tVar 1) (tCons (tC (.int 3)) tNil)))) (gName 10))
    (tSeq (tDrop (tBM K "list" rAppend (tVar 9) (tCons (tLst (tCons (tTup (tCons (tC (.str "if")) (tCons (tOp (rIxD K) (tVar 10) (tC (.int 0))) (tCons (tVar 7) (tCons (tSl (rSlX K) (tVar 7) (tPart (tC (.int 1))) tNoPart) tNil))))) (tCons (tOp (rIxD K) (tVar 10) (tC (.int 1))) (tCons (tLst tNil) (tCons (tLst tNil) tNil))))) tNil)))
    (tSeq (tAsg (tCallS (spM K (cvT T) (m_l_grown 8)) (WE W) (tCons (tVar 0) (tCons (tVar 1) (tCons (tC (.int 1)) tNil)))) (gName 10))
    (tSeq (tDrop (tBM K "list" rAppend (tVar 9) (tCons (tLst (tCons (tTup (tCons (tC (.str "defer")) (tCons (tVar 6) (tCons (tTup (tCons (tC (.str "print")) (tCons (tOp (rIxD K) (tVar 10) (tC (.int 0))) tNil))) tNil)))) (tCons (tOp (rIxD K) (tVar 10) (tC (.int 1))) (tCons (tLst tNil) (tCons (tLst tNil) tNil))))) tNil)))
    (tSeq (tDrop (tBM K "list" rAppend (tVar 9) (tCons (tLst (tCons (tTup (tCons (tC (.str "defer")) (tCons (tVar 6) (tCons (tTup (tCons (tC (.str "set")) (tCons (tVar 3) (tCons (tOp (rIxD K) (tVar 10) (tC (.int 0))) tNil)))) tNil)))) (tCons (tOp (rIxD K) (tVar 10) (tC (.int 1))) (tCons (tLst (tCons (tVar 3) tNil)) (tCons (tLst tNil) tNil))))) tNil)))
    (tRet (tVar 9))))))))))))))))))))))))))
theorem sim_l_plain_rows {K : PySem.W.Frag} {mg : Str → Option Value} (T : Txt K mg) (W : WX) : SS (bC K W (cvT T) 5 []) (rd_l_plain_rows T W) (mb_l_plain_rows) := by
  unfold rd_l_plain_rows mb_l_plain_rows
  exact (ss_seq (ss_asg (se_op p_ix (se_callS sa_nil) (se_callS (sa_cons (se_var 0) (sa_cons (se_c (.int 7)) sa_nil)))) (sg_name rfl))
    (ss_seq (ss_asg (se_op p_ix (se_lst (sa_cons (se_cs (by decide +kernel)) (sa_cons (se_cs (by decide +kernel)) (sa_cons (se_cs (by decide +kernel)) sa_nil)))) (se_callS (sa_cons (se_var 0) (sa_cons (se_c (.int 3)) sa_nil)))) (sg_name rfl))
    (ss_seq (ss_asg (se_tup (sa_cons (se_tup (sa_cons (se_cs (by decide +kernel)) (sa_cons (se_var 3) (sa_cons (se_tup (sa_cons (se_cs (by decide +kernel)) (sa_cons (se_var 2) sa_nil))) sa_nil)))) (sa_cons (se_tup (sa_cons (se_cs (by decide +kernel)) (sa_cons (se_var 3) (sa_cons (se_var 4) (sa_cons (se_tup (sa_cons (se_tup (sa_cons (se_cs (by decide +kernel)) (sa_cons (se_var 2) sa_nil))) (sa_cons (se_tup (sa_cons (se_cs (by decide +kernel)) (sa_cons (se_tup (sa_cons (se_cs (by decide +kernel)) (sa_cons (se_var 3) sa_nil))) sa_nil))) sa_nil))) sa_nil))))) sa_nil))) (sg_name rfl))
    (ss_seq (ss_asg (se_tup (sa_cons (se_cs (by decide +kernel)) (sa_cons (se_tup (sa_cons (se_cs (by decide +kernel)) (sa_cons (se_op p_ix (se_var 1) (se_c (.int 0))) sa_nil))) (sa_cons (se_tup (sa_cons (se_cs (by decide +kernel)) (sa_cons (se_tup (sa_cons (se_cs (by decide +kernel)) (sa_cons (se_op p_ix (se_var 1) (se_c (.int 1))) sa_nil))) (sa_cons (se_tup (sa_cons (se_cs (by decide +kernel)) (sa_cons (se_op p_ix (se_var 1) (se_c (.int 1))) sa_nil))) sa_nil)))) sa_nil)))) (sg_name rfl))
    (ss_seq (ss_asg (se_lst (sa_cons (se_lst (sa_cons (se_tup (sa_cons (se_cs (by decide +kernel)) (sa_cons (se_var 8) sa_nil))) (sa_cons (se_lst (sa_cons (se_op p_ix (se_var 1) (se_c (.int 0))) (sa_cons (se_op p_ix (se_var 1) (se_c (.int 1))) (sa_cons (se_op p_ix (se_var 1) (se_c (.int 1))) sa_nil)))) (sa_cons (se_lst sa_nil) (sa_cons (se_lst sa_nil) sa_nil))))) sa_nil)) (sg_name rfl))
    (ss_seq (ss_drop (se_app (se_lst (sa_cons (se_tup (sa_cons (se_cs (by decide +kernel)) (sa_cons (se_tup (sa_cons (se_cs (by decide +kernel)) (sa_cons (se_tup (sa_cons (se_cs (by decide +kernel)) (sa_cons (se_sl p_sl (se_op p_ix (se_var 1) (se_c (.int 0))) so_none (so_part (se_c (.int 1)))) sa_nil))) (sa_cons (se_tup (sa_cons (se_cs (by decide +kernel)) (sa_cons (se_var 2) sa_nil))) sa_nil)))) sa_nil))) (sa_cons (se_lst (sa_cons (se_var 2) sa_nil)) (sa_cons (se_lst sa_nil) (sa_cons (se_lst sa_nil) sa_nil)))))))
    (ss_seq (ss_drop (se_app (se_lst (sa_cons (se_tup (sa_cons (se_cs (by decide +kernel)) (sa_cons (se_var 3) sa_nil))) (sa_cons (se_lst sa_nil) (sa_cons (se_lst (sa_cons (se_var 3) sa_nil)) (sa_cons (se_lst sa_nil) sa_nil)))))))
    (ss_seq (ss_drop (se_app (se_lst (sa_cons (se_tup (sa_cons (se_cs (by decide +kernel)) (sa_cons (se_var 2) (sa_cons (se_var 4) sa_nil)))) (sa_cons (se_lst sa_nil) (sa_cons (se_lst (sa_cons (se_var 2) sa_nil)) (sa_cons (se_lst sa_nil) sa_nil)))))))
    (ss_seq (ss_drop (se_app (se_lst (sa_cons (se_tup (sa_cons (se_cs (by decide +kernel)) (sa_cons (se_c .non) (sa_cons (se_var 4) sa_nil)))) (sa_cons (se_lst sa_nil) (sa_cons (se_lst sa_nil) (sa_cons (se_lst sa_nil) sa_nil)))))))
    (ss_seq (ss_drop (se_app (se_lst (sa_cons (se_tup (sa_cons (se_cs (by decide +kernel)) (sa_cons (se_var 2) (sa_cons (se_var 5) sa_nil)))) (sa_cons (se_lst (sa_cons (se_var 2) sa_nil)) (sa_cons (se_lst sa_nil) (sa_cons (se_lst sa_nil) sa_nil)))))))
    (ss_seq (ss_drop (se_app (se_lst (sa_cons (se_tup (sa_cons (se_cs (by decide +kernel)) (sa_cons (se_op p_add (se_c (.int 1)) (se_callS (sa_cons (se_var 0) (sa_cons (se_c (.int 3)) sa_nil)))) (sa_cons (se_var 7) sa_nil)))) (sa_cons (se_lst sa_nil) (sa_cons (se_lst sa_nil) (sa_cons (se_lst sa_nil) sa_nil)))))))
    (ss_seq (ss_asg (se_callS (sa_cons (se_var 0) (sa_cons (se_var 1) (sa_cons (se_c (.int 3)) sa_nil)))) (sg_name rfl))
    (ss_seq (ss_drop (se_app (se_lst (sa_cons (se_tup (sa_cons (se_cs (by decide +kernel)) (sa_cons (se_var 4) (sa_cons (se_callS (sa_cons (se_var 0) sa_nil)) (sa_cons (se_op p_ix (se_var 10) (se_c (.int 0))) sa_nil))))) (sa_cons (se_op p_ix (se_var 10) (se_c (.int 1))) (sa_cons (se_lst sa_nil) (sa_cons (se_lst sa_nil) sa_nil)))))))
    (ss_seq (ss_asg (se_callS (sa_cons (se_var 0) (sa_cons (se_var 1) (sa_cons (se_c (.int 3)) sa_nil)))) (sg_name rfl))
    (ss_seq (ss_drop (se_app (se_lst (sa_cons (se_tup (sa_cons (se_cs (by decide +kernel)) (sa_cons (se_var 2) (sa_cons (se_op p_ix (se_var 10) (se_c (.int 0))) sa_nil)))) (sa_cons (se_op p_ix (se_var 10) (se_c (.int 1))) (sa_cons (se_lst (sa_cons (se_var 2) sa_nil)) (sa_cons (se_lst sa_nil) sa_nil)))))))
    (ss_seq (ss_asg (se_callS (sa_cons (se_var 0) (sa_cons (se_var 1) (sa_cons (se_c (.int 3)) sa_nil)))) (sg_name rfl))
    (ss_seq (ss_drop (se_app (se_lst (sa_cons (se_tup (sa_cons (se_cs (by decide +kernel)) (sa_cons (se_op p_ix (se_var 10) (se_c (.int 0))) sa_nil))) (sa_cons (se_op p_ix (se_var 10) (se_c (.int 1))) (sa_cons (se_lst sa_nil) (sa_cons (se_lst sa_nil) sa_nil)))))))
    (ss_seq (ss_asg (se_callS (sa_cons (se_var 0) (sa_cons (se_var 1) (sa_cons (se_c (.int 3)) sa_nil)))) (sg_name rfl))
    (ss_seq (ss_drop (se_app (se_lst (sa_cons (se_tup (sa_cons (se_cs (by decide +kernel)) (sa_cons (se_op p_ix (se_var 10) (se_c (.int 0))) sa_nil))) (sa_cons (se_op p_ix (se_var 10) (se_c (.int 1))) (sa_cons (se_lst sa_nil) (sa_cons (se_lst sa_nil) sa_nil)))))))
    (ss_seq (ss_asg (se_callS (sa_cons (se_var 0) (sa_cons (se_var 1) (sa_cons (se_c (.int 3)) sa_nil)))) (sg_name rfl))
    (ss_seq (ss_drop (se_app (se_lst (sa_cons (se_tup (sa_cons (se_cs (by decide +kernel)) (sa_cons (se_op p_ix (se_var 10) (se_c (.int 0))) (sa_cons (se_var 7) (sa_cons (se_sl p_sl (se_var 7) (so_part (se_c (.int 1))) so_none) sa_nil))))) (sa_cons (se_op p_ix (se_var 10) (se_c (.int 1))) (sa_cons (se_lst sa_nil) (sa_cons (se_lst sa_nil) sa_nil)))))))
    (ss_seq (ss_asg (se_callS (sa_cons (se_var 0) (sa_cons (se_var 1) (sa_cons (se_c (.int 1)) sa_nil)))) (sg_name rfl))
    (ss_seq (ss_drop (se_app (se_lst (sa_cons (se_tup (sa_cons (se_cs (by decide +kernel)) (sa_cons (se_var 6) (sa_cons (se_tup (sa_cons (se_cs (by decide +kernel)) (sa_cons (se_op p_ix (se_var 10) (se_c (.int 0))) sa_nil))) sa_nil)))) (sa_cons (se_op p_ix (se_var 10) (se_c (.int 1))) (sa_cons (se_lst sa_nil) (sa_cons (se_lst sa_nil) sa_nil)))))))
    (ss_seq (ss_drop (se_app (se_lst (sa_cons (se_tup (sa_cons (se_cs (by decide +kernel)) (sa_cons (se_var 6) (sa_cons (se_tup (sa_cons (se_cs (by decide +kernel)) (sa_cons (se_var 3) (sa_cons (se_op p_ix (se_var 10) (se_c (.int 0))) sa_nil)))) sa_nil)))) (sa_cons (se_op p_ix (se_var 10) (se_c (.int 1))) (sa_cons (se_lst (sa_cons (se_var 3) sa_nil)) (sa_cons (se_lst sa_nil) sa_nil)))))))
    (ss_ret (se_var 9))))))))))))))))))))))))))
theorem fn_l_plain_rows (T : Txt K mg) {k : Nat} {k_l_kinds : Nat} (G_l_kinds : FnOk P w K mg base (L2.CX P w) k_l_kinds T.f_l_kinds T.d_l_kinds [] (spM K (cvT T) m_l_kinds)) (h_l_kinds : k_l_kinds ≤ k) {k_l_draw : Nat} (G_l_draw : FnOk P w K mg base (L2.CX P w) k_l_draw T.f_l_draw T.d_l_draw ["_law_pool_here", "_law_limit"] (spM K (cvT T) m_l_draw)) (h_l_draw : k_l_draw ≤ k) {k_l_grown : Nat} (G_l_grown : FnOk P w K mg base (L2.CX P w) k_l_grown T.f_l_grown T.d_l_grown ["_law_pool_here", "_law_names", "_law_depth"] (spM K (cvT T) (m_l_grown 8))) (h_l_grown : k_l_grown ≤ k) {k_l_kind : Nat} (G_l_kind : FnOk P w K mg base (L2.CX P w) k_l_kind T.f_l_kind T.d_l_kind ["_law_pool_here"] (spM K (cvT T) m_l_kind)) (h_l_kind : k_l_kind ≤ k) : FnOk P w K mg base (L2.CX P w) (k + 1) T.f_l_plain_rows T.d_l_plain_rows ["_law_pool_here", "_law_names", "_law_x", "_law_y", "_law_own"] (spM K (cvT T) (mFun 5 6 [] (mb_l_plain_rows))) := by
  refine T.F_l_plain_rows.okX sc_l_plain_rows (fun vs H Q E h => spM_len vs H Q E h) (fun cdv A outer s H vs Q E hr h0 => ⟨rd_l_plain_rows T (fun c o _ H => E c o H), ?_, body_mir (np := 5) (nl := 6) rfl (sim_l_plain_rows T _) h0⟩)
  exact (pss_cons (sset 5 sc_l_plain_rows.nd (pe_ix (ix_D hr.units) (pe_callS0 G_l_kinds (hr.mono h_l_kinds) rfl T.g_l_kinds T.F_l_kinds.kp T.b_l_kinds (fun σ => passAt (takes_of rfl rfl rfl rfl) σ)) (pe_callS G_l_draw (hr.mono h_l_draw) rfl T.g_l_draw T.F_l_draw.kp T.b_l_draw (fun σ => passAt (takes_of rfl rfl rfl rfl) σ) (pa_cons (pv 0) (pa_cons pe_int pa_nil))) (fun _ _ => rfl)))
      (pss_cons (sset 6 sc_l_plain_rows.nd (pe_ix (ix_D hr.units) (pe_lst (pa_cons pe_str (pa_cons pe_str (pa_cons pe_str pa_nil)))) (pe_callS G_l_draw (hr.mono h_l_draw) rfl T.g_l_draw T.F_l_draw.kp T.b_l_draw (fun σ => passAt (takes_of rfl rfl rfl rfl) σ) (pa_cons (pv 0) (pa_cons pe_int pa_nil))) (fun _ _ => rfl)))
      (pss_cons (sset 7 sc_l_plain_rows.nd (pe_tup (pa_cons (pe_tup (pa_cons pe_str (pa_cons (pv 3) (pa_cons (pe_tup (pa_cons pe_str (pa_cons (pv 2) pa_nil))) pa_nil)))) (pa_cons (pe_tup (pa_cons pe_str (pa_cons (pv 3) (pa_cons (pv 4) (pa_cons (pe_tup (pa_cons (pe_tup (pa_cons pe_str (pa_cons (pv 2) pa_nil))) (pa_cons (pe_tup (pa_cons pe_str (pa_cons (pe_tup (pa_cons pe_str (pa_cons (pv 3) pa_nil))) pa_nil))) pa_nil))) pa_nil))))) pa_nil))))
      (pss_cons (sset 8 sc_l_plain_rows.nd (pe_tup (pa_cons pe_str (pa_cons (pe_tup (pa_cons pe_str (pa_cons (pe_ix (ix_D hr.units) (pv 1) pe_int (fun _ _ => rfl)) pa_nil))) (pa_cons (pe_tup (pa_cons pe_str (pa_cons (pe_tup (pa_cons pe_str (pa_cons (pe_ix (ix_D hr.units) (pv 1) pe_int (fun _ _ => rfl)) pa_nil))) (pa_cons (pe_tup (pa_cons pe_str (pa_cons (pe_ix (ix_D hr.units) (pv 1) pe_int (fun _ _ => rfl)) pa_nil))) pa_nil)))) pa_nil)))))
      (pss_cons (sset 9 sc_l_plain_rows.nd (pe_lst (pa_cons (pe_lst (pa_cons (pe_tup (pa_cons pe_str (pa_cons (pv 8) pa_nil))) (pa_cons (pe_lst (pa_cons (pe_ix (ix_D hr.units) (pv 1) pe_int (fun _ _ => rfl)) (pa_cons (pe_ix (ix_D hr.units) (pv 1) pe_int (fun _ _ => rfl)) (pa_cons (pe_ix (ix_D hr.units) (pv 1) pe_int (fun _ _ => rfl)) pa_nil)))) (pa_cons (pe_lst pa_nil) (pa_cons (pe_lst pa_nil) pa_nil))))) pa_nil)))
      (pss_cons (ps_expr (pe_bm PySem.F.plainAttrs_list PySem.F.slot_list_append PySem.F.type_list_append mt_append (pv 9) (pa_cons (pe_lst (pa_cons (pe_tup (pa_cons pe_str (pa_cons (pe_tup (pa_cons pe_str (pa_cons (pe_tup (pa_cons pe_str (pa_cons (pe_slice sl_X (pe_ix (ix_D hr.units) (pv 1) pe_int (fun _ _ => rfl)) po_none (po_some pe_int)) pa_nil))) (pa_cons (pe_tup (pa_cons pe_str (pa_cons (pv 2) pa_nil))) pa_nil)))) pa_nil))) (pa_cons (pe_lst (pa_cons (pv 2) pa_nil)) (pa_cons (pe_lst pa_nil) (pa_cons (pe_lst pa_nil) pa_nil))))) pa_nil)))
      (pss_cons (ps_expr (pe_bm PySem.F.plainAttrs_list PySem.F.slot_list_append PySem.F.type_list_append mt_append (pv 9) (pa_cons (pe_lst (pa_cons (pe_tup (pa_cons pe_str (pa_cons (pv 3) pa_nil))) (pa_cons (pe_lst pa_nil) (pa_cons (pe_lst (pa_cons (pv 3) pa_nil)) (pa_cons (pe_lst pa_nil) pa_nil))))) pa_nil)))
      (pss_cons (ps_expr (pe_bm PySem.F.plainAttrs_list PySem.F.slot_list_append PySem.F.type_list_append mt_append (pv 9) (pa_cons (pe_lst (pa_cons (pe_tup (pa_cons pe_str (pa_cons (pv 2) (pa_cons (pv 4) pa_nil)))) (pa_cons (pe_lst pa_nil) (pa_cons (pe_lst (pa_cons (pv 2) pa_nil)) (pa_cons (pe_lst pa_nil) pa_nil))))) pa_nil)))
      (pss_cons (ps_expr (pe_bm PySem.F.plainAttrs_list PySem.F.slot_list_append PySem.F.type_list_append mt_append (pv 9) (pa_cons (pe_lst (pa_cons (pe_tup (pa_cons pe_str (pa_cons pe_non (pa_cons (pv 4) pa_nil)))) (pa_cons (pe_lst pa_nil) (pa_cons (pe_lst pa_nil) (pa_cons (pe_lst pa_nil) pa_nil))))) pa_nil)))
      (pss_cons (ps_expr (pe_bm PySem.F.plainAttrs_list PySem.F.slot_list_append PySem.F.type_list_append mt_append (pv 9) (pa_cons (pe_lst (pa_cons (pe_tup (pa_cons pe_str (pa_cons (pv 2) (pa_cons (pv 5) pa_nil)))) (pa_cons (pe_lst (pa_cons (pv 2) pa_nil)) (pa_cons (pe_lst pa_nil) (pa_cons (pe_lst pa_nil) pa_nil))))) pa_nil)))
      (pss_cons (ps_expr (pe_bm PySem.F.plainAttrs_list PySem.F.slot_list_append PySem.F.type_list_append mt_append (pv 9) (pa_cons (pe_lst (pa_cons (pe_tup (pa_cons pe_str (pa_cons (pe_op op_addD pe_int (pe_callS G_l_draw (hr.mono h_l_draw) rfl T.g_l_draw T.F_l_draw.kp T.b_l_draw (fun σ => passAt (takes_of rfl rfl rfl rfl) σ) (pa_cons (pv 0) (pa_cons pe_int pa_nil)))) (pa_cons (pv 7) pa_nil)))) (pa_cons (pe_lst pa_nil) (pa_cons (pe_lst pa_nil) (pa_cons (pe_lst pa_nil) pa_nil))))) pa_nil)))
      (pss_cons (sset 10 sc_l_plain_rows.nd (pe_callS G_l_grown (hr.mono h_l_grown) rfl T.g_l_grown T.F_l_grown.kp T.b_l_grown (fun σ => passAt (takes_of rfl rfl rfl rfl) σ) (pa_cons (pv 0) (pa_cons (pv 1) (pa_cons pe_int pa_nil)))))
      (pss_cons (ps_expr (pe_bm PySem.F.plainAttrs_list PySem.F.slot_list_append PySem.F.type_list_append mt_append (pv 9) (pa_cons (pe_lst (pa_cons (pe_tup (pa_cons pe_str (pa_cons (pv 4) (pa_cons (pe_callS G_l_kind (hr.mono h_l_kind) rfl T.g_l_kind T.F_l_kind.kp T.b_l_kind (fun σ => passAt (takes_of rfl rfl rfl rfl) σ) (pa_cons (pv 0) pa_nil)) (pa_cons (pe_ix (ix_D hr.units) (pv 10) pe_int (fun _ _ => rfl)) pa_nil))))) (pa_cons (pe_ix (ix_D hr.units) (pv 10) pe_int (fun _ _ => rfl)) (pa_cons (pe_lst pa_nil) (pa_cons (pe_lst pa_nil) pa_nil))))) pa_nil)))
      (pss_cons (sset 10 sc_l_plain_rows.nd (pe_callS G_l_grown (hr.mono h_l_grown) rfl T.g_l_grown T.F_l_grown.kp T.b_l_grown (fun σ => passAt (takes_of rfl rfl rfl rfl) σ) (pa_cons (pv 0) (pa_cons (pv 1) (pa_cons pe_int pa_nil)))))
      (pss_cons (ps_expr (pe_bm PySem.F.plainAttrs_list PySem.F.slot_list_append PySem.F.type_list_append mt_append (pv 9) (pa_cons (pe_lst (pa_cons (pe_tup (pa_cons pe_str (pa_cons (pv 2) (pa_cons (pe_ix (ix_D hr.units) (pv 10) pe_int (fun _ _ => rfl)) pa_nil)))) (pa_cons (pe_ix (ix_D hr.units) (pv 10) pe_int (fun _ _ => rfl)) (pa_cons (pe_lst (pa_cons (pv 2) pa_nil)) (pa_cons (pe_lst pa_nil) pa_nil))))) pa_nil)))
      (pss_cons (sset 10 sc_l_plain_rows.nd (pe_callS G_l_grown (hr.mono h_l_grown) rfl T.g_l_grown T.F_l_grown.kp T.b_l_grown (fun σ => passAt (takes_of rfl rfl rfl rfl) σ) (pa_cons (pv 0) (pa_cons (pv 1) (pa_cons pe_int pa_nil)))))
      (pss_cons (ps_expr (pe_bm PySem.F.plainAttrs_list PySem.F.slot_list_append PySem.F.type_list_append mt_append (pv 9) (pa_cons (pe_lst (pa_cons (pe_tup (pa_cons pe_str (pa_cons (pe_ix (ix_D hr.units) (pv 10) pe_int (fun _ _ => rfl)) pa_nil))) (pa_cons (pe_ix (ix_D hr.units) (pv 10) pe_int (fun _ _ => rfl)) (pa_cons (pe_lst pa_nil) (pa_cons (pe_lst pa_nil) pa_nil))))) pa_nil)))
      (pss_cons (sset 10 sc_l_plain_rows.nd (pe_callS G_l_grown (hr.mono h_l_grown) rfl T.g_l_grown T.F_l_grown.kp T.b_l_grown (fun σ => passAt (takes_of rfl rfl rfl rfl) σ) (pa_cons (pv 0) (pa_cons (pv 1) (pa_cons pe_int pa_nil)))))
      (pss_cons (ps_expr (pe_bm PySem.F.plainAttrs_list PySem.F.slot_list_append PySem.F.type_list_append mt_append (pv 9) (pa_cons (pe_lst (pa_cons (pe_tup (pa_cons pe_str (pa_cons (pe_ix (ix_D hr.units) (pv 10) pe_int (fun _ _ => rfl)) pa_nil))) (pa_cons (pe_ix (ix_D hr.units) (pv 10) pe_int (fun _ _ => rfl)) (pa_cons (pe_lst pa_nil) (pa_cons (pe_lst pa_nil) pa_nil))))) pa_nil)))
      (pss_cons (sset 10 sc_l_plain_rows.nd (pe_callS G_l_grown (hr.mono h_l_grown) rfl T.g_l_grown T.F_l_grown.kp T.b_l_grown (fun σ => passAt (takes_of rfl rfl rfl rfl) σ) (pa_cons (pv 0) (pa_cons (pv 1) (pa_cons pe_int pa_nil)))))
      (pss_cons (ps_expr (pe_bm PySem.F.plainAttrs_list PySem.F.slot_list_append PySem.F.type_list_append mt_append (pv 9) (pa_cons (pe_lst (pa_cons (pe_tup (pa_cons pe_str (pa_cons (pe_ix (ix_D hr.units) (pv 10) pe_int (fun _ _ => rfl)) (pa_cons (pv 7) (pa_cons (pe_slice sl_X (pv 7) (po_some pe_int) po_none) pa_nil))))) (pa_cons (pe_ix (ix_D hr.units) (pv 10) pe_int (fun _ _ => rfl)) (pa_cons (pe_lst pa_nil) (pa_cons (pe_lst pa_nil) pa_nil))))) pa_nil)))
      (pss_cons (sset 10 sc_l_plain_rows.nd (pe_callS G_l_grown (hr.mono h_l_grown) rfl T.g_l_grown T.F_l_grown.kp T.b_l_grown (fun σ => passAt (takes_of rfl rfl rfl rfl) σ) (pa_cons (pv 0) (pa_cons (pv 1) (pa_cons pe_int pa_nil)))))
      (pss_cons (ps_expr (pe_bm PySem.F.plainAttrs_list PySem.F.slot_list_append PySem.F.type_list_append mt_append (pv 9) (pa_cons (pe_lst (pa_cons (pe_tup (pa_cons pe_str (pa_cons (pv 6) (pa_cons (pe_tup (pa_cons pe_str (pa_cons (pe_ix (ix_D hr.units) (pv 10) pe_int (fun _ _ => rfl)) pa_nil))) pa_nil)))) (pa_cons (pe_ix (ix_D hr.units) (pv 10) pe_int (fun _ _ => rfl)) (pa_cons (pe_lst pa_nil) (pa_cons (pe_lst pa_nil) pa_nil))))) pa_nil)))
      (pss_cons (ps_expr (pe_bm PySem.F.plainAttrs_list PySem.F.slot_list_append PySem.F.type_list_append mt_append (pv 9) (pa_cons (pe_lst (pa_cons (pe_tup (pa_cons pe_str (pa_cons (pv 6) (pa_cons (pe_tup (pa_cons pe_str (pa_cons (pv 3) (pa_cons (pe_ix (ix_D hr.units) (pv 10) pe_int (fun _ _ => rfl)) pa_nil)))) pa_nil)))) (pa_cons (pe_ix (ix_D hr.units) (pv 10) pe_int (fun _ _ => rfl)) (pa_cons (pe_lst (pa_cons (pv 3) pa_nil)) (pa_cons (pe_lst pa_nil) pa_nil))))) pa_nil)))
      (pss_one (ps_ret (pv 9)))))))))))))))))))))))))))
theorem ok_l_plain_rows (T : Txt K mg) : FnOk P w K mg base (L2.CX P w) 14 T.f_l_plain_rows T.d_l_plain_rows ["_law_pool_here", "_law_names", "_law_x", "_law_y", "_law_own"] (spM K (cvT T) m_l_plain_rows) := fn_l_plain_rows (k := 13) T (ok_l_kinds T) (by omega) (ok_l_draw T) (by omega) (okn_l_grown T) (by omega) (ok_l_kind T) (by omega)
def rd_l_args_grown {K : PySem.W.Frag} {mg : Str → Option Value} (T : Txt K mg) (W : WX) : TS :=
    (tSeq (tAsg (tTup tNil) (gName 3))
    (tSeq (tAsg (tLst tNil) (gName 4))
    (tSeq (tAsg (tLst tNil) (gName 5))
    (tSeq (tFor (iSeq K (tVar 2)) (gName 6) (tIfS (tTest (tOp (rEqX K) (tVar 6) (tC (.str "lent")))) (tSeq (tAsg (tOp (rIxD K) (tVar 1) (tCallS (spM K (cvT T) m_l_draw) (WE W) (tCons (tVar 0) (tCons (tCB (rLenD K) (tCons (tVar 1) tNil)) tNil)))) (gName 7))
    (tSeq (tAsg (tOp (rAddD K) (tVar 3) (tTup (tCons (tTup (tCons (tC (.str "lent")) (tCons (tVar 7) tNil))) tNil))) (gName 3))
    (tDrop (tBM K "list" rAppend (tVar 5) (tCons (tVar 7) tNil))))) (tSeq (tAsg (tCallS (spM K (cvT T) (m_l_grown 8)) (WE W) (tCons (tVar 0) (tCons (tVar 1) (tCons (tC (.int 3)) tNil)))) (gName 8))
    (tSeq (tAsg (tOp (rAddD K) (tVar 3) (tTup (tCons (tTup (tCons (tC (.str "worth")) (tCons (tOp (rIxD K) (tVar 8) (tC (.int 0))) tNil))) tNil))) (gName 3))
    (tAsg (tOp (rAddD K) (tVar 4) (tOp (rIxD K) (tVar 8) (tC (.int 1)))) (gName 4))))))
    (tRet (tLst (tCons (tVar 3) (tCons (tVar 4) (tCons (tVar 5) tNil)))))))))
theorem sim_l_args_grown {K : PySem.W.Frag} {mg : Str → Option Value} (T : Txt K mg) (W : WX) : SS (bC K W (cvT T) 3 []) (rd_l_args_grown T W) (mb_l_args_grown) := by
  unfold rd_l_args_grown mb_l_args_grown lb_l_args_grown_1
  exact (ss_seq (ss_asg (se_tup sa_nil) (sg_name rfl))
    (ss_seq (ss_asg (se_lst sa_nil) (sg_name rfl))
    (ss_seq (ss_asg (se_lst sa_nil) (sg_name rfl))
    (ss_seq (ss_for (si_seq (se_var 2)) (sg_name rfl) (ss_if (st_test (se_op p_eq (se_var 6) (se_cs (by decide +kernel)))) (ss_seq (ss_asg (se_op p_ix (se_var 1) (se_callS (sa_cons (se_var 0) (sa_cons (se_cb p_len (sa_cons (se_var 1) sa_nil)) sa_nil)))) (sg_name rfl))
    (ss_seq (ss_asg (se_op p_add (se_var 3) (se_tup (sa_cons (se_tup (sa_cons (se_cs (by decide +kernel)) (sa_cons (se_var 7) sa_nil))) sa_nil))) (sg_name rfl))
    (ss_drop (se_app (se_var 7))))) (ss_seq (ss_asg (se_callS (sa_cons (se_var 0) (sa_cons (se_var 1) (sa_cons (se_c (.int 3)) sa_nil)))) (sg_name rfl))
    (ss_seq (ss_asg (se_op p_add (se_var 3) (se_tup (sa_cons (se_tup (sa_cons (se_cs (by decide +kernel)) (sa_cons (se_op p_ix (se_var 8) (se_c (.int 0))) sa_nil))) sa_nil))) (sg_name rfl))
    (ss_asg (se_op p_add (se_var 4) (se_op p_ix (se_var 8) (se_c (.int 1)))) (sg_name rfl))))))
    (ss_ret (se_lst (sa_cons (se_var 3) (sa_cons (se_var 4) (sa_cons (se_var 5) sa_nil)))))))))
theorem fn_l_args_grown (T : Txt K mg) {k : Nat} {k_l_draw : Nat} (G_l_draw : FnOk P w K mg base (L2.CX P w) k_l_draw T.f_l_draw T.d_l_draw ["_law_pool_here", "_law_limit"] (spM K (cvT T) m_l_draw)) (h_l_draw : k_l_draw ≤ k) {k_l_grown : Nat} (G_l_grown : FnOk P w K mg base (L2.CX P w) k_l_grown T.f_l_grown T.d_l_grown ["_law_pool_here", "_law_names", "_law_depth"] (spM K (cvT T) (m_l_grown 8))) (h_l_grown : k_l_grown ≤ k) : FnOk P w K mg base (L2.CX P w) (k + 1) T.f_l_args_grown T.d_l_args_grown ["_law_pool_here", "_law_names", "_law_forms"] (spM K (cvT T) (mFun 3 6 [] (mb_l_args_grown))) := by
  refine T.F_l_args_grown.okX sc_l_args_grown (fun vs H Q E h => spM_len vs H Q E h) (fun cdv A outer s H vs Q E hr h0 => ⟨rd_l_args_grown T (fun c o _ H => E c o H), ?_, body_mir (np := 3) (nl := 6) rfl (sim_l_args_grown T _) h0⟩)
  exact (pss_cons (sset 3 sc_l_args_grown.nd (pe_tup pa_nil))
      (pss_cons (sset 4 sc_l_args_grown.nd (pe_lst pa_nil))
      (pss_cons (sset 5 sc_l_args_grown.nd (pe_lst pa_nil))
      (pss_cons (ps_for (passes_of rfl) rfl (pi_seq (pv 2)) (gn 6 sc_l_args_grown.nd) (pss_one (ps_if (pt_cmpR (op_eqX hr.units) (pv 6) pe_str (nomark _)) (pss_cons (sset 7 sc_l_args_grown.nd (pe_ix (ix_D hr.units) (pv 1) (pe_callS G_l_draw (hr.mono h_l_draw) rfl T.g_l_draw T.F_l_draw.kp T.b_l_draw (fun σ => passAt (takes_of rfl rfl rfl rfl) σ) (pa_cons (pv 0) (pa_cons (pe_callB call_lenX (by rfl) T.b_len bt_len (pa_cons (pv 1) pa_nil)) pa_nil))) (fun _ _ => rfl)))
      (pss_cons (sset 3 sc_l_args_grown.nd (pe_op op_addD (pv 3) (pe_tup (pa_cons (pe_tup (pa_cons pe_str (pa_cons (pv 7) pa_nil))) pa_nil))))
      (pss_one (ps_expr (pe_bm PySem.F.plainAttrs_list PySem.F.slot_list_append PySem.F.type_list_append mt_append (pv 5) (pa_cons (pv 7) pa_nil)))))) (pss_cons (sset 8 sc_l_args_grown.nd (pe_callS G_l_grown (hr.mono h_l_grown) rfl T.g_l_grown T.F_l_grown.kp T.b_l_grown (fun σ => passAt (takes_of rfl rfl rfl rfl) σ) (pa_cons (pv 0) (pa_cons (pv 1) (pa_cons pe_int pa_nil)))))
      (pss_cons (sset 3 sc_l_args_grown.nd (pe_op op_addD (pv 3) (pe_tup (pa_cons (pe_tup (pa_cons pe_str (pa_cons (pe_ix (ix_D hr.units) (pv 8) pe_int (fun _ _ => rfl)) pa_nil))) pa_nil))))
      (pss_one (sset 4 sc_l_args_grown.nd (pe_op op_addD (pv 4) (pe_ix (ix_D hr.units) (pv 8) pe_int (fun _ _ => rfl))))))))))
      (pss_one (ps_ret (pe_lst (pa_cons (pv 3) (pa_cons (pv 4) (pa_cons (pv 5) pa_nil))))))))))
theorem ok_l_args_grown (T : Txt K mg) : FnOk P w K mg base (L2.CX P w) 14 T.f_l_args_grown T.d_l_args_grown ["_law_pool_here", "_law_names", "_law_forms"] (spM K (cvT T) m_l_args_grown) := fn_l_args_grown (k := 13) T (ok_l_draw T) (by omega) (okn_l_grown T) (by omega)
def rd_l_call_rows {K : PySem.W.Frag} {mg : Str → Option Value} (T : Txt K mg) (W : WX) : TS :=
    (tSeq (tAsg (tCallS (spM K (cvT T) m_l_fresh) (WE W) (tCons (tVar 0) (tCons (tOp (rAddD K) (tVar 1) (tLst (tCons (tVar 3) tNil))) tNil))) (gName 5))
    (tSeq (tAsg (tLst tNil) (gName 6))
    (tSeq (tAsg (tCallS (spM K (cvT T) m_l_args_grown) (WE W) (tCons (tVar 0) (tCons (tVar 1) (tCons (tVar 4) tNil)))) (gUnp K 3 (gCons (gName 7) (gCons (gName 8) (gCons (gName 9) gNil)))))
    (tSeq (tDrop (tBM K "list" rAppend (tVar 6) (tCons (tLst (tCons (tTup (tCons (tC (.str "call")) (tCons (tVar 2) (tCons (tVar 3) (tCons (tVar 7) tNil))))) (tCons (tVar 8) (tCons (tLst (tCons (tVar 2) tNil)) (tCons (tVar 9) tNil))))) tNil)))
    (tSeq (tDrop (tBM K "list" rAppend (tVar 6) (tCons (tLst (tCons (tTup (tCons (tC (.str "call")) (tCons (tC .non) (tCons (tVar 3) (tCons (tVar 7) tNil))))) (tCons (tVar 8) (tCons (tLst tNil) (tCons (tVar 9) tNil))))) tNil)))
    (tSeq (tDrop (tBM K "list" rAppend (tVar 6) (tCons (tLst (tCons (tTup (tCons (tC (.str "start")) (tCons (tVar 5) (tCons (tVar 3) (tCons (tVar 7) tNil))))) (tCons (tVar 8) (tCons (tLst tNil) (tCons (tVar 9) tNil))))) tNil)))
    (tRet (tVar 6))))))))
theorem sim_l_call_rows {K : PySem.W.Frag} {mg : Str → Option Value} (T : Txt K mg) (W : WX) : SS (bC K W (cvT T) 5 []) (rd_l_call_rows T W) (mb_l_call_rows) := by
  unfold rd_l_call_rows mb_l_call_rows
  exact (ss_seq (ss_asg (se_callS (sa_cons (se_var 0) (sa_cons (se_op p_add (se_var 1) (se_lst (sa_cons (se_var 3) sa_nil))) sa_nil))) (sg_name rfl))
    (ss_seq (ss_asg (se_lst sa_nil) (sg_name rfl))
    (ss_seq (ss_asg (se_callS (sa_cons (se_var 0) (sa_cons (se_var 1) (sa_cons (se_var 4) sa_nil)))) (sg_unp (sgs_name rfl (sgs_name rfl (sgs_name rfl sgs_nil)))))
    (ss_seq (ss_drop (se_app (se_lst (sa_cons (se_tup (sa_cons (se_cs (by decide +kernel)) (sa_cons (se_var 2) (sa_cons (se_var 3) (sa_cons (se_var 7) sa_nil))))) (sa_cons (se_var 8) (sa_cons (se_lst (sa_cons (se_var 2) sa_nil)) (sa_cons (se_var 9) sa_nil)))))))
    (ss_seq (ss_drop (se_app (se_lst (sa_cons (se_tup (sa_cons (se_cs (by decide +kernel)) (sa_cons (se_c .non) (sa_cons (se_var 3) (sa_cons (se_var 7) sa_nil))))) (sa_cons (se_var 8) (sa_cons (se_lst sa_nil) (sa_cons (se_var 9) sa_nil)))))))
    (ss_seq (ss_drop (se_app (se_lst (sa_cons (se_tup (sa_cons (se_cs (by decide +kernel)) (sa_cons (se_var 5) (sa_cons (se_var 3) (sa_cons (se_var 7) sa_nil))))) (sa_cons (se_var 8) (sa_cons (se_lst sa_nil) (sa_cons (se_var 9) sa_nil)))))))
    (ss_ret (se_var 6))))))))
theorem fn_l_call_rows (T : Txt K mg) {k : Nat} {k_l_fresh : Nat} (G_l_fresh : FnOk P w K mg base (L2.CX P w) k_l_fresh T.f_l_fresh T.d_l_fresh ["_law_pool_here", "_law_used"] (spM K (cvT T) m_l_fresh)) (h_l_fresh : k_l_fresh ≤ k) {k_l_args_grown : Nat} (G_l_args_grown : FnOk P w K mg base (L2.CX P w) k_l_args_grown T.f_l_args_grown T.d_l_args_grown ["_law_pool_here", "_law_names", "_law_forms"] (spM K (cvT T) m_l_args_grown)) (h_l_args_grown : k_l_args_grown ≤ k) : FnOk P w K mg base (L2.CX P w) (k + 1) T.f_l_call_rows T.d_l_call_rows ["_law_pool_here", "_law_names", "_law_x", "_law_own", "_law_forms"] (spM K (cvT T) (mFun 5 5 [] (mb_l_call_rows))) := by
  refine T.F_l_call_rows.okX sc_l_call_rows (fun vs H Q E h => spM_len vs H Q E h) (fun cdv A outer s H vs Q E hr h0 => ⟨rd_l_call_rows T (fun c o _ H => E c o H), ?_, body_mir (np := 5) (nl := 5) rfl (sim_l_call_rows T _) h0⟩)
  exact (pss_cons (sset 5 sc_l_call_rows.nd (pe_callS G_l_fresh (hr.mono h_l_fresh) rfl T.g_l_fresh T.F_l_fresh.kp T.b_l_fresh (fun σ => passAt (takes_of rfl rfl rfl rfl) σ) (pa_cons (pv 0) (pa_cons (pe_op op_addD (pv 1) (pe_lst (pa_cons (pv 3) pa_nil))) pa_nil))))
      (pss_cons (sset 6 sc_l_call_rows.nd (pe_lst pa_nil))
      (pss_cons (ps_asg (pe_callS G_l_args_grown (hr.mono h_l_args_grown) rfl T.g_l_args_grown T.F_l_args_grown.kp T.b_l_args_grown (fun σ => passAt (takes_of rfl rfl rfl rfl) σ) (pa_cons (pv 0) (pa_cons (pv 1) (pa_cons (pv 4) pa_nil)))) (pg_unp rfl (pgs_cons (gn 7 sc_l_call_rows.nd) (pgs_cons (gn 8 sc_l_call_rows.nd) (pgs_cons (gn 9 sc_l_call_rows.nd) pgs_nil)))))
      (pss_cons (ps_expr (pe_bm PySem.F.plainAttrs_list PySem.F.slot_list_append PySem.F.type_list_append mt_append (pv 6) (pa_cons (pe_lst (pa_cons (pe_tup (pa_cons pe_str (pa_cons (pv 2) (pa_cons (pv 3) (pa_cons (pv 7) pa_nil))))) (pa_cons (pv 8) (pa_cons (pe_lst (pa_cons (pv 2) pa_nil)) (pa_cons (pv 9) pa_nil))))) pa_nil)))
      (pss_cons (ps_expr (pe_bm PySem.F.plainAttrs_list PySem.F.slot_list_append PySem.F.type_list_append mt_append (pv 6) (pa_cons (pe_lst (pa_cons (pe_tup (pa_cons pe_str (pa_cons pe_non (pa_cons (pv 3) (pa_cons (pv 7) pa_nil))))) (pa_cons (pv 8) (pa_cons (pe_lst pa_nil) (pa_cons (pv 9) pa_nil))))) pa_nil)))
      (pss_cons (ps_expr (pe_bm PySem.F.plainAttrs_list PySem.F.slot_list_append PySem.F.type_list_append mt_append (pv 6) (pa_cons (pe_lst (pa_cons (pe_tup (pa_cons pe_str (pa_cons (pv 5) (pa_cons (pv 3) (pa_cons (pv 7) pa_nil))))) (pa_cons (pv 8) (pa_cons (pe_lst pa_nil) (pa_cons (pv 9) pa_nil))))) pa_nil)))
      (pss_one (ps_ret (pv 6)))))))))
theorem ok_l_call_rows (T : Txt K mg) : FnOk P w K mg base (L2.CX P w) 15 T.f_l_call_rows T.d_l_call_rows ["_law_pool_here", "_law_names", "_law_x", "_law_own", "_law_forms"] (spM K (cvT T) m_l_call_rows) := fn_l_call_rows (k := 14) T (ok_l_fresh T) (by omega) (ok_l_args_grown T) (by omega)
def rd_l_is_int {K : PySem.W.Frag} {mg : Str → Option Value} (T : Txt K mg) (W : WX) : TS :=
    (tRet (tAndV (tCB (rIsi K) (tCons (tVar 0) (tCons (tC (.ty "int")) tNil))) (tNotV (tCB (rIsi K) (tCons (tVar 0) (tCons (tC (.ty "bool")) tNil))))))
theorem sim_l_is_int {K : PySem.W.Frag} {mg : Str → Option Value} (T : Txt K mg) (W : WX) : SS (bC K W (cvT T) 1 []) (rd_l_is_int T W) (mb_l_is_int) := by
  unfold rd_l_is_int mb_l_is_int
  exact (ss_ret (se_andV (se_cb p_isi (sa_cons (se_var 0) (sa_cons (se_c (.ty "int")) sa_nil))) (se_notV (se_cb p_isi (sa_cons (se_var 0) (sa_cons (se_c (.ty "bool")) sa_nil))))))
theorem fn_l_is_int (T : Txt K mg) {k : Nat} : FnOk P w K mg base (L2.CX P w) (k + 1) T.f_l_is_int T.d_l_is_int ["_law_thing"] (spM K (cvT T) (mFun 1 0 [] (mb_l_is_int))) := by
  refine T.F_l_is_int.okX sc_l_is_int (fun vs H Q E h => spM_len vs H Q E h) (fun cdv A outer s H vs Q E hr h0 => ⟨rd_l_is_int T (fun c o _ H => E c o H), ?_, body_mir (np := 1) (nl := 0) rfl (sim_l_is_int T _) h0⟩)
  exact (pss_one (ps_ret (pe_and (pe_callB call_isiD (by rfl) T.b_isinstance bt_isinstance (pa_cons (pv 0) (pa_cons (pe_bltn (by rfl) T.b_int bt_int rfl) pa_nil))) (pe_one (pe_not (pe_callB call_isiD (by rfl) T.b_isinstance bt_isinstance (pa_cons (pv 0) (pa_cons (pe_bltn (by rfl) T.b_bool bt_bool rfl) pa_nil))))))))
theorem ok_l_is_int (T : Txt K mg) : FnOk P w K mg base (L2.CX P w) 1 T.f_l_is_int T.d_l_is_int ["_law_thing"] (spM K (cvT T) m_l_is_int) := fn_l_is_int (k := 0) T 
def rd_l_same {K : PySem.W.Frag} {mg : Str → Option Value} (T : Txt K mg) (W : WX) (mrec : MF) : TS :=
    (tSeq (tIfS (tTest (tOp rIsD (tVar 1) (tC .non))) (tRet (tOp rIsD (tVar 0) (tC .non))) tNext)
    (tSeq (tIfS (tTru K (tCB (rIsi K) (tCons (tVar 1) (tCons (tC (.ty "bool")) tNil)))) (tRet (tAndV (tCB (rIsi K) (tCons (tVar 0) (tCons (tC (.ty "bool")) tNil))) (tOp (rEqX K) (tVar 0) (tVar 1)))) tNext)
    (tSeq (tIfS (tTru K (tCB (rIsi K) (tCons (tVar 1) (tCons (tC (.ty "int")) tNil)))) (tRet (tAndV (tCallS (spM K (cvT T) m_l_is_int) (WE W) (tCons (tVar 0) tNil)) (tOp (rEqX K) (tVar 0) (tVar 1)))) tNext)
    (tSeq (tIfS (tTru K (tCB (rIsi K) (tCons (tVar 1) (tCons (tC (.ty "str")) tNil)))) (tRet (tAndV (tCB (rIsi K) (tCons (tVar 0) (tCons (tC (.ty "str")) tNil))) (tOp (rEqX K) (tVar 0) (tVar 1)))) tNext)
    (tSeq (tIfS (tAnd (tTru K (tCB (rIsi K) (tCons (tVar 1) (tCons (tC (.ty "list")) tNil)))) (tNot (tTru K (tCB (rIsi K) (tCons (tVar 0) (tCons (tC (.ty "list")) tNil)))))) (tRet (tC (.bl false))) tNext)
    (tSeq (tIfS (tAnd (tTru K (tCB (rIsi K) (tCons (tVar 1) (tCons (tC (.ty "tuple")) tNil)))) (tNot (tTru K (tCB (rIsi K) (tCons (tVar 0) (tCons (tC (.ty "tuple")) tNil)))))) (tRet (tC (.bl false))) tNext)
    (tSeq (tIfS (tTest (tOp (rNeX K) (tCB (rLenD K) (tCons (tVar 0) tNil)) (tCB (rLenD K) (tCons (tVar 1) tNil)))) (tRet (tC (.bl false))) tNext)
    (tSeq (tFor (iRng1 (tCons (tCB (rLenD K) (tCons (tVar 1) tNil)) tNil)) (gName 2) (tIfS (tNot (tTru K (tCallS (spM K (cvT T) mrec) (WE W) (tCons (tOp (rIxD K) (tVar 0) (tVar 2)) (tCons (tOp (rIxD K) (tVar 1) (tVar 2)) tNil))))) (tRet (tC (.bl false))) tNext))
    (tRet (tC (.bl true)))))))))))
theorem sim_l_same {K : PySem.W.Frag} {mg : Str → Option Value} (T : Txt K mg) (W : WX) (mrec : MF) : SS (bC K W (cvT T) 2 []) (rd_l_same T W mrec) (mb_l_same mrec) := by
  unfold rd_l_same mb_l_same lb_l_same_1
  exact (ss_seq (ss_if (st_test (se_op p_is (se_var 1) (se_c .non))) (ss_ret (se_op p_is (se_var 0) (se_c .non))) ss_next)
    (ss_seq (ss_if (st_tru (se_cb p_isi (sa_cons (se_var 1) (sa_cons (se_c (.ty "bool")) sa_nil)))) (ss_ret (se_andV (se_cb p_isi (sa_cons (se_var 0) (sa_cons (se_c (.ty "bool")) sa_nil))) (se_op p_eq (se_var 0) (se_var 1)))) ss_next)
    (ss_seq (ss_if (st_tru (se_cb p_isi (sa_cons (se_var 1) (sa_cons (se_c (.ty "int")) sa_nil)))) (ss_ret (se_andV (se_callS (sa_cons (se_var 0) sa_nil)) (se_op p_eq (se_var 0) (se_var 1)))) ss_next)
    (ss_seq (ss_if (st_tru (se_cb p_isi (sa_cons (se_var 1) (sa_cons (se_c (.ty "str")) sa_nil)))) (ss_ret (se_andV (se_cb p_isi (sa_cons (se_var 0) (sa_cons (se_c (.ty "str")) sa_nil))) (se_op p_eq (se_var 0) (se_var 1)))) ss_next)
    (ss_seq (ss_if (st_and (st_tru (se_cb p_isi (sa_cons (se_var 1) (sa_cons (se_c (.ty "list")) sa_nil)))) (st_not (st_tru (se_cb p_isi (sa_cons (se_var 0) (sa_cons (se_c (.ty "list")) sa_nil)))))) (ss_ret (se_c (.bl false))) ss_next)
    (ss_seq (ss_if (st_and (st_tru (se_cb p_isi (sa_cons (se_var 1) (sa_cons (se_c (.ty "tuple")) sa_nil)))) (st_not (st_tru (se_cb p_isi (sa_cons (se_var 0) (sa_cons (se_c (.ty "tuple")) sa_nil)))))) (ss_ret (se_c (.bl false))) ss_next)
    (ss_seq (ss_if (st_test (se_op p_ne (se_cb p_len (sa_cons (se_var 0) sa_nil)) (se_cb p_len (sa_cons (se_var 1) sa_nil)))) (ss_ret (se_c (.bl false))) ss_next)
    (ss_seq (ss_for (si_rng1 (sa_cons (se_cb p_len (sa_cons (se_var 1) sa_nil)) sa_nil)) (sg_name rfl) (ss_if (st_not (st_tru (se_callS (sa_cons (se_op p_ix (se_var 0) (se_var 2)) (sa_cons (se_op p_ix (se_var 1) (se_var 2)) sa_nil))))) (ss_ret (se_c (.bl false))) ss_next))
    (ss_ret (se_c (.bl true)))))))))))
theorem fn_l_same (T : Txt K mg) {mrec : MF} {k : Nat} {k_l_is_int : Nat} (G_l_is_int : FnOk P w K mg base (L2.CX P w) k_l_is_int T.f_l_is_int T.d_l_is_int ["_law_thing"] (spM K (cvT T) m_l_is_int)) (h_l_is_int : k_l_is_int ≤ k) {k_l_same : Nat} (G_l_same : FnOk P w K mg base (L2.CX P w) k_l_same T.f_l_same T.d_l_same ["_law_mine", "_law_due"] (spM K (cvT T) mrec)) (h_l_same : k_l_same ≤ k) : FnOk P w K mg base (L2.CX P w) (k + 1) T.f_l_same T.d_l_same ["_law_mine", "_law_due"] (spM K (cvT T) (mFun 2 1 [] (mb_l_same mrec))) := by
  refine T.F_l_same.okX sc_l_same (fun vs H Q E h => spM_len vs H Q E h) (fun cdv A outer s H vs Q E hr h0 => ⟨rd_l_same T (fun c o _ H => E c o H) mrec, ?_, body_mir (np := 2) (nl := 1) rfl (sim_l_same T _ mrec) h0⟩)
  exact (pss_cons (ps_if (pt_cmpR op_isD (pv 1) pe_non (nomark _)) (pss_one (ps_ret (pe_cmpR op_isD (pv 0) pe_non (nomark _)))) pss_nil)
      (pss_cons (ps_if (pt_truthD (pe_callB call_isiD (by rfl) T.b_isinstance bt_isinstance (pa_cons (pv 1) (pa_cons (pe_bltn (by rfl) T.b_bool bt_bool rfl) pa_nil))) (by intro _; rfl)) (pss_one (ps_ret (pe_and (pe_callB call_isiD (by rfl) T.b_isinstance bt_isinstance (pa_cons (pv 0) (pa_cons (pe_bltn (by rfl) T.b_bool bt_bool rfl) pa_nil))) (pe_one (pe_cmpR (op_eqX hr.units) (pv 0) (pv 1) (nomark _)))))) pss_nil)
      (pss_cons (ps_if (pt_truthD (pe_callB call_isiD (by rfl) T.b_isinstance bt_isinstance (pa_cons (pv 1) (pa_cons (pe_bltn (by rfl) T.b_int bt_int rfl) pa_nil))) (by intro _; rfl)) (pss_one (ps_ret (pe_and (pe_callS G_l_is_int (hr.mono h_l_is_int) rfl T.g_l_is_int T.F_l_is_int.kp T.b_l_is_int (fun σ => passAt (takes_of rfl rfl rfl rfl) σ) (pa_cons (pv 0) pa_nil)) (pe_one (pe_cmpR (op_eqX hr.units) (pv 0) (pv 1) (nomark _)))))) pss_nil)
      (pss_cons (ps_if (pt_truthD (pe_callB call_isiD (by rfl) T.b_isinstance bt_isinstance (pa_cons (pv 1) (pa_cons (pe_bltn (by rfl) T.b_str bt_str rfl) pa_nil))) (by intro _; rfl)) (pss_one (ps_ret (pe_and (pe_callB call_isiD (by rfl) T.b_isinstance bt_isinstance (pa_cons (pv 0) (pa_cons (pe_bltn (by rfl) T.b_str bt_str rfl) pa_nil))) (pe_one (pe_cmpR (op_eqX hr.units) (pv 0) (pv 1) (nomark _)))))) pss_nil)
      (pss_cons (ps_if (PW.pt (pw_and (pt_truthD (pe_callB call_isiD (by rfl) T.b_isinstance bt_isinstance (pa_cons (pv 1) (pa_cons (pe_bltn (by rfl) T.b_list bt_list rfl) pa_nil))) (by intro _; rfl)) (pw_and1 (pt_not (pt_truthD (pe_callB call_isiD (by rfl) T.b_isinstance bt_isinstance (pa_cons (pv 0) (pa_cons (pe_bltn (by rfl) T.b_list bt_list rfl) pa_nil))) (by intro _; rfl)))))) (pss_one (ps_ret pe_bl)) pss_nil)
      (pss_cons (ps_if (PW.pt (pw_and (pt_truthD (pe_callB call_isiD (by rfl) T.b_isinstance bt_isinstance (pa_cons (pv 1) (pa_cons (pe_bltn (by rfl) T.b_tuple bt_tuple rfl) pa_nil))) (by intro _; rfl)) (pw_and1 (pt_not (pt_truthD (pe_callB call_isiD (by rfl) T.b_isinstance bt_isinstance (pa_cons (pv 0) (pa_cons (pe_bltn (by rfl) T.b_tuple bt_tuple rfl) pa_nil))) (by intro _; rfl)))))) (pss_one (ps_ret pe_bl)) pss_nil)
      (pss_cons (ps_if (pt_cmpR (op_neX hr.units) (pe_callB call_lenX (by rfl) T.b_len bt_len (pa_cons (pv 0) pa_nil)) (pe_callB call_lenX (by rfl) T.b_len bt_len (pa_cons (pv 1) pa_nil)) (nomark _)) (pss_one (ps_ret pe_bl)) pss_nil)
      (pss_cons (ps_for (passes_of rfl) rfl (pi_range1 (by rfl) T.b_range (pa_cons (pe_callB call_lenX (by rfl) T.b_len bt_len (pa_cons (pv 1) pa_nil)) pa_nil)) (gn 2 sc_l_same.nd) (pss_one (ps_if (pt_not (pt_truthD (pe_callS G_l_same (hr.mono h_l_same) rfl T.g_l_same T.F_l_same.kp T.b_l_same (fun σ => passAt (takes_of rfl rfl rfl rfl) σ) (pa_cons (pe_ix (ix_D hr.units) (pv 0) (pv 2) (fun _ _ => rfl)) (pa_cons (pe_ix (ix_D hr.units) (pv 1) (pv 2) (fun _ _ => rfl)) pa_nil))) (by intro _; rfl))) (pss_one (ps_ret pe_bl)) pss_nil)))
      (pss_one (ps_ret pe_bl))))))))))
theorem ok_l_same (T : Txt K mg) : ∀ n, FnOk P w K mg base (L2.CX P w) (n + 2) T.f_l_same T.d_l_same ["_law_mine", "_law_due"] (spM K (cvT T) (m_l_same n))
  | 0 => fn_stuck
  | n + 1 => fn_l_same (k := n + 2) T (ok_l_is_int T) (by omega) (ok_l_same T n) (by omega)
theorem okn_l_same (T : Txt K mg) : FnOk P w K mg base (L2.CX P w) 10 T.f_l_same T.d_l_same ["_law_mine", "_law_due"] (spM K (cvT T) (m_l_same 8)) := ok_l_same T 8
def rd_args_of {K : PySem.W.Frag} {mg : Str → Option Value} (T : Txt K mg) (W : WX) : TS :=
    (tSeq (tIfS (tOr (tTest (tOp (rEqX K) (tOp (rIxD K) (tVar 0) (tC (.int 0))) (tC (.str "call")))) (tTest (tOp (rEqX K) (tOp (rIxD K) (tVar 0) (tC (.int 0))) (tC (.str "start"))))) (tRet (tOp (rIxD K) (tVar 0) (tC (.int 3)))) tNext)
    (tRet (tTup tNil)))
theorem sim_args_of {K : PySem.W.Frag} {mg : Str → Option Value} (T : Txt K mg) (W : WX) : SS (bC K W (cvT T) 1 []) (rd_args_of T W) (mb_args_of) := by
  unfold rd_args_of mb_args_of
  exact (ss_seq (ss_if (st_or (st_test (se_op p_eq (se_op p_ix (se_var 0) (se_c (.int 0))) (se_cs (by decide +kernel)))) (st_test (se_op p_eq (se_op p_ix (se_var 0) (se_c (.int 0))) (se_cs (by decide +kernel))))) (ss_ret (se_op p_ix (se_var 0) (se_c (.int 3)))) ss_next)
    (ss_ret (se_tup sa_nil)))
theorem fn_args_of (T : Txt K mg) {k : Nat} : FnOk P w K mg base (L2.CX P w) (k + 1) T.f_args_of T.d_args_of ["row"] (spM K (cvT T) (mFun 1 0 [] (mb_args_of))) := by
  refine T.F_args_of.okX sc_args_of (fun vs H Q E h => spM_len vs H Q E h) (fun cdv A outer s H vs Q E hr h0 => ⟨rd_args_of T (fun c o _ H => E c o H), ?_, body_mir (np := 1) (nl := 0) rfl (sim_args_of T _) h0⟩)
  exact (pss_cons (ps_if (PW.pt (pw_or (pt_cmpR (op_eqX hr.units) (pe_ix (ix_D hr.units) (pv 0) pe_int (fun _ _ => rfl)) pe_str (nomark _)) (pw_or1 (pt_cmpR (op_eqX hr.units) (pe_ix (ix_D hr.units) (pv 0) pe_int (fun _ _ => rfl)) pe_str (nomark _))))) (pss_one (ps_ret (pe_ix (ix_D hr.units) (pv 0) pe_int (fun _ _ => rfl)))) pss_nil)
      (pss_one (ps_ret (pe_tup pa_nil))))
theorem ok_args_of (T : Txt K mg) : FnOk P w K mg base (L2.CX P w) 1 T.f_args_of T.d_args_of ["row"] (spM K (cvT T) m_args_of) := fn_args_of (k := 0) T 
def rd_row_exprs {K : PySem.W.Frag} {mg : Str → Option Value} (T : Txt K mg) (W : WX) : TS :=
    (tSeq (tIfS (tTest (tOp (rEqX K) (tOp (rIxD K) (tVar 0) (tC (.int 0))) (tC (.str "let")))) (tRet (tTup (tCons (tOp (rIxD K) (tVar 0) (tC (.int 3))) tNil))) tNext)
    (tSeq (tIfS (tTest (tOp (rEqX K) (tOp (rIxD K) (tVar 0) (tC (.int 0))) (tC (.str "set")))) (tRet (tTup (tCons (tOp (rIxD K) (tVar 0) (tC (.int 2))) tNil))) tNext)
    (tSeq (tIfS (tOr (tTest (tOp (rEqX K) (tOp (rIxD K) (tVar 0) (tC (.int 0))) (tC (.str "print")))) (tOr (tTest (tOp (rEqX K) (tOp (rIxD K) (tVar 0) (tC (.int 0))) (tC (.str "return")))) (tTest (tOp (rEqX K) (tOp (rIxD K) (tVar 0) (tC (.int 0))) (tC (.str "if")))))) (tRet (tTup (tCons (tOp (rIxD K) (tVar 0) (tC (.int 1))) tNil))) tNext)
    (tSeq (tIfS (tTest (tOp (rEqX K) (tOp (rIxD K) (tVar 0) (tC (.int 0))) (tC (.str "defer")))) (tRet (tTup (tCons (tOp (rIxD K) (tOp (rIxD K) (tVar 0) (tC (.int 2))) (tUn rNeg (tC (.int 1)))) tNil))) tNext)
    (tRet (tCB (rTupleD K) (tCons (tLc (iSeq K (tCallS (spM K (cvT T) m_args_of) (WE W) (tCons (tVar 0) tNil))) (gName 1) (tTest (tOp (rEqX K) (tOp (rIxD K) (tVar 1) (tC (.int 0))) (tC (.str "worth")))) (tOp (rIxD K) (tVar 1) (tC (.int 1))) [1]) tNil)))))))
theorem sim_row_exprs {K : PySem.W.Frag} {mg : Str → Option Value} (T : Txt K mg) (W : WX) : SS (bC K W (cvT T) 1 []) (rd_row_exprs T W) (mb_row_exprs) := by
  unfold rd_row_exprs mb_row_exprs lt_row_exprs_1 le_row_exprs_1
  exact (ss_seq (ss_if (st_test (se_op p_eq (se_op p_ix (se_var 0) (se_c (.int 0))) (se_cs (by decide +kernel)))) (ss_ret (se_tup (sa_cons (se_op p_ix (se_var 0) (se_c (.int 3))) sa_nil))) ss_next)
    (ss_seq (ss_if (st_test (se_op p_eq (se_op p_ix (se_var 0) (se_c (.int 0))) (se_cs (by decide +kernel)))) (ss_ret (se_tup (sa_cons (se_op p_ix (se_var 0) (se_c (.int 2))) sa_nil))) ss_next)
    (ss_seq (ss_if (st_or (st_test (se_op p_eq (se_op p_ix (se_var 0) (se_c (.int 0))) (se_cs (by decide +kernel)))) (st_or (st_test (se_op p_eq (se_op p_ix (se_var 0) (se_c (.int 0))) (se_cs (by decide +kernel)))) (st_test (se_op p_eq (se_op p_ix (se_var 0) (se_c (.int 0))) (se_cs (by decide +kernel)))))) (ss_ret (se_tup (sa_cons (se_op p_ix (se_var 0) (se_c (.int 1))) sa_nil))) ss_next)
    (ss_seq (ss_if (st_test (se_op p_eq (se_op p_ix (se_var 0) (se_c (.int 0))) (se_cs (by decide +kernel)))) (ss_ret (se_tup (sa_cons (se_op p_ix (se_op p_ix (se_var 0) (se_c (.int 2))) (se_un p_neg (se_c (.int 1)))) sa_nil))) ss_next)
    (ss_ret (se_cb p_tuple (sa_cons (se_lc (si_seq (se_callS (sa_cons (se_var 0) sa_nil))) (sg_name rfl) (st_test (se_op p_eq (se_op p_ix (se_var 1) (se_c (.int 0))) (se_cs (by decide +kernel)))) (se_op p_ix (se_var 1) (se_c (.int 1)))) sa_nil)))))))
theorem fn_row_exprs (T : Txt K mg) {k : Nat} {k_args_of : Nat} (G_args_of : FnOk P w K mg base (L2.CX P w) k_args_of T.f_args_of T.d_args_of ["row"] (spM K (cvT T) m_args_of)) (h_args_of : k_args_of ≤ k) : FnOk P w K mg base (L2.CX P w) (k + 1) T.f_row_exprs T.d_row_exprs ["row"] (spM K (cvT T) (mFun 1 1 [] (mb_row_exprs))) := by
  refine T.F_row_exprs.okX sc_row_exprs (fun vs H Q E h => spM_len vs H Q E h) (fun cdv A outer s H vs Q E hr h0 => ⟨rd_row_exprs T (fun c o _ H => E c o H), ?_, body_mir (np := 1) (nl := 1) rfl (sim_row_exprs T _) h0⟩)
  exact (pss_cons (ps_if (pt_cmpR (op_eqX hr.units) (pe_ix (ix_D hr.units) (pv 0) pe_int (fun _ _ => rfl)) pe_str (nomark _)) (pss_one (ps_ret (pe_tup (pa_cons (pe_ix (ix_D hr.units) (pv 0) pe_int (fun _ _ => rfl)) pa_nil)))) pss_nil)
      (pss_cons (ps_if (pt_cmpR (op_eqX hr.units) (pe_ix (ix_D hr.units) (pv 0) pe_int (fun _ _ => rfl)) pe_str (nomark _)) (pss_one (ps_ret (pe_tup (pa_cons (pe_ix (ix_D hr.units) (pv 0) pe_int (fun _ _ => rfl)) pa_nil)))) pss_nil)
      (pss_cons (ps_if (PW.pt (pw_or (pt_cmpR (op_eqX hr.units) (pe_ix (ix_D hr.units) (pv 0) pe_int (fun _ _ => rfl)) pe_str (nomark _)) (pw_or (pt_cmpR (op_eqX hr.units) (pe_ix (ix_D hr.units) (pv 0) pe_int (fun _ _ => rfl)) pe_str (nomark _)) (pw_or1 (pt_cmpR (op_eqX hr.units) (pe_ix (ix_D hr.units) (pv 0) pe_int (fun _ _ => rfl)) pe_str (nomark _)))))) (pss_one (ps_ret (pe_tup (pa_cons (pe_ix (ix_D hr.units) (pv 0) pe_int (fun _ _ => rfl)) pa_nil)))) pss_nil)
      (pss_cons (ps_if (pt_cmpR (op_eqX hr.units) (pe_ix (ix_D hr.units) (pv 0) pe_int (fun _ _ => rfl)) pe_str (nomark _)) (pss_one (ps_ret (pe_tup (pa_cons (pe_ix (ix_D hr.units) (pe_ix (ix_D hr.units) (pv 0) pe_int (fun _ _ => rfl)) (pe_un un_neg pe_int) (fun _ _ => rfl)) pa_nil)))) pss_nil)
      (pss_one (ps_ret (pe_callTy call_tupleD (by rfl) T.b_tuple bt_tuple (pa_cons (pe_lc (own := [("arg", 1)]) (g := (gName 1)) (tt := (tTest (tOp (rEqX K) (tOp (rIxD K) (tVar 1) (tC (.int 0))) (tC (.str "worth"))))) rfl sc_row_exprs.nd (pi_seq (pe_callS G_args_of (hr.mono h_args_of) rfl T.g_args_of T.F_args_of.kp T.b_args_of (fun σ => passAt (takes_of rfl rfl rfl rfl) σ) (pa_cons (pv 0) pa_nil))) (blkOk_by (own := [("arg", 1)]) (N := nm_row_exprs) (sc := defScope s_row_exprs) (by decide +kernel)) (fun _ _ _ _ _ => (gn 1 sc_row_exprs.nd)) (fun _ _ _ _ _ => (pts_one (pt_cmpR (op_eqX hr.units) (pe_ix (ix_D hr.units) (pv 1) pe_int (fun _ _ => rfl)) pe_str (nomark _)))) (fun _ _ _ _ _ => (pe_ix (ix_D hr.units) (pv 1) pe_int (fun _ _ => rfl)))) pa_nil))))))))
theorem ok_row_exprs (T : Txt K mg) : FnOk P w K mg base (L2.CX P w) 2 T.f_row_exprs T.d_row_exprs ["row"] (spM K (cvT T) m_row_exprs) := fn_row_exprs (k := 1) T (ok_args_of T) (by omega)
def rd_expr_names {K : PySem.W.Frag} {mg : Str → Option Value} (T : Txt K mg) (W : WX) (mrec : MF) : TS :=
    (tSeq (tIfS (tTest (tOp (rEqX K) (tOp (rIxD K) (tVar 0) (tC (.int 0))) (tC (.str "name")))) (tRet (tTup (tCons (tOp (rIxD K) (tVar 0) (tC (.int 1))) tNil))) tNext)
    (tSeq (tIfS (tTest (tOp (rEqX K) (tOp (rIxD K) (tVar 0) (tC (.int 0))) (tC (.str "lit")))) (tRet (tTup tNil)) tNext)
    (tRet (tOp (rAddD K) (tCallS (spM K (cvT T) mrec) (WE W) (tCons (tOp (rIxD K) (tVar 0) (tC (.int 1))) tNil)) (tCallS (spM K (cvT T) mrec) (WE W) (tCons (tOp (rIxD K) (tVar 0) (tC (.int 2))) tNil))))))
theorem sim_expr_names {K : PySem.W.Frag} {mg : Str → Option Value} (T : Txt K mg) (W : WX) (mrec : MF) : SS (bC K W (cvT T) 1 []) (rd_expr_names T W mrec) (mb_expr_names mrec) := by
  unfold rd_expr_names mb_expr_names
  exact (ss_seq (ss_if (st_test (se_op p_eq (se_op p_ix (se_var 0) (se_c (.int 0))) (se_cs (by decide +kernel)))) (ss_ret (se_tup (sa_cons (se_op p_ix (se_var 0) (se_c (.int 1))) sa_nil))) ss_next)
    (ss_seq (ss_if (st_test (se_op p_eq (se_op p_ix (se_var 0) (se_c (.int 0))) (se_cs (by decide +kernel)))) (ss_ret (se_tup sa_nil)) ss_next)
    (ss_ret (se_op p_add (se_callS (sa_cons (se_op p_ix (se_var 0) (se_c (.int 1))) sa_nil)) (se_callS (sa_cons (se_op p_ix (se_var 0) (se_c (.int 2))) sa_nil))))))
theorem fn_expr_names (T : Txt K mg) {mrec : MF} {k : Nat} {k_expr_names : Nat} (G_expr_names : FnOk P w K mg base (L2.CX P w) k_expr_names T.f_expr_names T.d_expr_names ["expr"] (spM K (cvT T) mrec)) (h_expr_names : k_expr_names ≤ k) : FnOk P w K mg base (L2.CX P w) (k + 1) T.f_expr_names T.d_expr_names ["expr"] (spM K (cvT T) (mFun 1 0 [] (mb_expr_names mrec))) := by
  refine T.F_expr_names.okX sc_expr_names (fun vs H Q E h => spM_len vs H Q E h) (fun cdv A outer s H vs Q E hr h0 => ⟨rd_expr_names T (fun c o _ H => E c o H) mrec, ?_, body_mir (np := 1) (nl := 0) rfl (sim_expr_names T _ mrec) h0⟩)
  exact (pss_cons (ps_if (pt_cmpR (op_eqX hr.units) (pe_ix (ix_D hr.units) (pv 0) pe_int (fun _ _ => rfl)) pe_str (nomark _)) (pss_one (ps_ret (pe_tup (pa_cons (pe_ix (ix_D hr.units) (pv 0) pe_int (fun _ _ => rfl)) pa_nil)))) pss_nil)
      (pss_cons (ps_if (pt_cmpR (op_eqX hr.units) (pe_ix (ix_D hr.units) (pv 0) pe_int (fun _ _ => rfl)) pe_str (nomark _)) (pss_one (ps_ret (pe_tup pa_nil))) pss_nil)
      (pss_one (ps_ret (pe_op op_addD (pe_callS G_expr_names (hr.mono h_expr_names) rfl T.g_expr_names T.F_expr_names.kp T.b_expr_names (fun σ => passAt (takes_of rfl rfl rfl rfl) σ) (pa_cons (pe_ix (ix_D hr.units) (pv 0) pe_int (fun _ _ => rfl)) pa_nil)) (pe_callS G_expr_names (hr.mono h_expr_names) rfl T.g_expr_names T.F_expr_names.kp T.b_expr_names (fun σ => passAt (takes_of rfl rfl rfl rfl) σ) (pa_cons (pe_ix (ix_D hr.units) (pv 0) pe_int (fun _ _ => rfl)) pa_nil)))))))
theorem ok_expr_names (T : Txt K mg) : ∀ n, FnOk P w K mg base (L2.CX P w) (n + 1) T.f_expr_names T.d_expr_names ["expr"] (spM K (cvT T) (m_expr_names n))
  | 0 => fn_stuck
  | n + 1 => fn_expr_names (k := n + 1) T (ok_expr_names T n) (by omega)
theorem okn_expr_names (T : Txt K mg) : FnOk P w K mg base (L2.CX P w) 9 T.f_expr_names T.d_expr_names ["expr"] (spM K (cvT T) (m_expr_names 8)) := ok_expr_names T 8
def rd_names_read {K : PySem.W.Frag} {mg : Str → Option Value} (T : Txt K mg) (W : WX) : TS :=
    (tSeq (tIfS (tTest (tOp (rEqX K) (tOp (rIxD K) (tVar 0) (tC (.int 0))) (tC (.str "narrow")))) (tRet (tTup (tCons (tOp (rIxD K) (tVar 0) (tC (.int 1))) tNil))) tNext)
    (tSeq (tAsg (tLst tNil) (gName 1))
    (tSeq (tFor (iSeq K (tCallS (spM K (cvT T) m_row_exprs) (WE W) (tCons (tVar 0) tNil))) (gName 2) (tDrop (tBM K "list" (rExtendD K) (tVar 1) (tCons (tCallS (spM K (cvT T) (m_expr_names 8)) (WE W) (tCons (tVar 2) tNil)) tNil))))
    (tRet (tCB (rTupleD K) (tCons (tVar 1) tNil))))))
theorem sim_names_read {K : PySem.W.Frag} {mg : Str → Option Value} (T : Txt K mg) (W : WX) : SS (bC K W (cvT T) 1 []) (rd_names_read T W) (mb_names_read) := by
  unfold rd_names_read mb_names_read lb_names_read_1
  exact (ss_seq (ss_if (st_test (se_op p_eq (se_op p_ix (se_var 0) (se_c (.int 0))) (se_cs (by decide +kernel)))) (ss_ret (se_tup (sa_cons (se_op p_ix (se_var 0) (se_c (.int 1))) sa_nil))) ss_next)
    (ss_seq (ss_asg (se_lst sa_nil) (sg_name rfl))
    (ss_seq (ss_for (si_seq (se_callS (sa_cons (se_var 0) sa_nil))) (sg_name rfl) (ss_drop (se_ext (se_callS (sa_cons (se_var 2) sa_nil)))))
    (ss_ret (se_cb p_tuple (sa_cons (se_var 1) sa_nil))))))
theorem fn_names_read (T : Txt K mg) {k : Nat} {k_row_exprs : Nat} (G_row_exprs : FnOk P w K mg base (L2.CX P w) k_row_exprs T.f_row_exprs T.d_row_exprs ["row"] (spM K (cvT T) m_row_exprs)) (h_row_exprs : k_row_exprs ≤ k) {k_expr_names : Nat} (G_expr_names : FnOk P w K mg base (L2.CX P w) k_expr_names T.f_expr_names T.d_expr_names ["expr"] (spM K (cvT T) (m_expr_names 8))) (h_expr_names : k_expr_names ≤ k) : FnOk P w K mg base (L2.CX P w) (k + 1) T.f_names_read T.d_names_read ["row"] (spM K (cvT T) (mFun 1 2 [] (mb_names_read))) := by
  refine T.F_names_read.okX sc_names_read (fun vs H Q E h => spM_len vs H Q E h) (fun cdv A outer s H vs Q E hr h0 => ⟨rd_names_read T (fun c o _ H => E c o H), ?_, body_mir (np := 1) (nl := 2) rfl (sim_names_read T _) h0⟩)
  exact (pss_cons (ps_if (pt_cmpR (op_eqX hr.units) (pe_ix (ix_D hr.units) (pv 0) pe_int (fun _ _ => rfl)) pe_str (nomark _)) (pss_one (ps_ret (pe_tup (pa_cons (pe_ix (ix_D hr.units) (pv 0) pe_int (fun _ _ => rfl)) pa_nil)))) pss_nil)
      (pss_cons (sset 1 sc_names_read.nd (pe_lst pa_nil))
      (pss_cons (ps_for (passes_of rfl) rfl (pi_seq (pe_callS G_row_exprs (hr.mono h_row_exprs) rfl T.g_row_exprs T.F_row_exprs.kp T.b_row_exprs (fun σ => passAt (takes_of rfl rfl rfl rfl) σ) (pa_cons (pv 0) pa_nil))) (gn 2 sc_names_read.nd) (pss_one (ps_expr (pe_bm PySem.F.plainAttrs_list PySem.F.slot_list_extend PySem.F.type_list_extend mt_extendM (pv 1) (pa_cons (pe_callS G_expr_names (hr.mono h_expr_names) rfl T.g_expr_names T.F_expr_names.kp T.b_expr_names (fun σ => passAt (takes_of rfl rfl rfl rfl) σ) (pa_cons (pv 2) pa_nil)) pa_nil)))))
      (pss_one (ps_ret (pe_callTy call_tupleD (by rfl) T.b_tuple bt_tuple (pa_cons (pv 1) pa_nil)))))))
theorem ok_names_read (T : Txt K mg) : FnOk P w K mg base (L2.CX P w) 10 T.f_names_read T.d_names_read ["row"] (spM K (cvT T) m_names_read) := fn_names_read (k := 9) T (ok_row_exprs T) (by omega) (okn_expr_names T) (by omega)
def rd_names_set {K : PySem.W.Frag} {mg : Str → Option Value} (T : Txt K mg) (W : WX) : TS :=
    (tSeq (tIfS (tOr (tTest (tOp (rEqX K) (tOp (rIxD K) (tVar 0) (tC (.int 0))) (tC (.str "set")))) (tTest (tOp (rEqX K) (tOp (rIxD K) (tVar 0) (tC (.int 0))) (tC (.str "ask"))))) (tRet (tTup (tCons (tOp (rIxD K) (tVar 0) (tC (.int 1))) tNil))) tNext)
    (tSeq (tIfS (tOr (tTest (tOp (rEqX K) (tOp (rIxD K) (tVar 0) (tC (.int 0))) (tC (.str "call")))) (tTest (tOp (rEqX K) (tOp (rIxD K) (tVar 0) (tC (.int 0))) (tC (.str "wait"))))) (tRet (tIf (tTest (tOp rIsD (tOp (rIxD K) (tVar 0) (tC (.int 1))) (tC .non))) (tTup tNil) (tTup (tCons (tOp (rIxD K) (tVar 0) (tC (.int 1))) tNil)))) tNext)
    (tSeq (tIfS (tAnd (tTest (tOp (rEqX K) (tOp (rIxD K) (tVar 0) (tC (.int 0))) (tC (.str "defer")))) (tTest (tOp (rEqX K) (tOp (rIxD K) (tOp (rIxD K) (tVar 0) (tC (.int 2))) (tC (.int 0))) (tC (.str "set"))))) (tRet (tTup (tCons (tOp (rIxD K) (tOp (rIxD K) (tVar 0) (tC (.int 2))) (tC (.int 1))) tNil))) tNext)
    (tRet (tTup tNil)))))
theorem sim_names_set {K : PySem.W.Frag} {mg : Str → Option Value} (T : Txt K mg) (W : WX) : SS (bC K W (cvT T) 1 []) (rd_names_set T W) (mb_names_set) := by
  unfold rd_names_set mb_names_set
  exact (ss_seq (ss_if (st_or (st_test (se_op p_eq (se_op p_ix (se_var 0) (se_c (.int 0))) (se_cs (by decide +kernel)))) (st_test (se_op p_eq (se_op p_ix (se_var 0) (se_c (.int 0))) (se_cs (by decide +kernel))))) (ss_ret (se_tup (sa_cons (se_op p_ix (se_var 0) (se_c (.int 1))) sa_nil))) ss_next)
    (ss_seq (ss_if (st_or (st_test (se_op p_eq (se_op p_ix (se_var 0) (se_c (.int 0))) (se_cs (by decide +kernel)))) (st_test (se_op p_eq (se_op p_ix (se_var 0) (se_c (.int 0))) (se_cs (by decide +kernel))))) (ss_ret (se_if (st_test (se_op p_is (se_op p_ix (se_var 0) (se_c (.int 1))) (se_c .non))) (se_tup sa_nil) (se_tup (sa_cons (se_op p_ix (se_var 0) (se_c (.int 1))) sa_nil)))) ss_next)
    (ss_seq (ss_if (st_and (st_test (se_op p_eq (se_op p_ix (se_var 0) (se_c (.int 0))) (se_cs (by decide +kernel)))) (st_test (se_op p_eq (se_op p_ix (se_op p_ix (se_var 0) (se_c (.int 2))) (se_c (.int 0))) (se_cs (by decide +kernel))))) (ss_ret (se_tup (sa_cons (se_op p_ix (se_op p_ix (se_var 0) (se_c (.int 2))) (se_c (.int 1))) sa_nil))) ss_next)
    (ss_ret (se_tup sa_nil)))))
theorem fn_names_set (T : Txt K mg) {k : Nat} : FnOk P w K mg base (L2.CX P w) (k + 1) T.f_names_set T.d_names_set ["row"] (spM K (cvT T) (mFun 1 0 [] (mb_names_set))) := by
  refine T.F_names_set.okX sc_names_set (fun vs H Q E h => spM_len vs H Q E h) (fun cdv A outer s H vs Q E hr h0 => ⟨rd_names_set T (fun c o _ H => E c o H), ?_, body_mir (np := 1) (nl := 0) rfl (sim_names_set T _) h0⟩)
  exact (pss_cons (ps_if (PW.pt (pw_or (pt_cmpR (op_eqX hr.units) (pe_ix (ix_D hr.units) (pv 0) pe_int (fun _ _ => rfl)) pe_str (nomark _)) (pw_or1 (pt_cmpR (op_eqX hr.units) (pe_ix (ix_D hr.units) (pv 0) pe_int (fun _ _ => rfl)) pe_str (nomark _))))) (pss_one (ps_ret (pe_tup (pa_cons (pe_ix (ix_D hr.units) (pv 0) pe_int (fun _ _ => rfl)) pa_nil)))) pss_nil)
      (pss_cons (ps_if (PW.pt (pw_or (pt_cmpR (op_eqX hr.units) (pe_ix (ix_D hr.units) (pv 0) pe_int (fun _ _ => rfl)) pe_str (nomark _)) (pw_or1 (pt_cmpR (op_eqX hr.units) (pe_ix (ix_D hr.units) (pv 0) pe_int (fun _ _ => rfl)) pe_str (nomark _))))) (pss_one (ps_ret (pe_ifExp (pt_cmpR op_isD (pe_ix (ix_D hr.units) (pv 0) pe_int (fun _ _ => rfl)) pe_non (nomark _)) (pe_tup pa_nil) (pe_tup (pa_cons (pe_ix (ix_D hr.units) (pv 0) pe_int (fun _ _ => rfl)) pa_nil))))) pss_nil)
      (pss_cons (ps_if (PW.pt (pw_and (pt_cmpR (op_eqX hr.units) (pe_ix (ix_D hr.units) (pv 0) pe_int (fun _ _ => rfl)) pe_str (nomark _)) (pw_and1 (pt_cmpR (op_eqX hr.units) (pe_ix (ix_D hr.units) (pe_ix (ix_D hr.units) (pv 0) pe_int (fun _ _ => rfl)) pe_int (fun _ _ => rfl)) pe_str (nomark _))))) (pss_one (ps_ret (pe_tup (pa_cons (pe_ix (ix_D hr.units) (pe_ix (ix_D hr.units) (pv 0) pe_int (fun _ _ => rfl)) pe_int (fun _ _ => rfl)) pa_nil)))) pss_nil)
      (pss_one (ps_ret (pe_tup pa_nil))))))
theorem ok_names_set (T : Txt K mg) : FnOk P w K mg base (L2.CX P w) 1 T.f_names_set T.d_names_set ["row"] (spM K (cvT T) m_names_set) := fn_names_set (k := 0) T 
def rd_names_lent {K : PySem.W.Frag} {mg : Str → Option Value} (T : Txt K mg) (W : WX) : TS :=
    (tRet (tCB (rTupleD K) (tCons (tLc (iSeq K (tCallS (spM K (cvT T) m_args_of) (WE W) (tCons (tVar 0) tNil))) (gName 1) (tTest (tOp (rEqX K) (tOp (rIxD K) (tVar 1) (tC (.int 0))) (tC (.str "lent")))) (tOp (rIxD K) (tVar 1) (tC (.int 1))) [1]) tNil)))
theorem sim_names_lent {K : PySem.W.Frag} {mg : Str → Option Value} (T : Txt K mg) (W : WX) : SS (bC K W (cvT T) 1 []) (rd_names_lent T W) (mb_names_lent) := by
  unfold rd_names_lent mb_names_lent lt_names_lent_1 le_names_lent_1
  exact (ss_ret (se_cb p_tuple (sa_cons (se_lc (si_seq (se_callS (sa_cons (se_var 0) sa_nil))) (sg_name rfl) (st_test (se_op p_eq (se_op p_ix (se_var 1) (se_c (.int 0))) (se_cs (by decide +kernel)))) (se_op p_ix (se_var 1) (se_c (.int 1)))) sa_nil)))
theorem fn_names_lent (T : Txt K mg) {k : Nat} {k_args_of : Nat} (G_args_of : FnOk P w K mg base (L2.CX P w) k_args_of T.f_args_of T.d_args_of ["row"] (spM K (cvT T) m_args_of)) (h_args_of : k_args_of ≤ k) : FnOk P w K mg base (L2.CX P w) (k + 1) T.f_names_lent T.d_names_lent ["row"] (spM K (cvT T) (mFun 1 1 [] (mb_names_lent))) := by
  refine T.F_names_lent.okX sc_names_lent (fun vs H Q E h => spM_len vs H Q E h) (fun cdv A outer s H vs Q E hr h0 => ⟨rd_names_lent T (fun c o _ H => E c o H), ?_, body_mir (np := 1) (nl := 1) rfl (sim_names_lent T _) h0⟩)
  exact (pss_one (ps_ret (pe_callTy call_tupleD (by rfl) T.b_tuple bt_tuple (pa_cons (pe_lc (own := [("arg", 1)]) (g := (gName 1)) (tt := (tTest (tOp (rEqX K) (tOp (rIxD K) (tVar 1) (tC (.int 0))) (tC (.str "lent"))))) rfl sc_names_lent.nd (pi_seq (pe_callS G_args_of (hr.mono h_args_of) rfl T.g_args_of T.F_args_of.kp T.b_args_of (fun σ => passAt (takes_of rfl rfl rfl rfl) σ) (pa_cons (pv 0) pa_nil))) (blkOk_by (own := [("arg", 1)]) (N := nm_names_lent) (sc := defScope s_names_lent) (by decide +kernel)) (fun _ _ _ _ _ => (gn 1 sc_names_lent.nd)) (fun _ _ _ _ _ => (pts_one (pt_cmpR (op_eqX hr.units) (pe_ix (ix_D hr.units) (pv 1) pe_int (fun _ _ => rfl)) pe_str (nomark _)))) (fun _ _ _ _ _ => (pe_ix (ix_D hr.units) (pv 1) pe_int (fun _ _ => rfl)))) pa_nil))))
theorem ok_names_lent (T : Txt K mg) : FnOk P w K mg base (L2.CX P w) 2 T.f_names_lent T.d_names_lent ["row"] (spM K (cvT T) m_names_lent) := fn_names_lent (k := 1) T (ok_args_of T) (by omega)
def rd_law {K : PySem.W.Frag} {mg : Str → Option Value} (T : Txt K mg) (W : WX) : TS :=
    (tSeq (tAsg (tCallS (spM K (cvT T) m_l_pool) (WE W) (tCons (tVar 0) tNil)) (gName 1))
    (tSeq (tAsg (tLst tNil) (gName 2))
    (tSeq (tFor (iRng1 (tCons (tOp (rAddD K) (tC (.int 2)) (tCallS (spM K (cvT T) m_l_draw) (WE W) (tCons (tVar 1) (tCons (tC (.int 4)) tNil)))) tNil)) (gName 3) (tDrop (tBM K "list" rAppend (tVar 2) (tCons (tCallS (spM K (cvT T) m_l_fresh) (WE W) (tCons (tVar 1) (tCons (tVar 2) tNil))) tNil))))
    (tSeq (tAsg (tCallS (spM K (cvT T) m_l_fresh) (WE W) (tCons (tVar 1) (tCons (tVar 2) tNil))) (gName 4))
    (tSeq (tAsg (tOp (rIxD K) (tVar 2) (tCallS (spM K (cvT T) m_l_draw) (WE W) (tCons (tVar 1) (tCons (tCB (rLenD K) (tCons (tVar 2) tNil)) tNil)))) (gName 5))
    (tSeq (tAsg (tOp (rIxD K) (tVar 2) (tCallS (spM K (cvT T) m_l_draw) (WE W) (tCons (tVar 1) (tCons (tCB (rLenD K) (tCons (tVar 2) tNil)) tNil)))) (gName 6))
    (tSeq (tAsg (tCallS (spM K (cvT T) m_l_plain_rows) (WE W) (tCons (tVar 1) (tCons (tVar 2) (tCons (tVar 5) (tCons (tVar 6) (tCons (tVar 4) tNil)))))) (gName 7))
    (tSeq (tAsg (tOp (rAddD K) (tVar 7) (tCallS (spM K (cvT T) m_l_call_rows) (WE W) (tCons (tVar 1) (tCons (tVar 2) (tCons (tVar 5) (tCons (tVar 4) (tCons (tLst (tCons (tC (.str "worth")) (tCons (tC (.str "lent")) (tCons (tC (.str "worth")) tNil)))) tNil))))))) (gName 7))
    (tSeq (tAsg (tLc (iRng1 (tCons (tCallS (spM K (cvT T) m_l_draw) (WE W) (tCons (tVar 1) (tCons (tC (.int 4)) tNil))) tNil)) (gName 3) tYes (tOp (rIxD K) (tLst (tCons (tC (.str "worth")) (tCons (tC (.str "lent")) tNil))) (tCallS (spM K (cvT T) m_l_draw) (WE (fun _ _ _ _ => False)) (tCons (tVar 1) (tCons (tC (.int 2)) tNil)))) [3]) (gName 8))
    (tSeq (tAsg (tOp (rAddD K) (tVar 7) (tCallS (spM K (cvT T) m_l_call_rows) (WE W) (tCons (tVar 1) (tCons (tVar 2) (tCons (tVar 6) (tCons (tVar 4) (tCons (tVar 8) tNil))))))) (gName 7))
    (tSeq (tAsg (tOp (rAddD K) (tVar 7) (tCallS (spM K (cvT T) m_l_call_rows) (WE W) (tCons (tVar 1) (tCons (tVar 2) (tCons (tVar 6) (tCons (tVar 4) (tCons (tLst (tCons (tC (.str "lent")) (tCons (tC (.str "worth")) (tCons (tC (.str "lent")) tNil)))) tNil))))))) (gName 7))
    (tSeq (tFor (iSeq K (tOp (rAddD K) (tVar 7) (tSl (rSlX K) (tVar 7) tNoPart (tPart (tC (.int 6)))))) (gUnp K 4 (gCons (gName 9) (gCons (gName 10) (gCons (gName 11) (gCons (gName 12) gNil))))) (tSeq (tIfS (tOr (tNot (tTru K (tCallS (spM K (cvT T) (m_l_same 8)) (WE W) (tCons (tCallS (spM K (cvT T) m_names_read) (WE W) (tCons (tVar 9) tNil)) (tCons (tCB (rTupleD K) (tCons (tVar 10) tNil)) tNil))))) (tNot (tTru K (tCallS (spM K (cvT T) (m_l_same 8)) (WE W) (tCons (tCallS (spM K (cvT T) m_names_set) (WE W) (tCons (tVar 9) tNil)) (tCons (tCB (rTupleD K) (tCons (tVar 11) tNil)) tNil)))))) (tRet (tC (.bl false))) tNext)
    (tIfS (tNot (tTru K (tCallS (spM K (cvT T) (m_l_same 8)) (WE W) (tCons (tCallS (spM K (cvT T) m_names_lent) (WE W) (tCons (tVar 9) tNil)) (tCons (tCB (rTupleD K) (tCons (tVar 12) tNil)) tNil))))) (tRet (tC (.bl false))) tNext)))
    (tRet (tC (.bl true)))))))))))))))
theorem sim_law {K : PySem.W.Frag} {mg : Str → Option Value} (T : Txt K mg) (W : WX) : SS (bC K W (cvT T) 1 []) (rd_law T W) (mb_law) := by
  unfold rd_law mb_law lb_law_2 le_law_1 lb_law_1
  exact (ss_seq (ss_asg (se_callS (sa_cons (se_var 0) sa_nil)) (sg_name rfl))
    (ss_seq (ss_asg (se_lst sa_nil) (sg_name rfl))
    (ss_seq (ss_for (si_rng1 (sa_cons (se_op p_add (se_c (.int 2)) (se_callS (sa_cons (se_var 1) (sa_cons (se_c (.int 4)) sa_nil)))) sa_nil)) (sg_name rfl) (ss_drop (se_app (se_callS (sa_cons (se_var 1) (sa_cons (se_var 2) sa_nil))))))
    (ss_seq (ss_asg (se_callS (sa_cons (se_var 1) (sa_cons (se_var 2) sa_nil))) (sg_name rfl))
    (ss_seq (ss_asg (se_op p_ix (se_var 2) (se_callS (sa_cons (se_var 1) (sa_cons (se_cb p_len (sa_cons (se_var 2) sa_nil)) sa_nil)))) (sg_name rfl))
    (ss_seq (ss_asg (se_op p_ix (se_var 2) (se_callS (sa_cons (se_var 1) (sa_cons (se_cb p_len (sa_cons (se_var 2) sa_nil)) sa_nil)))) (sg_name rfl))
    (ss_seq (ss_asg (se_callS (sa_cons (se_var 1) (sa_cons (se_var 2) (sa_cons (se_var 5) (sa_cons (se_var 6) (sa_cons (se_var 4) sa_nil)))))) (sg_name rfl))
    (ss_seq (ss_asg (se_op p_add (se_var 7) (se_callS (sa_cons (se_var 1) (sa_cons (se_var 2) (sa_cons (se_var 5) (sa_cons (se_var 4) (sa_cons (se_lst (sa_cons (se_cs (by decide +kernel)) (sa_cons (se_cs (by decide +kernel)) (sa_cons (se_cs (by decide +kernel)) sa_nil)))) sa_nil))))))) (sg_name rfl))
    (ss_seq (ss_asg (se_lc (si_rng1 (sa_cons (se_callS (sa_cons (se_var 1) (sa_cons (se_c (.int 4)) sa_nil))) sa_nil)) (sg_name rfl) st_yes (se_op p_ix (se_lst (sa_cons (se_cs (by decide +kernel)) (sa_cons (se_cs (by decide +kernel)) sa_nil))) (se_callS (sa_cons (se_var 1) (sa_cons (se_c (.int 2)) sa_nil))))) (sg_name rfl))
    (ss_seq (ss_asg (se_op p_add (se_var 7) (se_callS (sa_cons (se_var 1) (sa_cons (se_var 2) (sa_cons (se_var 6) (sa_cons (se_var 4) (sa_cons (se_var 8) sa_nil))))))) (sg_name rfl))
    (ss_seq (ss_asg (se_op p_add (se_var 7) (se_callS (sa_cons (se_var 1) (sa_cons (se_var 2) (sa_cons (se_var 6) (sa_cons (se_var 4) (sa_cons (se_lst (sa_cons (se_cs (by decide +kernel)) (sa_cons (se_cs (by decide +kernel)) (sa_cons (se_cs (by decide +kernel)) sa_nil)))) sa_nil))))))) (sg_name rfl))
    (ss_seq (ss_for (si_seq (se_op p_add (se_var 7) (se_sl p_sl (se_var 7) so_none (so_part (se_c (.int 6)))))) (sg_unp (sgs_name rfl (sgs_name rfl (sgs_name rfl (sgs_name rfl sgs_nil))))) (ss_seq (ss_if (st_or (st_not (st_tru (se_callS (sa_cons (se_callS (sa_cons (se_var 9) sa_nil)) (sa_cons (se_cb p_tuple (sa_cons (se_var 10) sa_nil)) sa_nil))))) (st_not (st_tru (se_callS (sa_cons (se_callS (sa_cons (se_var 9) sa_nil)) (sa_cons (se_cb p_tuple (sa_cons (se_var 11) sa_nil)) sa_nil)))))) (ss_ret (se_c (.bl false))) ss_next)
    (ss_if (st_not (st_tru (se_callS (sa_cons (se_callS (sa_cons (se_var 9) sa_nil)) (sa_cons (se_cb p_tuple (sa_cons (se_var 12) sa_nil)) sa_nil))))) (ss_ret (se_c (.bl false))) ss_next)))
    (ss_ret (se_c (.bl true)))))))))))))))
theorem fn_law (T : Txt K mg) {k : Nat} {k_l_pool : Nat} (G_l_pool : FnOk P w K mg base (L2.CX P w) k_l_pool T.f_l_pool T.d_l_pool ["_law_script"] (spM K (cvT T) m_l_pool)) (h_l_pool : k_l_pool ≤ k) {k_l_draw : Nat} (G_l_draw : FnOk P w K mg base (L2.CX P w) k_l_draw T.f_l_draw T.d_l_draw ["_law_pool_here", "_law_limit"] (spM K (cvT T) m_l_draw)) (h_l_draw : k_l_draw ≤ k) {k_l_fresh : Nat} (G_l_fresh : FnOk P w K mg base (L2.CX P w) k_l_fresh T.f_l_fresh T.d_l_fresh ["_law_pool_here", "_law_used"] (spM K (cvT T) m_l_fresh)) (h_l_fresh : k_l_fresh ≤ k) {k_l_plain_rows : Nat} (G_l_plain_rows : FnOk P w K mg base (L2.CX P w) k_l_plain_rows T.f_l_plain_rows T.d_l_plain_rows ["_law_pool_here", "_law_names", "_law_x", "_law_y", "_law_own"] (spM K (cvT T) m_l_plain_rows)) (h_l_plain_rows : k_l_plain_rows ≤ k) {k_l_call_rows : Nat} (G_l_call_rows : FnOk P w K mg base (L2.CX P w) k_l_call_rows T.f_l_call_rows T.d_l_call_rows ["_law_pool_here", "_law_names", "_law_x", "_law_own", "_law_forms"] (spM K (cvT T) m_l_call_rows)) (h_l_call_rows : k_l_call_rows ≤ k) {k_l_same : Nat} (G_l_same : FnOk P w K mg base (L2.CX P w) k_l_same T.f_l_same T.d_l_same ["_law_mine", "_law_due"] (spM K (cvT T) (m_l_same 8))) (h_l_same : k_l_same ≤ k) {k_names_read : Nat} (G_names_read : FnOk P w K mg base (L2.CX P w) k_names_read T.f_names_read T.d_names_read ["row"] (spM K (cvT T) m_names_read)) (h_names_read : k_names_read ≤ k) {k_names_set : Nat} (G_names_set : FnOk P w K mg base (L2.CX P w) k_names_set T.f_names_set T.d_names_set ["row"] (spM K (cvT T) m_names_set)) (h_names_set : k_names_set ≤ k) {k_names_lent : Nat} (G_names_lent : FnOk P w K mg base (L2.CX P w) k_names_lent T.f_names_lent T.d_names_lent ["row"] (spM K (cvT T) m_names_lent)) (h_names_lent : k_names_lent ≤ k) : FnOk P w K mg base (L2.CX P w) (k + 1) T.f_law T.d_law ["_law_script"] (spM K (cvT T) (mFun 1 12 [] (mb_law))) := by
  refine T.F_law.okX sc_law (fun vs H Q E h => spM_len vs H Q E h) (fun cdv A outer s H vs Q E hr h0 => ⟨rd_law T (fun c o _ H => E c o H), ?_, body_mir (np := 1) (nl := 12) rfl (sim_law T _) h0⟩)
  exact (pss_cons (sset 1 sc_law.nd (pe_callS G_l_pool (hr.mono h_l_pool) rfl T.g_l_pool T.F_l_pool.kp T.b_l_pool (fun σ => passAt (takes_of rfl rfl rfl rfl) σ) (pa_cons (pv 0) pa_nil)))
      (pss_cons (sset 2 sc_law.nd (pe_lst pa_nil))
      (pss_cons (ps_for (passes_of rfl) rfl (pi_range1 (by rfl) T.b_range (pa_cons (pe_op op_addD pe_int (pe_callS G_l_draw (hr.mono h_l_draw) rfl T.g_l_draw T.F_l_draw.kp T.b_l_draw (fun σ => passAt (takes_of rfl rfl rfl rfl) σ) (pa_cons (pv 1) (pa_cons pe_int pa_nil)))) pa_nil)) (gn 3 sc_law.nd) (pss_one (ps_expr (pe_bm PySem.F.plainAttrs_list PySem.F.slot_list_append PySem.F.type_list_append mt_append (pv 2) (pa_cons (pe_callS G_l_fresh (hr.mono h_l_fresh) rfl T.g_l_fresh T.F_l_fresh.kp T.b_l_fresh (fun σ => passAt (takes_of rfl rfl rfl rfl) σ) (pa_cons (pv 1) (pa_cons (pv 2) pa_nil))) pa_nil)))))
      (pss_cons (sset 4 sc_law.nd (pe_callS G_l_fresh (hr.mono h_l_fresh) rfl T.g_l_fresh T.F_l_fresh.kp T.b_l_fresh (fun σ => passAt (takes_of rfl rfl rfl rfl) σ) (pa_cons (pv 1) (pa_cons (pv 2) pa_nil))))
      (pss_cons (sset 5 sc_law.nd (pe_ix (ix_D hr.units) (pv 2) (pe_callS G_l_draw (hr.mono h_l_draw) rfl T.g_l_draw T.F_l_draw.kp T.b_l_draw (fun σ => passAt (takes_of rfl rfl rfl rfl) σ) (pa_cons (pv 1) (pa_cons (pe_callB call_lenX (by rfl) T.b_len bt_len (pa_cons (pv 2) pa_nil)) pa_nil))) (fun _ _ => rfl)))
      (pss_cons (sset 6 sc_law.nd (pe_ix (ix_D hr.units) (pv 2) (pe_callS G_l_draw (hr.mono h_l_draw) rfl T.g_l_draw T.F_l_draw.kp T.b_l_draw (fun σ => passAt (takes_of rfl rfl rfl rfl) σ) (pa_cons (pv 1) (pa_cons (pe_callB call_lenX (by rfl) T.b_len bt_len (pa_cons (pv 2) pa_nil)) pa_nil))) (fun _ _ => rfl)))
      (pss_cons (sset 7 sc_law.nd (pe_callS G_l_plain_rows (hr.mono h_l_plain_rows) rfl T.g_l_plain_rows T.F_l_plain_rows.kp T.b_l_plain_rows (fun σ => passAt (takes_of rfl rfl rfl rfl) σ) (pa_cons (pv 1) (pa_cons (pv 2) (pa_cons (pv 5) (pa_cons (pv 6) (pa_cons (pv 4) pa_nil)))))))
      (pss_cons (sset 7 sc_law.nd (pe_op op_addD (pv 7) (pe_callS G_l_call_rows (hr.mono h_l_call_rows) rfl T.g_l_call_rows T.F_l_call_rows.kp T.b_l_call_rows (fun σ => passAt (takes_of rfl rfl rfl rfl) σ) (pa_cons (pv 1) (pa_cons (pv 2) (pa_cons (pv 5) (pa_cons (pv 4) (pa_cons (pe_lst (pa_cons pe_str (pa_cons pe_str (pa_cons pe_str pa_nil)))) pa_nil))))))))
      (pss_cons (ps_setLc (i := 8) (own := [("_law_k", 3)]) (g := (gName 3)) (tt := tYes) rfl sc_law.nd rfl rfl (sw_true rfl rfl rfl (by decide +kernel)) (pi_range1 (by rfl) T.b_range (pa_cons (pe_callS G_l_draw (hr.mono h_l_draw) rfl T.g_l_draw T.F_l_draw.kp T.b_l_draw (fun σ => passAt (takes_of rfl rfl rfl rfl) σ) (pa_cons (pv 1) (pa_cons pe_int pa_nil))) pa_nil)) (blkOk_by (own := [("_law_k", 3)]) (N := nm_law) (sc := defScope s_law) (by decide +kernel)) (fun _ _ _ _ _ => (gn 3 sc_law.nd)) (fun _ _ _ _ _ => pts_nil) (fun _ _ _ _ _ => (pe_ix (ix_D hr.units) (pe_lst (pa_cons pe_str (pa_cons pe_str pa_nil))) (pe_callS G_l_draw (hr.mono h_l_draw) rfl T.g_l_draw T.F_l_draw.kp T.b_l_draw (fun σ => passAt takes0 σ) (pa_cons (pv 1) (pa_cons pe_int pa_nil))) (fun _ _ => rfl))))
      (pss_cons (sset 7 sc_law.nd (pe_op op_addD (pv 7) (pe_callS G_l_call_rows (hr.mono h_l_call_rows) rfl T.g_l_call_rows T.F_l_call_rows.kp T.b_l_call_rows (fun σ => passAt (takes_of rfl rfl rfl rfl) σ) (pa_cons (pv 1) (pa_cons (pv 2) (pa_cons (pv 6) (pa_cons (pv 4) (pa_cons (pv 8) pa_nil))))))))
      (pss_cons (sset 7 sc_law.nd (pe_op op_addD (pv 7) (pe_callS G_l_call_rows (hr.mono h_l_call_rows) rfl T.g_l_call_rows T.F_l_call_rows.kp T.b_l_call_rows (fun σ => passAt (takes_of rfl rfl rfl rfl) σ) (pa_cons (pv 1) (pa_cons (pv 2) (pa_cons (pv 6) (pa_cons (pv 4) (pa_cons (pe_lst (pa_cons pe_str (pa_cons pe_str (pa_cons pe_str pa_nil)))) pa_nil))))))))
      (pss_cons (ps_for (passes_of rfl) rfl (pi_seq (pe_op op_addD (pv 7) (pe_slice sl_X (pv 7) po_none (po_some pe_int)))) (pg_unp rfl (pgs_cons (gn 9 sc_law.nd) (pgs_cons (gn 10 sc_law.nd) (pgs_cons (gn 11 sc_law.nd) (pgs_cons (gn 12 sc_law.nd) pgs_nil))))) (pss_cons (ps_if (PW.pt (pw_or (pt_not (pt_truthD (pe_callS G_l_same (hr.mono h_l_same) rfl T.g_l_same T.F_l_same.kp T.b_l_same (fun σ => passAt (takes_of rfl rfl rfl rfl) σ) (pa_cons (pe_callS G_names_read (hr.mono h_names_read) rfl T.g_names_read T.F_names_read.kp T.b_names_read (fun σ => passAt (takes_of rfl rfl rfl rfl) σ) (pa_cons (pv 9) pa_nil)) (pa_cons (pe_callTy call_tupleD (by rfl) T.b_tuple bt_tuple (pa_cons (pv 10) pa_nil)) pa_nil))) (by intro _; rfl))) (pw_or1 (pt_not (pt_truthD (pe_callS G_l_same (hr.mono h_l_same) rfl T.g_l_same T.F_l_same.kp T.b_l_same (fun σ => passAt (takes_of rfl rfl rfl rfl) σ) (pa_cons (pe_callS G_names_set (hr.mono h_names_set) rfl T.g_names_set T.F_names_set.kp T.b_names_set (fun σ => passAt (takes_of rfl rfl rfl rfl) σ) (pa_cons (pv 9) pa_nil)) (pa_cons (pe_callTy call_tupleD (by rfl) T.b_tuple bt_tuple (pa_cons (pv 11) pa_nil)) pa_nil))) (by intro _; rfl)))))) (pss_one (ps_ret pe_bl)) pss_nil)
      (pss_one (ps_if (pt_not (pt_truthD (pe_callS G_l_same (hr.mono h_l_same) rfl T.g_l_same T.F_l_same.kp T.b_l_same (fun σ => passAt (takes_of rfl rfl rfl rfl) σ) (pa_cons (pe_callS G_names_lent (hr.mono h_names_lent) rfl T.g_names_lent T.F_names_lent.kp T.b_names_lent (fun σ => passAt (takes_of rfl rfl rfl rfl) σ) (pa_cons (pv 9) pa_nil)) (pa_cons (pe_callTy call_tupleD (by rfl) T.b_tuple bt_tuple (pa_cons (pv 12) pa_nil)) pa_nil))) (by intro _; rfl))) (pss_one (ps_ret pe_bl)) pss_nil))))
      (pss_one (ps_ret pe_bl))))))))))))))
theorem ok_law (T : Txt K mg) : FnOk P w K mg base (L2.CX P w) 16 T.f_law T.d_law ["_law_script"] (spM K (cvT T) m_law) := fn_law (k := 15) T (ok_l_pool T) (by omega) (ok_l_draw T) (by omega) (ok_l_fresh T) (by omega) (ok_l_plain_rows T) (by omega) (ok_l_call_rows T) (by omega) (okn_l_same T) (by omega) (ok_names_read T) (by omega) (ok_names_set T) (by omega) (ok_names_lent T) (by omega)
end
end Q

namespace Q
open PySem L2
local macro_rules | `(tactic| walk_at "ev") => `(tactic| simp only [ev_seq, kSeq_nx, kSeq_rt, kSeq_bk, kSeq_ct, kSeq_ex, ev_asg, kAsg_ok, kAsg_ex, kAsg2_ok, kAsg3_ok, ev_nm, ev_ixg, kIx0_ok, kIx_ok, kIx2_ok, kIx3_ok, ev_un, kUnp_ok, ev_gscons, kGs_ok, ev_gsnil, ev_next, ev_break, ev_cont, ev_retN, ev_drop, kDrop_ok, kDrop_ex, ev_if, ev_ifE, kIf_t, kIf_f, kIf_ex, ev_ret, kRet_ok, kRet_ex, kRet2_ok, ev_c, ev_var, kVar_fz, kVar_m, res_al, kJ_ok, ev_unr, kUn_ok, ev_op, kOp_ok, kOp_ex, kOp2_ok, kOp2_ex, kP_ok, ev_ap1, kA1_ok, ev_ap2, kA2_ok, ev_cb, kCB_ok, ev_apN, kAN_ok, ev_lnil, ev_lcons, kL_ok, ev_nil, ev_cons, kCons_ok, kCons_ex, kCons2_ok, ev_test, kTest_ok, kTest_ex, ev_tru, kTru_ok, kTr2_ok, kTr3_ok, ev_and, ev_or, ev_not, kAnd_t, kAnd_f, kOr_t, kOr_f, kNot_ok, ev_andV, ev_orV, ev_notV, kAndV_t, kAndV_f, kOrV_t, kOrV_f, kNotV_ok, ev_lst, ev_tup, kLst_ok, kLst_ex, kLs2_ok, ev_tnil, ev_tcons, kT_ok, kT2_ok, tkf_fz, tkf_mls, tkf_al, kTkf_ok, tk_fz, tk_mls, tk_al, kTk_ok, frz_of, frz_mls, res_fz, res_mls, out_fz, out_mls, out_al, kOut_ok, ev_nopart, ev_part, kPart_ok, ev_sl, kSl_ok, kSl2_ok, kSl3_ok, kSl4_ok, ev_app, kApp0_ok, kApp_ok, kApp_ex, kApp2_ok, kApp3_ok, ev_ext, kExt0_ok, kExt_ok, kE2_lst, kE2_mls, kE2_tup, ev_call, kCall_ok, kC2_ok, kC3_ok, kC3_ex, ev_for, kFor_ok, loop_nil, loop_cons, kLp0_ok, kLp_nx, kLp_ct, kLp_bk, kLp_rt, kLp_ex, ev_si, kSI_ok, kSI2_ok, kSI3_ok, ev_r1, kR1_ok, ev_r2, ev_v1, ev_lc, kLc_ok, kLc2_ok, cl_nil, cl_cons, kQ_ok, kQ2_t, kQ2_f, kQ3_ok, kQ4_ok, kFun_rt, kFun_nx, kFun_ex, kF2_ok, kF3_ok, outA_nil, outA_fz, outA_mls, kO_ok, back_nil, back_al, back_fz, als_nil, als_fz, als_al, isAl_fz, isAlK_fz, isFz_non, isAl_non, isAlK_non, isFz_bl, isAl_bl, isAlK_bl, isFz_int, isAl_int, isAlK_int, isFz_str, isAl_str, isAlK_str, isFz_cst, isAl_cst, isAlK_cst, isFz_tup, isAl_tup, isAlK_tup, isFz_lst, isAl_lst, isAlK_lst, isFz_rol, isAl_rol, isAlK_rol, isFz_mls, isAl_mls, isAlK_mls, isFz_al, isAl_al, isAlK_al, dIs_non, dIsNot_non, dIs_bl, dIsNot_bl, dIs_int, dIsNot_int, dIs_str, dIsNot_str, dIs_tup, dIsNot_tup, dIs_lst, dIsNot_lst, dIs_rol, dIsNot_rol, dIs_mls, dIsNot_mls, dIx_tup, dIx_lst, dIx_mls, dIx_rol, dLen_tup, dLen_lst, dLen_mls, dLen_rol, eqD_int, eqD_str, eqD_bl, eqD_non, neD_int, neD_str, neD_bl, neD_non, atI_l0, atI_l1, atI_l2, atI_l3, atI_l4, atI_l5, atI_l6, atI_l7, atI_m1, atI_m2, atI_m3, atI_m4, atI_m5, st_inj, st_cps, st_len, st_app, dAdd_st, dAdd_int, dAdd_tup, dAdd_ll, dAdd_lm, dAdd_ml, dAdd_mm, dIx_st, dSl_st, dSl_tup, dSl_lst, dSl_mls, dLen_st, tru_st, tru_non, tru_bl, tru_int, tru_tup, tru_lst, tru_mls, dIn_st, dNotIn_st, dIn_lst, dIn_mls, dIn_tup, dNotIn_lst, dNotIn_mls, dNotIn_tup, among_nil, among_ss, among_ii, flat_int, flat_str, flat_bl, flat_non, flat_strs, flat_ints, isi_non_bool, isi_bl_bool, isi_int_bool, isi_str_bool, isi_tup_bool, isi_lst_bool, isi_mls_bool, isi_non_int, isi_bl_int, isi_int_int, isi_str_int, isi_tup_int, isi_lst_int, isi_mls_int, isi_non_str, isi_bl_str, isi_int_str, isi_str_str, isi_tup_str, isi_lst_str, isi_mls_str, isi_non_list, isi_bl_list, isi_int_list, isi_str_list, isi_tup_list, isi_lst_list, isi_mls_list, isi_non_tuple, isi_bl_tuple, isi_int_tuple, isi_str_tuple, isi_tup_tuple, isi_lst_tuple, isi_mls_tuple, cutN_to, cutN_from, cutD_to, cutD_from, eq_self, seqD, lsD, List.getElem?_cons_zero, List.getElem?_cons_succ, List.set_cons_zero, List.set_cons_succ, List.map_cons, List.map_nil, List.replicate, List.cons_append, List.nil_append, List.append_nil, List.length_cons, List.length_nil, List.any_cons, List.any_nil, List.all_cons, List.all_nil, Bool.or_false, Bool.or_true, Bool.false_or, Bool.true_or, Bool.and_false, Bool.false_and, Bool.not_false, Bool.and_true, Bool.true_and, Bool.and_self, beq_iff_eq, reduceIte, Bool.not_true, Nat.reduceAdd, Nat.reduceLT, Nat.reduceLeDiff, Nat.reduceEqDiff, Nat.reduceBEq, Nat.zero_add, Bool.false_eq_true, decide_true, decide_false, not_false_eq_true, Int.reduceLT, Int.reduceLE, Int.reduceAdd, Int.reduceSub, Int.reduceNeg, Int.reduceEq, Int.reduceToNat, Int.cast_ofNat_Int, Int.reducePow, Int.natAbs, and_self, and_true, true_and, or_true, true_or, and_false, false_and, ixN, Option.bind_some, Option.map_some, List.cons.injEq, reduceCtorEq, List.isEmpty_cons, List.isEmpty_nil, wipeE, dSub, dMul, dDiv, dMod, dPow, dNeg, dLt, dLe, dGt, dGe, dInt, dList, dTuple, dMin, dMax, dIpAdd])
local macro_rules | `(tactic| push_cast [$ts,*]) => `(tactic| simp only [$ts,*, ev_seq, kSeq_nx, kSeq_rt, kSeq_bk, kSeq_ct, kSeq_ex, ev_asg, kAsg_ok, kAsg_ex, kAsg2_ok, kAsg3_ok, ev_nm, ev_ixg, kIx0_ok, kIx_ok, kIx2_ok, kIx3_ok, ev_un, kUnp_ok, ev_gscons, kGs_ok, ev_gsnil, ev_next, ev_break, ev_cont, ev_retN, ev_drop, kDrop_ok, kDrop_ex, ev_if, ev_ifE, kIf_t, kIf_f, kIf_ex, ev_ret, kRet_ok, kRet_ex, kRet2_ok, ev_c, ev_var, kVar_fz, kVar_m, res_al, kJ_ok, ev_unr, kUn_ok, ev_op, kOp_ok, kOp_ex, kOp2_ok, kOp2_ex, kP_ok, ev_ap1, kA1_ok, ev_ap2, kA2_ok, ev_cb, kCB_ok, ev_apN, kAN_ok, ev_lnil, ev_lcons, kL_ok, ev_nil, ev_cons, kCons_ok, kCons_ex, kCons2_ok, ev_test, kTest_ok, kTest_ex, ev_tru, kTru_ok, kTr2_ok, kTr3_ok, ev_and, ev_or, ev_not, kAnd_t, kAnd_f, kOr_t, kOr_f, kNot_ok, ev_andV, ev_orV, ev_notV, kAndV_t, kAndV_f, kOrV_t, kOrV_f, kNotV_ok, ev_lst, ev_tup, kLst_ok, kLst_ex, kLs2_ok, ev_tnil, ev_tcons, kT_ok, kT2_ok, tkf_fz, tkf_mls, tkf_al, kTkf_ok, tk_fz, tk_mls, tk_al, kTk_ok, frz_of, frz_mls, res_fz, res_mls, out_fz, out_mls, out_al, kOut_ok, ev_nopart, ev_part, kPart_ok, ev_sl, kSl_ok, kSl2_ok, kSl3_ok, kSl4_ok, ev_app, kApp0_ok, kApp_ok, kApp_ex, kApp2_ok, kApp3_ok, ev_ext, kExt0_ok, kExt_ok, kE2_lst, kE2_mls, kE2_tup, ev_call, kCall_ok, kC2_ok, kC3_ok, kC3_ex, ev_for, kFor_ok, loop_nil, loop_cons, kLp0_ok, kLp_nx, kLp_ct, kLp_bk, kLp_rt, kLp_ex, ev_si, kSI_ok, kSI2_ok, kSI3_ok, ev_r1, kR1_ok, ev_r2, ev_v1, ev_lc, kLc_ok, kLc2_ok, cl_nil, cl_cons, kQ_ok, kQ2_t, kQ2_f, kQ3_ok, kQ4_ok, kFun_rt, kFun_nx, kFun_ex, kF2_ok, kF3_ok, outA_nil, outA_fz, outA_mls, kO_ok, back_nil, back_al, back_fz, als_nil, als_fz, als_al, isAl_fz, isAlK_fz, isFz_non, isAl_non, isAlK_non, isFz_bl, isAl_bl, isAlK_bl, isFz_int, isAl_int, isAlK_int, isFz_str, isAl_str, isAlK_str, isFz_cst, isAl_cst, isAlK_cst, isFz_tup, isAl_tup, isAlK_tup, isFz_lst, isAl_lst, isAlK_lst, isFz_rol, isAl_rol, isAlK_rol, isFz_mls, isAl_mls, isAlK_mls, isFz_al, isAl_al, isAlK_al, dIs_non, dIsNot_non, dIs_bl, dIsNot_bl, dIs_int, dIsNot_int, dIs_str, dIsNot_str, dIs_tup, dIsNot_tup, dIs_lst, dIsNot_lst, dIs_rol, dIsNot_rol, dIs_mls, dIsNot_mls, dIx_tup, dIx_lst, dIx_mls, dIx_rol, dLen_tup, dLen_lst, dLen_mls, dLen_rol, eqD_int, eqD_str, eqD_bl, eqD_non, neD_int, neD_str, neD_bl, neD_non, atI_l0, atI_l1, atI_l2, atI_l3, atI_l4, atI_l5, atI_l6, atI_l7, atI_m1, atI_m2, atI_m3, atI_m4, atI_m5, st_inj, st_cps, st_len, st_app, dAdd_st, dAdd_int, dAdd_tup, dAdd_ll, dAdd_lm, dAdd_ml, dAdd_mm, dIx_st, dSl_st, dSl_tup, dSl_lst, dSl_mls, dLen_st, tru_st, tru_non, tru_bl, tru_int, tru_tup, tru_lst, tru_mls, dIn_st, dNotIn_st, dIn_lst, dIn_mls, dIn_tup, dNotIn_lst, dNotIn_mls, dNotIn_tup, among_nil, among_ss, among_ii, flat_int, flat_str, flat_bl, flat_non, flat_strs, flat_ints, isi_non_bool, isi_bl_bool, isi_int_bool, isi_str_bool, isi_tup_bool, isi_lst_bool, isi_mls_bool, isi_non_int, isi_bl_int, isi_int_int, isi_str_int, isi_tup_int, isi_lst_int, isi_mls_int, isi_non_str, isi_bl_str, isi_int_str, isi_str_str, isi_tup_str, isi_lst_str, isi_mls_str, isi_non_list, isi_bl_list, isi_int_list, isi_str_list, isi_tup_list, isi_lst_list, isi_mls_list, isi_non_tuple, isi_bl_tuple, isi_int_tuple, isi_str_tuple, isi_tup_tuple, isi_lst_tuple, isi_mls_tuple, cutN_to, cutN_from, cutD_to, cutD_from, eq_self, seqD, lsD, List.getElem?_cons_zero, List.getElem?_cons_succ, List.set_cons_zero, List.set_cons_succ, List.map_cons, List.map_nil, List.replicate, List.cons_append, List.nil_append, List.append_nil, List.length_cons, List.length_nil, List.any_cons, List.any_nil, List.all_cons, List.all_nil, Bool.or_false, Bool.or_true, Bool.false_or, Bool.true_or, Bool.and_false, Bool.false_and, Bool.not_false, Bool.and_true, Bool.true_and, Bool.and_self, beq_iff_eq, reduceIte, Bool.not_true, Nat.reduceAdd, Nat.reduceLT, Nat.reduceLeDiff, Nat.reduceEqDiff, Nat.reduceBEq, Nat.zero_add, Bool.false_eq_true, decide_true, decide_false, not_false_eq_true, Int.reduceLT, Int.reduceLE, Int.reduceAdd, Int.reduceSub, Int.reduceNeg, Int.reduceEq, Int.reduceToNat, Int.cast_ofNat_Int, Int.reducePow, Int.natAbs, and_self, and_true, true_and, or_true, true_or, and_false, false_and, ixN, Option.bind_some, Option.map_some, List.cons.injEq, reduceCtorEq, List.isEmpty_cons, List.isEmpty_nil, wipeE, dSub, dMul, dDiv, dMod, dPow, dNeg, dLt, dLe, dGt, dGe, dInt, dList, dTuple, dMin, dMax, dIpAdd])
/-! ### drawing -/
theorem mixed_eq (c t n : Int) (hn : 0 < n) : m_l_mixed [.int c, .int t, .int n] = some (.ok (.int ((((c * 48271 + t * 69621 + 11) % 2147483647 * 40692 + c * 16807 + t * 30269) % 2147483399 * 39373 +
                      (c * 48271 + t * 69621 + 11) % 2147483647 / 7) % 1000000007 % n)) [.int c, .int t, .int n]) := by
  unfold m_l_mixed mb_l_mixed
  rw [ev_fun (by rfl) (by rfl)]
  push_cast [hn]
theorem mixed_ok (c t n : Int) (hn : 0 < n) : ∃ r, m_l_mixed [.int c, .int t, .int n] = some (.ok (.int r) [.int c, .int t, .int n]) ∧ 0 ≤ r ∧ r < n :=
  ⟨_, mixed_eq c t n hn, Int.emod_nonneg _ (by omega), Int.emod_lt_of_pos _ hn⟩
theorem pool_eq (ns : List Int) : m_l_pool [.rol (ns.map D.int)] = some (.ok (.mls [.lst (ns.map D.int), .int 0, .int 0, .int 0, .int 0]) [.rol (ns.map D.int)]) := by
  unfold m_l_pool mb_l_pool
  rw [ev_fun (by rfl) (by rfl)]
  walk_at "ev"
/-- a pool, as it may stand -/
structure Pool where
  s : List Int
  i : Nat
  a : Int
  b : Int
  c : Int
def Pool.d (p : Pool) : D := .mls [.lst (p.s.map D.int), .int p.i, .int p.a, .int p.b, .int p.c]
theorem Pool.isFz (p : Pool) : Q.isFz p.d = false := nr rfl
theorem Pool.isAl (p : Pool) : Q.isAl p.d = false := nr rfl
theorem Pool.kVar (p : Pool) (i : Nat) (e : Env) : Q.kVar (some (some p.d)) i e = some (.ok (.al i) e) := nr rfl
theorem Pool.outA (p : Pool) (ds : List D) (o : Option D) (e : Env) : Q.outA (p.d :: ds) (o :: e) = kO o (Q.outA ds e) := outA_mls _ _ _ _
theorem Pool.res (p : Pool) (e : Env) : Q.res e p.d = some p.d := nr rfl
theorem Pool.tk (p : Pool) (e : Env) : Q.tk p.d e = some (p.d, e) := nr rfl
theorem pool_new (ns : List Int) : ∃ p : Pool, m_l_pool [.rol (ns.map D.int)] = some (.ok p.d [.rol (ns.map D.int)]) := ⟨⟨ns, 0, 0, 0, 0⟩, pool_eq ns⟩
theorem draw_ok (p : Pool) {n : Int} (hn : 0 < n) (hn2 : n < 1073741824) : ∃ (r : Int) (p' : Pool), m_l_draw [p.d, .int n] = some (.ok (.int r) [p'.d, .int n]) ∧ 0 ≤ r ∧ r < n := by
  obtain ⟨s, i, a, b, c⟩ := p
  show ∃ (r : Int) (p' : Pool), m_l_draw [.mls [.lst (s.map D.int), .int i, .int a, .int b, .int c], .int n] = _ ∧ _
  unfold m_l_draw mb_l_draw
  rw [ev_fun (by rfl) (by rfl)]
  by_cases h1 : 0 < a
  · push_cast [h1, hn, hn2]
    exact ⟨_, ⟨s, i, a / n, b, c⟩, rfl, Int.emod_nonneg _ (by omega), Int.emod_lt_of_pos _ hn⟩
  · by_cases h2 : 0 < c
    · obtain ⟨r, hr, h3, h4⟩ := mixed_ok b (c - 1) n hn
      push_cast [h1, h2, hr]
      exact ⟨r, ⟨s, i, a, b, c - 1⟩, rfl, h3, h4⟩
    · by_cases h3 : (s.length : Int) ≤ i
      · push_cast [h1, h2, h3, List.length_map]
        exact ⟨0, ⟨s, i, a, b, c⟩, rfl, by omega, hn⟩
      · have hi : i < s.length := by omega
        obtain ⟨x, hx⟩ : ∃ x, s[i]? = some x := ⟨s[i], by simp [hi]⟩
        have hat : atI (List.map D.int s) (i : Int) = some (.int x) := by
          rw [atI_nat (j := i) (v := .int x) (by rw [List.getElem?_map, hx]; rfl)]
        have hle : (s.length : Int) ≤ i ↔ False := by simp; omega
        by_cases h5 : x < 0
        · by_cases h6 : (1000000000000000000 : Int) ≤ -1 - x
          · push_cast [h1, h2, hle, List.length_map, hat, h5, h6, hn, hn2]
            exact ⟨_, ⟨s, i + 1, (-1 - x) / n, b, c⟩, rfl, Int.emod_nonneg _ (by omega), Int.emod_lt_of_pos _ hn⟩
          · obtain ⟨r, hr, h7, h8⟩ := mixed_ok (-1 - x) 7 n hn
            push_cast [h1, h2, hle, List.length_map, hat, h5, h6, hn, hn2, hr]
            exact ⟨r, ⟨s, i + 1, a, -1 - x, 7⟩, rfl, h7, h8⟩
        · by_cases h6 : (1000000000000000000 : Int) ≤ x
          · push_cast [h1, h2, hle, List.length_map, hat, h5, h6, hn, hn2]
            exact ⟨_, ⟨s, i + 1, x / n, b, c⟩, rfl, Int.emod_nonneg _ (by omega), Int.emod_lt_of_pos _ hn⟩
          · obtain ⟨r, hr, h7, h8⟩ := mixed_ok x 7 n hn
            push_cast [h1, h2, hle, List.length_map, hat, h5, h6, hn, hn2, hr]
            exact ⟨r, ⟨s, i + 1, a, x, 7⟩, rfl, h7, h8⟩
local macro_rules | `(tactic| walk_at "ev") => `(tactic| simp only [Pool.isFz, Pool.isAl, Pool.kVar, Pool.outA, Pool.res, Pool.tk, ev_seq, kSeq_nx, kSeq_rt, kSeq_bk, kSeq_ct, kSeq_ex, ev_asg, kAsg_ok, kAsg_ex, kAsg2_ok, kAsg3_ok, ev_nm, ev_ixg, kIx0_ok, kIx_ok, kIx2_ok, kIx3_ok, ev_un, kUnp_ok, ev_gscons, kGs_ok, ev_gsnil, ev_next, ev_break, ev_cont, ev_retN, ev_drop, kDrop_ok, kDrop_ex, ev_if, ev_ifE, kIf_t, kIf_f, kIf_ex, ev_ret, kRet_ok, kRet_ex, kRet2_ok, ev_c, ev_var, kVar_fz, kVar_m, res_al, kJ_ok, ev_unr, kUn_ok, ev_op, kOp_ok, kOp_ex, kOp2_ok, kOp2_ex, kP_ok, ev_ap1, kA1_ok, ev_ap2, kA2_ok, ev_cb, kCB_ok, ev_apN, kAN_ok, ev_lnil, ev_lcons, kL_ok, ev_nil, ev_cons, kCons_ok, kCons_ex, kCons2_ok, ev_test, kTest_ok, kTest_ex, ev_tru, kTru_ok, kTr2_ok, kTr3_ok, ev_and, ev_or, ev_not, kAnd_t, kAnd_f, kOr_t, kOr_f, kNot_ok, ev_andV, ev_orV, ev_notV, kAndV_t, kAndV_f, kOrV_t, kOrV_f, kNotV_ok, ev_lst, ev_tup, kLst_ok, kLst_ex, kLs2_ok, ev_tnil, ev_tcons, kT_ok, kT2_ok, tkf_fz, tkf_mls, tkf_al, kTkf_ok, tk_fz, tk_mls, tk_al, kTk_ok, frz_of, frz_mls, res_fz, res_mls, out_fz, out_mls, out_al, kOut_ok, ev_nopart, ev_part, kPart_ok, ev_sl, kSl_ok, kSl2_ok, kSl3_ok, kSl4_ok, ev_app, kApp0_ok, kApp_ok, kApp_ex, kApp2_ok, kApp3_ok, ev_ext, kExt0_ok, kExt_ok, kE2_lst, kE2_mls, kE2_tup, ev_call, kCall_ok, kC2_ok, kC3_ok, kC3_ex, ev_for, kFor_ok, loop_nil, loop_cons, kLp0_ok, kLp_nx, kLp_ct, kLp_bk, kLp_rt, kLp_ex, ev_si, kSI_ok, kSI2_ok, kSI3_ok, ev_r1, kR1_ok, ev_r2, ev_v1, ev_lc, kLc_ok, kLc2_ok, cl_nil, cl_cons, kQ_ok, kQ2_t, kQ2_f, kQ3_ok, kQ4_ok, kFun_rt, kFun_nx, kFun_ex, kF2_ok, kF3_ok, outA_nil, outA_fz, outA_mls, kO_ok, back_nil, back_al, back_fz, als_nil, als_fz, als_al, isAl_fz, isAlK_fz, isFz_non, isAl_non, isAlK_non, isFz_bl, isAl_bl, isAlK_bl, isFz_int, isAl_int, isAlK_int, isFz_str, isAl_str, isAlK_str, isFz_cst, isAl_cst, isAlK_cst, isFz_tup, isAl_tup, isAlK_tup, isFz_lst, isAl_lst, isAlK_lst, isFz_rol, isAl_rol, isAlK_rol, isFz_mls, isAl_mls, isAlK_mls, isFz_al, isAl_al, isAlK_al, dIs_non, dIsNot_non, dIs_bl, dIsNot_bl, dIs_int, dIsNot_int, dIs_str, dIsNot_str, dIs_tup, dIsNot_tup, dIs_lst, dIsNot_lst, dIs_rol, dIsNot_rol, dIs_mls, dIsNot_mls, dIx_tup, dIx_lst, dIx_mls, dIx_rol, dLen_tup, dLen_lst, dLen_mls, dLen_rol, eqD_int, eqD_str, eqD_bl, eqD_non, neD_int, neD_str, neD_bl, neD_non, atI_l0, atI_l1, atI_l2, atI_l3, atI_l4, atI_l5, atI_l6, atI_l7, atI_m1, atI_m2, atI_m3, atI_m4, atI_m5, st_inj, st_cps, st_len, st_app, dAdd_st, dAdd_int, dAdd_tup, dAdd_ll, dAdd_lm, dAdd_ml, dAdd_mm, dIx_st, dSl_st, dSl_tup, dSl_lst, dSl_mls, dLen_st, tru_st, tru_non, tru_bl, tru_int, tru_tup, tru_lst, tru_mls, dIn_st, dNotIn_st, dIn_lst, dIn_mls, dIn_tup, dNotIn_lst, dNotIn_mls, dNotIn_tup, among_nil, among_ss, among_ii, flat_int, flat_str, flat_bl, flat_non, flat_strs, flat_ints, isi_non_bool, isi_bl_bool, isi_int_bool, isi_str_bool, isi_tup_bool, isi_lst_bool, isi_mls_bool, isi_non_int, isi_bl_int, isi_int_int, isi_str_int, isi_tup_int, isi_lst_int, isi_mls_int, isi_non_str, isi_bl_str, isi_int_str, isi_str_str, isi_tup_str, isi_lst_str, isi_mls_str, isi_non_list, isi_bl_list, isi_int_list, isi_str_list, isi_tup_list, isi_lst_list, isi_mls_list, isi_non_tuple, isi_bl_tuple, isi_int_tuple, isi_str_tuple, isi_tup_tuple, isi_lst_tuple, isi_mls_tuple, cutN_to, cutN_from, cutD_to, cutD_from, eq_self, seqD, lsD, List.getElem?_cons_zero, List.getElem?_cons_succ, List.set_cons_zero, List.set_cons_succ, List.map_cons, List.map_nil, List.replicate, List.cons_append, List.nil_append, List.append_nil, List.length_cons, List.length_nil, List.any_cons, List.any_nil, List.all_cons, List.all_nil, Bool.or_false, Bool.or_true, Bool.false_or, Bool.true_or, Bool.and_false, Bool.false_and, Bool.not_false, Bool.and_true, Bool.true_and, Bool.and_self, beq_iff_eq, reduceIte, Bool.not_true, Nat.reduceAdd, Nat.reduceLT, Nat.reduceLeDiff, Nat.reduceEqDiff, Nat.reduceBEq, Nat.zero_add, Bool.false_eq_true, decide_true, decide_false, not_false_eq_true, Int.reduceLT, Int.reduceLE, Int.reduceAdd, Int.reduceSub, Int.reduceNeg, Int.reduceEq, Int.reduceToNat, Int.cast_ofNat_Int, Int.reducePow, Int.natAbs, and_self, and_true, true_and, or_true, true_or, and_false, false_and, ixN, Option.bind_some, Option.map_some, List.cons.injEq, reduceCtorEq, List.isEmpty_cons, List.isEmpty_nil, wipeE, dSub, dMul, dDiv, dMod, dPow, dNeg, dLt, dLe, dGt, dGe, dInt, dList, dTuple, dMin, dMax, dIpAdd])
local macro_rules | `(tactic| push_cast [$ts,*]) => `(tactic| simp only [$ts,*, Pool.isFz, Pool.isAl, Pool.kVar, Pool.outA, Pool.res, Pool.tk, ev_seq, kSeq_nx, kSeq_rt, kSeq_bk, kSeq_ct, kSeq_ex, ev_asg, kAsg_ok, kAsg_ex, kAsg2_ok, kAsg3_ok, ev_nm, ev_ixg, kIx0_ok, kIx_ok, kIx2_ok, kIx3_ok, ev_un, kUnp_ok, ev_gscons, kGs_ok, ev_gsnil, ev_next, ev_break, ev_cont, ev_retN, ev_drop, kDrop_ok, kDrop_ex, ev_if, ev_ifE, kIf_t, kIf_f, kIf_ex, ev_ret, kRet_ok, kRet_ex, kRet2_ok, ev_c, ev_var, kVar_fz, kVar_m, res_al, kJ_ok, ev_unr, kUn_ok, ev_op, kOp_ok, kOp_ex, kOp2_ok, kOp2_ex, kP_ok, ev_ap1, kA1_ok, ev_ap2, kA2_ok, ev_cb, kCB_ok, ev_apN, kAN_ok, ev_lnil, ev_lcons, kL_ok, ev_nil, ev_cons, kCons_ok, kCons_ex, kCons2_ok, ev_test, kTest_ok, kTest_ex, ev_tru, kTru_ok, kTr2_ok, kTr3_ok, ev_and, ev_or, ev_not, kAnd_t, kAnd_f, kOr_t, kOr_f, kNot_ok, ev_andV, ev_orV, ev_notV, kAndV_t, kAndV_f, kOrV_t, kOrV_f, kNotV_ok, ev_lst, ev_tup, kLst_ok, kLst_ex, kLs2_ok, ev_tnil, ev_tcons, kT_ok, kT2_ok, tkf_fz, tkf_mls, tkf_al, kTkf_ok, tk_fz, tk_mls, tk_al, kTk_ok, frz_of, frz_mls, res_fz, res_mls, out_fz, out_mls, out_al, kOut_ok, ev_nopart, ev_part, kPart_ok, ev_sl, kSl_ok, kSl2_ok, kSl3_ok, kSl4_ok, ev_app, kApp0_ok, kApp_ok, kApp_ex, kApp2_ok, kApp3_ok, ev_ext, kExt0_ok, kExt_ok, kE2_lst, kE2_mls, kE2_tup, ev_call, kCall_ok, kC2_ok, kC3_ok, kC3_ex, ev_for, kFor_ok, loop_nil, loop_cons, kLp0_ok, kLp_nx, kLp_ct, kLp_bk, kLp_rt, kLp_ex, ev_si, kSI_ok, kSI2_ok, kSI3_ok, ev_r1, kR1_ok, ev_r2, ev_v1, ev_lc, kLc_ok, kLc2_ok, cl_nil, cl_cons, kQ_ok, kQ2_t, kQ2_f, kQ3_ok, kQ4_ok, kFun_rt, kFun_nx, kFun_ex, kF2_ok, kF3_ok, outA_nil, outA_fz, outA_mls, kO_ok, back_nil, back_al, back_fz, als_nil, als_fz, als_al, isAl_fz, isAlK_fz, isFz_non, isAl_non, isAlK_non, isFz_bl, isAl_bl, isAlK_bl, isFz_int, isAl_int, isAlK_int, isFz_str, isAl_str, isAlK_str, isFz_cst, isAl_cst, isAlK_cst, isFz_tup, isAl_tup, isAlK_tup, isFz_lst, isAl_lst, isAlK_lst, isFz_rol, isAl_rol, isAlK_rol, isFz_mls, isAl_mls, isAlK_mls, isFz_al, isAl_al, isAlK_al, dIs_non, dIsNot_non, dIs_bl, dIsNot_bl, dIs_int, dIsNot_int, dIs_str, dIsNot_str, dIs_tup, dIsNot_tup, dIs_lst, dIsNot_lst, dIs_rol, dIsNot_rol, dIs_mls, dIsNot_mls, dIx_tup, dIx_lst, dIx_mls, dIx_rol, dLen_tup, dLen_lst, dLen_mls, dLen_rol, eqD_int, eqD_str, eqD_bl, eqD_non, neD_int, neD_str, neD_bl, neD_non, atI_l0, atI_l1, atI_l2, atI_l3, atI_l4, atI_l5, atI_l6, atI_l7, atI_m1, atI_m2, atI_m3, atI_m4, atI_m5, st_inj, st_cps, st_len, st_app, dAdd_st, dAdd_int, dAdd_tup, dAdd_ll, dAdd_lm, dAdd_ml, dAdd_mm, dIx_st, dSl_st, dSl_tup, dSl_lst, dSl_mls, dLen_st, tru_st, tru_non, tru_bl, tru_int, tru_tup, tru_lst, tru_mls, dIn_st, dNotIn_st, dIn_lst, dIn_mls, dIn_tup, dNotIn_lst, dNotIn_mls, dNotIn_tup, among_nil, among_ss, among_ii, flat_int, flat_str, flat_bl, flat_non, flat_strs, flat_ints, isi_non_bool, isi_bl_bool, isi_int_bool, isi_str_bool, isi_tup_bool, isi_lst_bool, isi_mls_bool, isi_non_int, isi_bl_int, isi_int_int, isi_str_int, isi_tup_int, isi_lst_int, isi_mls_int, isi_non_str, isi_bl_str, isi_int_str, isi_str_str, isi_tup_str, isi_lst_str, isi_mls_str, isi_non_list, isi_bl_list, isi_int_list, isi_str_list, isi_tup_list, isi_lst_list, isi_mls_list, isi_non_tuple, isi_bl_tuple, isi_int_tuple, isi_str_tuple, isi_tup_tuple, isi_lst_tuple, isi_mls_tuple, cutN_to, cutN_from, cutD_to, cutD_from, eq_self, seqD, lsD, List.getElem?_cons_zero, List.getElem?_cons_succ, List.set_cons_zero, List.set_cons_succ, List.map_cons, List.map_nil, List.replicate, List.cons_append, List.nil_append, List.append_nil, List.length_cons, List.length_nil, List.any_cons, List.any_nil, List.all_cons, List.all_nil, Bool.or_false, Bool.or_true, Bool.false_or, Bool.true_or, Bool.and_false, Bool.false_and, Bool.not_false, Bool.and_true, Bool.true_and, Bool.and_self, beq_iff_eq, reduceIte, Bool.not_true, Nat.reduceAdd, Nat.reduceLT, Nat.reduceLeDiff, Nat.reduceEqDiff, Nat.reduceBEq, Nat.zero_add, Bool.false_eq_true, decide_true, decide_false, not_false_eq_true, Int.reduceLT, Int.reduceLE, Int.reduceAdd, Int.reduceSub, Int.reduceNeg, Int.reduceEq, Int.reduceToNat, Int.cast_ofNat_Int, Int.reducePow, Int.natAbs, and_self, and_true, true_and, or_true, true_or, and_false, false_and, ixN, Option.bind_some, Option.map_some, List.cons.injEq, reduceCtorEq, List.isEmpty_cons, List.isEmpty_nil, wipeE, dSub, dMul, dDiv, dMod, dPow, dNeg, dLt, dLe, dGt, dGe, dInt, dList, dTuple, dMin, dMax, dIpAdd])
/-! ### _law_is_int, _law_same -/
theorem is_int_int (i : Int) : m_l_is_int [.int i] = some (.ok (.bl true) [.int i]) := by
  unfold m_l_is_int mb_l_is_int
  rw [ev_fun (by rfl) (by rfl)]
  walk_at "ev"
/-- data that _law_same finds the same, at most n deep -/
inductive Sm : Nat → D → D → Prop
  | non {n : Nat} : Sm n .non .non
  | bl {n : Nat} (b : Bool) : Sm n (.bl b) (.bl b)
  | int {n : Nat} (b : Int) : Sm n (.int b) (.int b)
  | str {n : Nat} (b : Str) : Sm n (.str b) (.str b)
  | lst {n : Nat} {xs ys : List D} : xs.length = ys.length → xs.length ≤ 16777216 → (∀ (i : Nat) x y, xs[i]? = some x → ys[i]? = some y → Sm n x y) → Sm (n + 1) (.lst xs) (.lst ys)
  | tup {n : Nat} {xs ys : List D} : xs.length = ys.length → xs.length ≤ 16777216 → (∀ (i : Nat) x y, xs[i]? = some x → ys[i]? = some y → Sm n x y) → Sm (n + 1) (.tup xs) (.tup ys)
theorem Sm.fz {n : Nat} {x y : D} (h : Sm n x y) : isFz x = true ∧ isFz y = true := by cases h <;> exact ⟨rfl, rfl⟩
theorem Sm.mono {n m : Nat} {x y : D} (h : Sm n x y) (hm : n ≤ m) : Sm m x y := by
  induction h generalizing m with
  | non => exact .non
  | bl b => exact .bl b
  | int b => exact .int b
  | str b => exact .str b
  | lst h1 h2 _ ih =>
    obtain ⟨k, rfl⟩ : ∃ k, m = k + 1 := ⟨m - 1, by omega⟩
    exact .lst h1 h2 fun i x y e1 e2 => ih i x y e1 e2 (by omega)
  | tup h1 h2 _ ih =>
    obtain ⟨k, rfl⟩ : ∃ k, m = k + 1 := ⟨m - 1, by omega⟩
    exact .tup h1 h2 fun i x y e1 e2 => ih i x y e1 e2 (by omega)
theorem Sm.strs {n : Nat} (l : List Str) (hl : l.length ≤ 16777216) : Sm (n + 1) (.tup (l.map D.str)) (.tup (l.map D.str)) := .tup rfl (by simpa using hl) fun i x y e1 e2 => by
  rw [e1] at e2; cases e2
  obtain ⟨s, _, rfl⟩ := List.mem_map.mp (List.mem_of_getElem? e1)
  exact .str s
theorem same_loop {rec : MF} {x y : D} {xs ys : List D} {o : Option D} (hx : seqD x = some xs) (hy : seqD y = some ys) (hl : xs.length = ys.length) (hz : xs.length ≤ 16777216) (hf : ∀ (i : Nat) a b, xs[i]? = some a → ys[i]? = some b → isFz a = true ∧ isFz b = true ∧ rec [a, b] = some (.ok (.bl true) [a, b])) :
    ∃ o', mLoop (gNm 2) (lb_l_same_1 rec) (rngD 0 (ys.length : Int).toNat) [some x, some y, o] = some (.ok .nx [some x, some y, o']) := by
  obtain ⟨e', h1, h2⟩ := loop_inv (g := gNm 2) (b := lb_l_same_1 rec)
    (fun _ e => ∃ o, e = [some x, some y, o]) (rngD 0 (ys.length : Int).toNat) 0 [some x, some y, o] ⟨o, rfl⟩ fun k d e hk hI => by
      obtain ⟨o, rfl⟩ := hI
      obtain ⟨hk1, rfl⟩ := rngD_get hk
      rw [Int.toNat_natCast] at hk1
      obtain ⟨a, ha⟩ : ∃ a, xs[k]? = some a := ⟨xs[k], by simp [hl, hk1]⟩
      obtain ⟨b, hb⟩ : ∃ b, ys[k]? = some b := ⟨ys[k], by simp [hk1]⟩
      obtain ⟨f1, f2, hr⟩ := hf k a b ha hb
      have a1 : atI xs ((0 : Int) + (k : Int)) = some a := by rw [Int.zero_add]; exact atI_nat ha
      have a2 : atI ys ((0 : Int) + (k : Int)) = some b := by rw [Int.zero_add]; exact atI_nat hb
      cases x <;> cases hx <;> cases y <;> cases hy <;>
      · refine ⟨_, .nx, [some _, some _, some (.int (0 + (k : Int)))], rfl, ?_, .inl rfl, _, rfl⟩
        unfold lb_l_same_1
        push_cast [a1, a2, f1, f2, hr, isAl_fz f1, isAl_fz f2, res_fz f1, res_fz f2]
  obtain ⟨o', rfl⟩ := h2
  exact ⟨o', h1⟩
theorem same_seq {n : Nat} {x y : D} {xs ys : List D} (hk : (∃ xs ys, x = .tup xs ∧ y = .tup ys) ∨ ((∃ xs, x = .lst xs ∨ x = .mls xs) ∧ ∃ ys, y = .lst ys ∨ y = .mls ys)) (hx : seqD x = some xs) (hy : seqD y = some ys) (hl : xs.length = ys.length) (hz : xs.length ≤ 16777216)
    (hf : ∀ (i : Nat) a b, xs[i]? = some a → ys[i]? = some b → isFz a = true ∧ isFz b = true ∧ m_l_same n [a, b] = some (.ok (.bl true) [a, b])) : m_l_same (n + 1) [x, y] = some (.ok (.bl true) [x, y]) := by
  unfold m_l_same mb_l_same
  rw [ev_fun (by rfl) (by rfl)]
  obtain ⟨o', hlo⟩ := same_loop (o := none) hx hy hl hz hf
  have hr : -4611686018427387904 ≤ (ys.length : Int) ∧ (ys.length : Int) < 4611686018427387904 := by omega
  have hn : decide ((ys.length : Int) = ys.length) = true := by simp
  rcases hk with ⟨xs, ys, rfl, rfl⟩ | ⟨⟨xs, rfl | rfl⟩, ys, rfl | rfl⟩ <;> cases hx <;> cases hy <;>
    push_cast [hl, hr, hn, hlo]
theorem same_ok : ∀ {n : Nat} {x y : D}, Sm n x y → m_l_same (n + 1) [x, y] = some (.ok (.bl true) [x, y]) := by
  intro n x y h
  induction h with
  | non => unfold m_l_same mb_l_same; rw [ev_fun (by rfl) (by rfl)]; walk_at "ev"
  | bl b => unfold m_l_same mb_l_same; rw [ev_fun (by rfl) (by rfl)]; walk_at "ev"
  | int b => unfold m_l_same mb_l_same; rw [ev_fun (by rfl) (by rfl)]; push_cast [is_int_int]
  | str b => unfold m_l_same mb_l_same; rw [ev_fun (by rfl) (by rfl)]; walk_at "ev"
  | lst h1 h2 h3 ih => exact same_seq (.inr ⟨⟨_, .inl rfl⟩, _, .inl rfl⟩) rfl rfl h1 h2 fun i a b e1 e2 => ⟨(h3 i a b e1 e2).fz.1, (h3 i a b e1 e2).fz.2, ih i a b e1 e2⟩
  | tup h1 h2 h3 ih => exact same_seq (.inl ⟨_, _, rfl, rfl⟩) rfl rfl h1 h2 fun i a b e1 e2 => ⟨(h3 i a b e1 e2).fz.1, (h3 i a b e1 e2).fz.2, ih i a b e1 e2⟩
/-! ### words and names -/
theorem atI_int {α : Type} {xs : List α} {r : Int} (h0 : 0 ≤ r) (h1 : r < xs.length) : ∃ c, atI xs r = some c ∧ xs[r.toNat]? = some c ∧ c ∈ xs := by
  have hl : r.toNat < xs.length := by omega
  refine ⟨xs[r.toNat], ?_, by simp [hl], List.getElem_mem hl⟩
  have e : r = (r.toNat : Int) := by omega
  have h : atI xs (r.toNat : Int) = some xs[r.toNat] := atI_nat (by simp [hl])
  rw [← e] at h
  exact h
theorem kinds_eq : m_l_kinds [] = some (.ok (.mls [.str (st [97, 110, 121]), .str (st [110, 117, 109]), .str (st [110, 97, 116]), .str (st [115, 109, 97, 108, 108]), .str (st [100, 105, 103, 105, 116]), .str (st [98, 105, 116]), .str (st [119, 111, 114, 100])]) []) := by
  unfold m_l_kinds mb_l_kinds
  rw [ev_fun (by rfl) (by rfl)]
  walk_at "ev"
theorem word_ok (p : Pool) {a b : List Nat} {m : Int} (ha : 0 < a.length) (ha2 : a.length ≤ 1000) (hb : 0 < b.length) (hb2 : b.length ≤ 1000) (hm : 0 ≤ m) (hm2 : m ≤ 1000) :
    ∃ (c : Nat) (t : List Nat) (p' : Pool), m_l_word [p.d, .str (st a), .str (st b), .int m] = some (.ok (.str (st (c :: t))) [p'.d, .str (st a), .str (st b), .int m]) ∧ (t.length : Int) = m ∧ c ∈ a ∧ ∀ x ∈ t, x ∈ b := by
  unfold m_l_word mb_l_word
  rw [ev_fun (by rfl) (by rfl)]
  obtain ⟨r, p1, hd, h0, h1⟩ := draw_ok p (n := a.length) (by omega) (by omega)
  obtain ⟨c, hc, _, hca⟩ := atI_int (xs := a) h0 h1
  have hr : -4611686018427387904 ≤ m ∧ m < 4611686018427387904 := by omega
  have ha3 : a.length ≤ 16777216 := by omega
  have hb3 : b.length ≤ 16777216 := by omega
  push_cast [hd, hc, hr, ha3]
  obtain ⟨e', hlo, p2, t, o, rfl, ht, hx⟩ := loop_inv (g := gNm 5) (b := lb_l_word_1)
    (fun k e => ∃ (p : Pool) (t : List Nat) (o : Option D), e = [some p.d, some (.str (st a)), some (.str (st b)), some (.int m), some (.str (st (c :: t))), o] ∧ t.length = k ∧ ∀ x ∈ t, x ∈ b)
    (rngD 0 m.toNat) 0 _ ⟨p1, [], none, rfl, rfl, by simp⟩ fun k x e hk hI => by
      obtain ⟨p, t, o, rfl, ht, hx⟩ := hI
      obtain ⟨hk1, rfl⟩ := rngD_get hk
      obtain ⟨r, p', hd, h0, h1⟩ := draw_ok p (n := b.length) (by omega) (by omega)
      obtain ⟨x, hx1, _, hx2⟩ := atI_int (xs := b) h0 h1
      have hs : t.length + 1 + 1 ≤ 16777216 := by omega
      refine ⟨_, .nx, [some p'.d, some (.str (st a)), some (.str (st b)), some (.int m), some (.str (st (c :: (t ++ [x])))), some (.int (0 + (k : Int)))], rfl, ?_, .inl rfl, p', t ++ [x], _, rfl, by simp [ht], ?_⟩
      · unfold lb_l_word_1
        push_cast [hd, hx1, hb3, hs]
      · intro z hz
        rcases List.mem_append.mp hz with hz | hz
        · exact hx z hz
        · simp at hz; subst hz; exact hx2
  push_cast [hlo]
  rw [rngD_length] at ht
  exact ⟨c, t, p2, rfl, by omega, hca, hx⟩
theorem dig_ok : ∀ k : Fin 100, (Str.ofString (toString ((k.val : Nat) : Int))).cps.toList.length ≤ 2 ∧ 1 ≤ (Str.ofString (toString ((k.val : Nat) : Int))).cps.toList.length ∧ (Str.ofString (toString ((k.val : Nat) : Int))).cps.toList.all (fun c => decide (48 ≤ c ∧ c ≤ 57)) = true := by decide +kernel
theorem dStr_ok {k : Int} (h0 : 0 ≤ k) (h1 : k < 100) : ∃ l : List Nat, dStr [.int k] = some (.str (st l)) ∧ l.length ≤ 2 ∧ 1 ≤ l.length ∧ ∀ c ∈ l, 48 ≤ c ∧ c ≤ 57 := by
  obtain ⟨n, rfl⟩ : ∃ n : Nat, k = (n : Int) := ⟨k.toNat, by omega⟩
  have hn : n < 100 := by omega
  obtain ⟨a1, a2, a3⟩ := dig_ok ⟨n, hn⟩
  refine ⟨_, ?_, a1, a2, fun c hc => by simpa using List.all_eq_true.mp a3 c hc⟩
  have hl : (n : Int).natAbs.log2 < 1920 := by
    rw [Int.natAbs_natCast]
    have : n.log2 ≤ n := Nat.log2_le_self n
    omega
  simp only [dStr, hl, if_true]
  rw [← st_eta]
def lets : List Nat := [97, 98, 99, 100, 101, 102, 103, 104, 105, 106, 107, 108, 109, 110, 111, 112, 113, 114, 115, 116, 117, 118, 119, 120, 121, 122]
def digs : List Nat := [48, 49, 50, 51, 52, 53, 54, 55, 56, 57]
theorem digs_mem {c : Nat} (h : 48 ≤ c ∧ c ≤ 57) : c ∈ digs := by
  have : c = 48 ∨ c = 49 ∨ c = 50 ∨ c = 51 ∨ c = 52 ∨ c = 53 ∨ c = 54 ∨ c = 55 ∨ c = 56 ∨ c = 57 := by omega
  rcases this with rfl | rfl | rfl | rfl | rfl | rfl | rfl | rfl | rfl | rfl <;> decide
/-- a name's form -/
def Nm (w : List Nat) : Prop := ∃ c t, w = c :: t ∧ c ∈ lets ∧ (∀ x ∈ t, x ∈ lets ++ digs) ∧ t.length ≤ 5
theorem Nm.len {w : List Nat} (h : Nm w) : 1 ≤ w.length ∧ w.length ≤ 6 := by
  obtain ⟨c, t, rfl, _, _, h⟩ := h
  rw [List.length_cons]; omega
theorem fresh_ok (p : Pool) (us : List Str) : ∃ (w : List Nat) (p' : Pool), m_l_fresh [p.d, .mls (us.map D.str)] = some (.ok (.str (st w)) [p'.d, .mls (us.map D.str)]) ∧ Nm w := by
  unfold m_l_fresh mb_l_fresh
  rw [ev_fun (by rfl) (by rfl)]
  obtain ⟨r, p1, hd, h0, h1⟩ := draw_ok p (n := 3) (by omega) (by omega)
  -- the first name
  have main : ∀ (q p : Pool) (m : Int), 0 ≤ m → m < 6 → ∃ (w : List Nat) (p' : Pool), kFun (mSeq (mAsg (mCall m_l_word (mCons (mVar 0) (mCons (mVar 2) (mCons (mOp dAdd (mVar 2) (mC (.str (st [48, 49, 50, 51, 52, 53, 54, 55, 56, 57])))) (mCons (mVar 3) mNil))))) (gNm 4))
      (mSeq (mFor (mRng1 (mCons (mC (.int 60)) mNil)) (gNm 5) lb_l_fresh_1) (mRet 2 (mVar 4))) [some p.d, some (.mls (us.map D.str)), some (.str (st lets)), some (.int m), none, none]) [q.d, .mls (us.map D.str)] = some (.ok (.str (st w)) [p'.d, .mls (us.map D.str)]) ∧ Nm w := by
    intro q p m hm hm2
    obtain ⟨c, t, p2, hw, ht, hc, hx⟩ := word_ok p (a := lets) (b := lets ++ digs) (m := m) (by decide) (by decide) (by decide) (by decide) hm (by omega)
    unfold digs at hw
    have hl : lets.length + 10 ≤ 16777216 := by decide
    push_cast [hw, hl]
    rcases loop_ret (g := gNm 5) (b := lb_l_fresh_1) (fun _ e => ∃ (w : List Nat) (o : Option D), e = [some p2.d, some (.mls (us.map D.str)), some (.str (st lets)), some (.int m), some (.str (st w)), o] ∧ Nm w)
      (fun d e => ∃ (w : List Nat) (o : Option D), d = .str (st w) ∧ e = [some p2.d, some (.mls (us.map D.str)), some (.str (st lets)), some (.int m), some (.str (st w)), o] ∧ Nm w)
      (rngD 0 60) 0 [some p2.d, some (.mls (us.map D.str)), some (.str (st lets)), some (.int m), some (.str (st (c :: t))), none] ⟨c :: t, none, rfl, c, t, rfl, hc, hx, by omega⟩ (fun k x e hk hI => by
        obtain ⟨w, o, rfl, hw⟩ := hI
        obtain ⟨hk1, rfl⟩ := rngD_get hk
        refine ⟨[some p2.d, some (.mls (us.map D.str)), some (.str (st lets)), some (.int m), some (.str (st w)), some (.int (0 + (k : Int)))], ?_⟩
        obtain ⟨l, hl, l1, l2, l3⟩ := dStr_ok (k := 0 + (k : Int)) (by omega) (by omega)
        have hwl := hw.len
        have hz : w.length ≤ 16777216 := by omega
        have hz2 : (w.take 4).length + l.length ≤ 16777216 := by rw [List.length_take]; omega
        have hnm : Nm (w.take 4 ++ l) := by
          obtain ⟨c, t, rfl, h1, h2, h3⟩ := hw
          refine ⟨c, t.take 3 ++ l, rfl, h1, fun x hx => ?_, by rw [List.length_append, List.length_take]; omega⟩
          rcases List.mem_append.mp hx with hx | hx
          · exact h2 x (List.mem_of_mem_take hx)
          · exact List.mem_append.mpr (.inr (digs_mem (l3 x hx)))
        have next : ∃ e2, mAsg (mOp dAdd (mSl dSl (mVar 4) mNoPart (mPart (mC (.int 4)))) (mCB dStr (mCons (mVar 5) mNil))) (gNm 4) [some p2.d, some (.mls (us.map D.str)), some (.str (st lets)), some (.int m), some (.str (st w)), some (.int (0 + (k : Int)))] = some (.ok .nx e2) ∧ ∃ (w : List Nat) (o : Option D), e2 = [some p2.d, some (.mls (us.map D.str)), some (.str (st lets)), some (.int m), some (.str (st w)), o] ∧ Nm w := by
          refine ⟨[some p2.d, some (.mls (us.map D.str)), some (.str (st lets)), some (.int m), some (.str (st (w.take 4 ++ l))), some (.int (0 + (k : Int)))], ?_, _, _, rfl, hnm⟩
          push_cast [hl, hz, hz2]
        obtain ⟨e2, hn1, hn2⟩ := next
        by_cases c1 : amongD (.str (st w)) (us.map D.str) = true
        · refine ⟨.nx, e2, rfl, ?_, .inl ⟨.inl rfl, hn2⟩⟩
          unfold lb_l_fresh_1
          push_cast [flat_strs, c1, hn1]
        · have c1' : amongD (.str (st w)) (us.map D.str) = false := by simpa using c1
          by_cases c2 : amongD (.str (st w)) [.str (st [97, 110, 121]), .str (st [110, 117, 109]), .str (st [110, 97, 116]), .str (st [115, 109, 97, 108, 108]), .str (st [100, 105, 103, 105, 116]), .str (st [98, 105, 116]), .str (st [119, 111, 114, 100])] = true
          · refine ⟨.nx, e2, rfl, ?_, .inl ⟨.inl rfl, hn2⟩⟩
            unfold lb_l_fresh_1
            simp only [among_ss, among_nil, st_inj, Bool.or_false] at c2
            push_cast [flat_strs, c1', kinds_eq, c2, hn1]
          · have c2' : amongD (.str (st w)) [.str (st [97, 110, 121]), .str (st [110, 117, 109]), .str (st [110, 97, 116]), .str (st [115, 109, 97, 108, 108]), .str (st [100, 105, 103, 105, 116]), .str (st [98, 105, 116]), .str (st [119, 111, 114, 100])] = false := by simpa using c2
            by_cases c3 : amongD (.str (st w)) [.str (st [108, 101, 110, 116]), .str (st [109, 97, 105, 110])] = true
            · refine ⟨.nx, e2, rfl, ?_, .inl ⟨.inl rfl, hn2⟩⟩
              unfold lb_l_fresh_1
              simp only [among_ss, among_nil, st_inj, Bool.or_false] at c2' c3
              push_cast [flat_strs, c1', kinds_eq, c2', c3, hn1]
            · have c3' : amongD (.str (st w)) [.str (st [108, 101, 110, 116]), .str (st [109, 97, 105, 110])] = false := by simpa using c3
              refine ⟨.rt (.str (st w)), [some p2.d, some (.mls (us.map D.str)), some (.str (st lets)), some (.int m), some (.str (st w)), some (.int (0 + (k : Int)))], rfl, ?_, .inr ⟨_, rfl, w, _, rfl, rfl, hw⟩⟩
              unfold lb_l_fresh_1
              simp only [among_ss, among_nil, st_inj, Bool.or_false] at c2' c3'
              push_cast [flat_strs, c1', kinds_eq, c2', c3']) with ⟨e', hlo, w, o, rfl, hw⟩ | ⟨d, e', hlo, w, o, rfl, rfl, hw⟩
    · push_cast [hlo]
      exact ⟨w, p2, rfl, hw⟩
    · push_cast [hlo]
      exact ⟨w, p2, rfl, hw⟩
  by_cases hr : r = 2
  · obtain ⟨m, p2, hd2, h2, h3⟩ := draw_ok p1 (n := 6) (by omega) (by omega)
    obtain ⟨w, p', hf, hw⟩ := main p p2 m h2 h3
    refine ⟨w, p', ?_, hw⟩
    rw [← hf]
    unfold lets
    push_cast [hd, hr, hd2]
  · obtain ⟨w, p', hf, hw⟩ := main p p1 r h0 (by omega)
    refine ⟨w, p', ?_, hw⟩
    rw [← hf]
    unfold lets
    push_cast [hd, hr]
/-- a literal -/
inductive Lit : D → Prop
  | int (i : Int) : -99 ≤ i → i ≤ 99 → Lit (.int i)
  | word (w : List Nat) : 1 ≤ w.length → w.length ≤ 6 → (∀ x ∈ w, x ∈ lets) → Lit (.str (st w))
theorem Lit.fz {d : D} (h : Lit d) : isFz d = true := by cases h <;> rfl
theorem literal_ok (p : Pool) : ∃ (d : D) (p' : Pool), m_l_literal [p.d] = some (.ok d [p'.d]) ∧ Lit d := by
  unfold m_l_literal mb_l_literal
  rw [ev_fun (by rfl) (by rfl)]
  obtain ⟨r, p1, hd, h0, h1⟩ := draw_ok p (n := 5) (by omega) (by omega)
  by_cases c0 : r = 0
  · obtain ⟨q, p2, hd2, h2, h3⟩ := draw_ok p1 (n := 2) (by omega) (by omega)
    push_cast [hd, c0, hd2]
    exact ⟨_, p2, rfl, .int _ (by omega) (by omega)⟩
  by_cases c1 : r = 1
  · obtain ⟨q, p2, hd2, h2, h3⟩ := draw_ok p1 (n := 199) (by omega) (by omega)
    push_cast [hd, c1, hd2]
    exact ⟨_, p2, rfl, .int _ (by omega) (by omega)⟩
  by_cases c2 : r = 2
  · obtain ⟨q, p2, hd2, h2, h3⟩ := draw_ok p1 (n := 6) (by omega) (by omega)
    have : q = 0 ∨ q = 1 ∨ q = 2 ∨ q = 3 ∨ q = 4 ∨ q = 5 := by omega
    rcases this with rfl | rfl | rfl | rfl | rfl | rfl <;>
    · push_cast [hd, c2, hd2]
      exact ⟨_, p2, rfl, .int _ (by omega) (by omega)⟩
  by_cases c3 : r = 3
  · obtain ⟨q, p2, hd2, h2, h3⟩ := draw_ok p1 (n := 10) (by omega) (by omega)
    push_cast [hd, c3, hd2]
    exact ⟨_, p2, rfl, .int _ (by omega) (by omega)⟩
  · obtain ⟨q, p2, hd2, h2, h3⟩ := draw_ok p1 (n := 6) (by omega) (by omega)
    obtain ⟨c, t, p3, hw, ht, hc, hx⟩ := word_ok p2 (a := lets) (b := lets) (m := q) (by decide) (by decide) (by decide) (by decide) h2 (by omega)
    unfold lets at hw
    push_cast [hd, c0, c1, c2, c3, hd2, hw]
    refine ⟨_, p3, rfl, .word _ (by rw [List.length_cons]; omega) (by rw [List.length_cons]; omega) fun x hx' => ?_⟩
    rcases List.mem_cons.mp hx' with rfl | hx'
    · exact hc
    · exact hx x hx'
def kindL : List D := [.str (st [97, 110, 121]), .str (st [110, 117, 109]), .str (st [110, 97, 116]), .str (st [115, 109, 97, 108, 108]), .str (st [100, 105, 103, 105, 116]), .str (st [98, 105, 116]), .str (st [119, 111, 114, 100])]
theorem kindL_fz {d : D} (h : d ∈ kindL) : isFz d = true := by
  unfold kindL at h
  simp only [List.mem_cons, List.not_mem_nil, or_false] at h
  rcases h with rfl | rfl | rfl | rfl | rfl | rfl | rfl <;> rfl
theorem kindL_at {r : Int} (h0 : 0 ≤ r) (h1 : r < 7) : ∃ d, atI [D.str (st [97, 110, 121]), .str (st [110, 117, 109]), .str (st [110, 97, 116]), .str (st [115, 109, 97, 108, 108]), .str (st [100, 105, 103, 105, 116]), .str (st [98, 105, 116]), .str (st [119, 111, 114, 100])] r = some d ∧ d ∈ kindL ∧ isFz d = true := by
  obtain ⟨d, h1, _, h2⟩ := atI_int (xs := kindL) h0 h1
  exact ⟨d, h1, h2, kindL_fz h2⟩
theorem kind_ok (p : Pool) : ∃ (d : D) (p' : Pool), m_l_kind [p.d] = some (.ok d [p'.d]) ∧ (d = .non ∨ d ∈ kindL) ∧ isFz d = true := by
  unfold m_l_kind mb_l_kind
  rw [ev_fun (by rfl) (by rfl)]
  obtain ⟨r, p1, hd, h0, h1⟩ := draw_ok p (n := 2) (by omega) (by omega)
  by_cases c0 : r = 0
  · push_cast [hd, c0]
    exact ⟨_, p1, rfl, .inl rfl, rfl⟩
  · obtain ⟨q, p2, hd2, h2, h3⟩ := draw_ok p1 (n := 7) (by omega) (by omega)
    obtain ⟨d, ha, hk, hf⟩ := kindL_at h2 h3
    push_cast [hd, c0, hd2, kinds_eq, ha, out_fz hf]
    exact ⟨_, p2, rfl, .inr hk, hf⟩
/-! ### expressions and their names -/
inductive IsEx : Nat → D → List Str → Prop
  | lit {n : Nat} {d : D} : isFz d = true → IsEx n (.tup [.str (st [108, 105, 116]), d]) []
  | name {n : Nat} {s : Str} : IsEx n (.tup [.str (st [110, 97, 109, 101]), .str s]) [s]
  | op {n : Nat} {w : List Nat} {a b : D} {ns ms : List Str} : w ≠ [110, 97, 109, 101] → w ≠ [108, 105, 116] → IsEx n a ns → IsEx n b ms → IsEx (n + 1) (.tup [.str (st w), a, b]) (ns ++ ms)
theorem IsEx.fz {n : Nat} {e : D} {ns : List Str} (h : IsEx n e ns) : isFz e = true := by cases h <;> rfl
theorem IsEx.len {n : Nat} {e : D} {ns : List Str} (h : IsEx n e ns) : ns.length ≤ 2 ^ n := by
  induction h with
  | lit _ => simp
  | name => simp; exact Nat.one_le_two_pow
  | op _ _ _ _ h1 h2 => rw [List.length_append, Nat.pow_succ]; omega
theorem IsEx.mono {n m : Nat} {e : D} {ns : List Str} (h : IsEx n e ns) (hm : n ≤ m) : IsEx m e ns := by
  induction h generalizing m with
  | lit h => exact .lit h
  | name => exact .name
  | op a b _ _ h1 h2 =>
    obtain ⟨k, rfl⟩ : ∃ k, m = k + 1 := ⟨m - 1, by omega⟩
    exact .op a b (h1 (by omega)) (h2 (by omega))
theorem expr_names_ok {n : Nat} {e : D} {ns : List Str} (h : IsEx n e ns) : ∀ {k : Nat}, n < k → n ≤ 20 → m_expr_names k [e] = some (.ok (.tup (ns.map D.str)) [e]) := by
  induction h with
  | lit h =>
    intro k hk hn
    obtain ⟨k, rfl⟩ : ∃ j, k = j + 1 := ⟨k - 1, by omega⟩
    unfold m_expr_names mb_expr_names
    rw [ev_fun (by rfl) (by rfl)]
    push_cast [h]
  | name =>
    intro k hk hn
    obtain ⟨k, rfl⟩ : ∃ j, k = j + 1 := ⟨k - 1, by omega⟩
    unfold m_expr_names mb_expr_names
    rw [ev_fun (by rfl) (by rfl)]
    walk_at "ev"
  | @op n w a b ns ms c1 c2 ha hb iha ihb =>
    intro k hk hn
    obtain ⟨k, rfl⟩ : ∃ j, k = j + 1 := ⟨k - 1, by omega⟩
    unfold m_expr_names mb_expr_names
    rw [ev_fun (by rfl) (by rfl)]
    have l1 := ha.len
    have l2 := hb.len
    have hp : 2 ^ n ≤ 2 ^ 20 := Nat.pow_le_pow_right (by decide) (by omega)
    have hz : ns.length + ms.length ≤ 16777216 := by omega
    have fa := ha.fz
    have fb := hb.fz
    push_cast [c1, c2, fa, fb, iha (k := k) (by omega) (by omega), ihb (k := k) (by omega) (by omega), isAl_fz fa, isAl_fz fb, res_fz fa, res_fz fb, List.length_map, hz, ← List.map_append]
theorem grown_ok {N : List Str} (hN : 0 < N.length) (hN2 : N.length ≤ 1000) : ∀ (n k : Nat) (p : Pool), n < k → n ≤ 10 → ∃ (e : D) (ns : List Str) (p' : Pool), m_l_grown k [p.d, .mls (N.map D.str), .int (n + 1)] = some (.ok (.mls [e, .lst (ns.map D.str)]) [p'.d, .mls (N.map D.str), .int (n + 1)]) ∧ IsEx n e ns := by
  intro n
  induction n with
  | zero =>
    intro k p hk _
    obtain ⟨k, rfl⟩ : ∃ j, k = j + 1 := ⟨k - 1, by omega⟩
    unfold m_l_grown mb_l_grown
    rw [ev_fun (by rfl) (by rfl)]
    obtain ⟨r, p1, hd, h0, h1⟩ := draw_ok p (n := 4) (by omega) (by omega)
    by_cases c : r = 3
    · obtain ⟨d, p2, hl, hd2⟩ := literal_ok p1
      have f := hd2.fz
      push_cast [hd, c, hl, f, tkf_fz f]
      exact ⟨_, [], p2, rfl, .lit f⟩
    · obtain ⟨q, p2, hq, h2, h3⟩ := draw_ok p1 (n := N.length) (by omega) (by omega)
      obtain ⟨x, hx, _, _⟩ := atI_int (xs := N.map D.str) h2 (by rw [List.length_map]; exact h3)
      obtain ⟨s, _, rfl⟩ := List.mem_map.mp ‹x ∈ _›
      push_cast [hd, c, hq, hx, List.length_map]
      exact ⟨_, [s], p2, rfl, .name⟩
  | succ n ih =>
    intro k p hk hn
    obtain ⟨k, rfl⟩ : ∃ j, k = j + 1 := ⟨k - 1, by omega⟩
    unfold m_l_grown mb_l_grown
    rw [ev_fun (by rfl) (by rfl)]
    obtain ⟨r, p1, hd, h0, h1⟩ := draw_ok p (n := 4) (by omega) (by omega)
    have hgt : (1 : Int) < ((n + 1 : Nat) : Int) + 1 := by omega
    have hsub : ((n + 1 : Nat) : Int) + 1 - 1 = (n : Int) + 1 := by omega
    by_cases c12 : r = 1 ∨ r = 2
    · obtain ⟨q, p2, hq, h2, h3⟩ := draw_ok p1 (n := 4) (by omega) (by omega)
      obtain ⟨e1, ns1, p3, hg1, x1⟩ := ih k p2 (by omega) (by omega)
      obtain ⟨e2, ns2, p4, hg2, x2⟩ := ih k p3 (by omega) (by omega)
      have l1 := x1.len
      have l2 := x2.len
      have hp : 2 ^ n ≤ 2 ^ 10 := Nat.pow_le_pow_right (by decide) (by omega)
      have hz : ns1.length + ns2.length ≤ 16777216 := by omega
      have f1 := x1.fz
      have f2 := x2.fz
      have hm : ((decide ((1 : Int) = r) || decide ((2 : Int) = r)) : Bool) = true := by
        rcases c12 with rfl | rfl <;> rfl
      have : q = 0 ∨ q = 1 ∨ q = 2 ∨ q = 3 := by omega
      rcases this with rfl | rfl | rfl | rfl <;>
      · push_cast [hd, hgt, hm, hq, hsub, hg1, hg2, f1, f2, tkf_fz f1, tkf_fz f2, List.length_map, hz, ← List.map_append]
        exact ⟨_, ns1 ++ ns2, p4, rfl, .op (by decide) (by decide) x1 x2⟩
    · have hm : ((decide ((1 : Int) = r) || decide ((2 : Int) = r)) : Bool) = false := by
        simp; omega
      by_cases c : r = 3
      · obtain ⟨d, p2, hl, hd2⟩ := literal_ok p1
        have f := hd2.fz
        subst c
        push_cast [hd, hgt, hl, f, tkf_fz f]
        exact ⟨_, [], p2, rfl, .lit f⟩
      · obtain ⟨q, p2, hq, h2, h3⟩ := draw_ok p1 (n := N.length) (by omega) (by omega)
        obtain ⟨x, hx, _, _⟩ := atI_int (xs := N.map D.str) h2 (by rw [List.length_map]; exact h3)
        obtain ⟨s, _, rfl⟩ := List.mem_map.mp ‹x ∈ _›
        push_cast [hd, hgt, hm, c, hq, hx, List.length_map]
        exact ⟨_, [s], p2, rfl, .name⟩
/-! ### arguments -/
inductive IsArgs : List D → List Str → List Str → Prop
  | nil : IsArgs [] [] []
  | lent {as : List D} {rs ls : List Str} {x : Str} : IsArgs as rs ls → IsArgs (as ++ [.tup [.str (st [108, 101, 110, 116]), .str x]]) rs (ls ++ [x])
  | worth {as : List D} {rs ls ns : List Str} {e : D} : IsArgs as rs ls → IsEx 2 e ns → IsArgs (as ++ [.tup [.str (st [119, 111, 114, 116, 104]), e]]) (rs ++ ns) ls
theorem IsArgs.len {as : List D} {rs ls : List Str} (h : IsArgs as rs ls) : rs.length ≤ 4 * as.length ∧ ls.length ≤ as.length := by
  induction h with
  | nil => simp
  | lent _ ih => simp only [List.length_append, List.length_cons, List.length_nil]; omega
  | worth _ he ih =>
    have := he.len
    simp only [List.length_append, List.length_cons, List.length_nil] at *
    omega
theorem args_grown_ok {N : List Str} (hN : 0 < N.length) (hN2 : N.length ≤ 1000) (p : Pool) {F : D} {fs : List D} (hF : F = .mls fs ∨ F = .lst fs) (hl : fs.length ≤ 5) (hw : ∀ f ∈ fs, f = .str (st [119, 111, 114, 116, 104]) ∨ f = .str (st [108, 101, 110, 116])) :
    ∃ (as : List D) (rs ls : List Str) (p' : Pool), m_l_args_grown [p.d, .mls (N.map D.str), F] = some (.ok (.mls [.tup as, .lst (rs.map D.str), .lst (ls.map D.str)]) [p'.d, .mls (N.map D.str), .lst fs]) ∧ IsArgs as rs ls ∧ as.length ≤ 5 := by
  obtain ⟨e', hlo, p2, as, rs, ls, o6, o7, o8, rfl, hA, hk⟩ := loop_inv (g := gNm 6) (b := lb_l_args_grown_1)
    (fun k e => ∃ (p : Pool) (as : List D) (rs ls : List Str) (o6 o7 o8 : Option D), e = [some p.d, some (.mls (N.map D.str)), some (.lst fs), some (.tup as), some (.mls (rs.map D.str)), some (.mls (ls.map D.str)), o6, o7, o8] ∧ IsArgs as rs ls ∧ as.length = k)
    fs 0 [some p.d, some (.mls (N.map D.str)), some (.lst fs), some (.tup []), some (.mls []), some (.mls []), none, none, none] ⟨p, [], [], [], none, none, none, rfl, .nil, rfl⟩ fun k x e hk hI => by
      obtain ⟨p, as, rs, ls, o6, o7, o8, rfl, hA, hl2⟩ := hI
      have hkl : k < fs.length := (List.getElem?_eq_some_iff.mp hk).1
      obtain ⟨b1, b2⟩ := hA.len
      have z1 : as.length + 1 ≤ 16777216 := by omega
      have z2 : ls.length < 16777216 := by omega
      rcases hw x (List.mem_of_getElem? hk) with rfl | rfl
      · obtain ⟨e, ns, p', hg, hx⟩ := grown_ok hN hN2 2 8 p (by omega) (by omega)
        have hln := hx.len
        have z3 : rs.length + ns.length ≤ 16777216 := by omega
        have f := hx.fz
        have hg' : m_l_grown 8 [p.d, .mls (N.map D.str), .int 3] = some (.ok (.mls [e, .lst (ns.map D.str)]) [p'.d, .mls (N.map D.str), .int 3]) := hg
        refine ⟨_, .nx, [some p'.d, some (.mls (N.map D.str)), some (.lst fs), some (.tup (as ++ [.tup [.str (st [119, 111, 114, 116, 104]), e]])), some (.mls ((rs ++ ns).map D.str)), some (.mls (ls.map D.str)), some (.str (st [119, 111, 114, 116, 104])), o7, some (.mls [e, .lst (ns.map D.str)])], rfl, ?_, .inl rfl, p', _, _, _, _, _, _, rfl, .worth hA hx, by simp [hl2]⟩
        unfold lb_l_args_grown_1
        push_cast [hg', f, tkf_fz f, z1, z3, List.length_map, ← List.map_append]
      · obtain ⟨q, p', hq, h2, h3⟩ := draw_ok p (n := N.length) (by omega) (by omega)
        obtain ⟨x, hx, _, _⟩ := atI_int (xs := N.map D.str) h2 (by rw [List.length_map]; exact h3)
        obtain ⟨s, _, rfl⟩ := List.mem_map.mp ‹x ∈ _›
        refine ⟨_, .nx, [some p'.d, some (.mls (N.map D.str)), some (.lst fs), some (.tup (as ++ [.tup [.str (st [108, 101, 110, 116]), .str s]])), some (.mls (rs.map D.str)), some (.mls ((ls ++ [s]).map D.str)), some (.str (st [108, 101, 110, 116])), some (.str s), o8], rfl, ?_, .inl rfl, p', _, _, _, _, _, _, rfl, .lent hA, by simp [hl2]⟩
        unfold lb_l_args_grown_1
        push_cast [hq, hx, z1, z2, List.length_map, List.map_append]
  refine ⟨as, rs, ls, p2, ?_, hA, by omega⟩
  unfold m_l_args_grown mb_l_args_grown
  rw [ev_fun (by rfl) (by rfl)]
  rcases hF with rfl | rfl <;> push_cast [hlo]
/-! ### the program's functions on rows -/
def isTag (w : List Nat) : D → Bool
  | .tup (.str v :: _) => decide (v = st w)
  | _ => false
def snd : D → D
  | .tup (_ :: d :: _) => d
  | _ => .non
inductive Exs : List D → List Str → Prop
  | nil : Exs [] []
  | snoc {es : List D} {e : D} {ns ms : List Str} : Exs es ns → IsEx 2 e ms → Exs (es ++ [e]) (ns ++ ms)
theorem IsArgs.worths {as : List D} {rs ls : List Str} (h : IsArgs as rs ls) : Exs ((as.filter (isTag [119, 111, 114, 116, 104])).map snd) rs := by
  induction h with
  | nil => exact .nil
  | lent _ ih =>
    rw [List.filter_append, List.map_append]
    have e : ∀ x, List.filter (isTag [119, 111, 114, 116, 104]) [D.tup [.str (st [108, 101, 110, 116]), x]] = [] := fun x => by
      simp [List.filter_cons, isTag, st_inj]
    rw [e]; simpa using ih
  | worth _ he ih =>
    rw [List.filter_append, List.map_append]
    have e : ∀ x, List.filter (isTag [119, 111, 114, 116, 104]) [D.tup [.str (st [119, 111, 114, 116, 104]), x]] = [D.tup [.str (st [119, 111, 114, 116, 104]), x]] := fun x => by
      simp [List.filter_cons, isTag, st_inj]
    rw [e]
    exact .snoc ih he
theorem IsArgs.lents {as : List D} {rs ls : List Str} (h : IsArgs as rs ls) : (as.filter (isTag [108, 101, 110, 116])).map snd = ls.map D.str := by
  induction h with
  | nil => rfl
  | lent _ ih =>
    rw [List.filter_append, List.map_append, ih, List.map_append]
    simp [List.filter_cons, isTag, snd]
  | worth _ he ih =>
    rw [List.filter_append, List.map_append, ih]
    simp [List.filter_cons, isTag, st_inj]
theorem IsArgs.shape {as : List D} {rs ls : List Str} (h : IsArgs as rs ls) : ∀ d ∈ as, ∃ w b, d = .tup [.str (st w), b] ∧ isFz b = true := by
  induction h with
  | nil => intro d hd; simp at hd
  | lent _ ih =>
    intro d hd
    rcases List.mem_append.mp hd with hd | hd
    · exact ih d hd
    · simp at hd; exact ⟨_, _, hd, rfl⟩
  | worth _ he ih =>
    intro d hd
    rcases List.mem_append.mp hd with hd | hd
    · exact ih d hd
    · simp at hd; exact ⟨_, _, hd, he.fz⟩
structure RowOk (row : D) (rd sd ld : List Str) : Prop where
  fz : isFz row = true
  r : m_names_read [row] = some (.ok (.tup (rd.map D.str)) [row])
  s : m_names_set [row] = some (.ok (.tup (sd.map D.str)) [row])
  l : m_names_lent [row] = some (.ok (.tup (ld.map D.str)) [row])
  b : rd.length ≤ 100 ∧ sd.length ≤ 100 ∧ ld.length ≤ 100
theorem args_none {w : List Nat} {rest : List D} (h1 : w ≠ [99, 97, 108, 108]) (h2 : w ≠ [115, 116, 97, 114, 116]) : m_args_of [.tup (.str (st w) :: rest)] = some (.ok (.tup []) [.tup (.str (st w) :: rest)]) := by
  unfold m_args_of mb_args_of
  rw [ev_fun (by rfl) (by rfl)]
  push_cast [h1, h2]
theorem lent_none {w : List Nat} {rest : List D} (h1 : w ≠ [99, 97, 108, 108]) (h2 : w ≠ [115, 116, 97, 114, 116]) : m_names_lent [.tup (.str (st w) :: rest)] = some (.ok (.tup (([] : List Str).map D.str)) [.tup (.str (st w) :: rest)]) := by
  unfold m_names_lent mb_names_lent
  rw [ev_fun (by rfl) (by rfl)]
  push_cast [args_none h1 h2]
/-- a row of one expression -/
theorem read_one {w : List Nat} {rest : List D} {e : D} {ns : List Str} (hw : w ≠ [110, 97, 114, 114, 111, 119]) (hr : m_row_exprs [.tup (.str (st w) :: rest)] = some (.ok (.tup [e]) [.tup (.str (st w) :: rest)])) (he : IsEx 2 e ns) :
    m_names_read [.tup (.str (st w) :: rest)] = some (.ok (.tup (ns.map D.str)) [.tup (.str (st w) :: rest)]) := by
  unfold m_names_read mb_names_read
  rw [ev_fun (by rfl) (by rfl)]
  have f := he.fz
  have hl := he.len
  have z : ns.length ≤ 16777216 := by omega
  have hx := expr_names_ok he (k := 8) (by omega) (by omega)
  push_cast [hw, hr, lb_names_read_1, f, hx, isAl_fz f, res_fz f, List.length_map, z]
/-! ### the forms of rows -/
theorem row_print {e : D} {ns : List Str} (h : IsEx 2 e ns) : RowOk (.tup [.str (st [112, 114, 105, 110, 116]), e]) ns [] [] := by
  have f := h.fz
  have hl := h.len
  refine ⟨rfl, read_one (by decide) ?_ h, ?_, lent_none (by decide) (by decide), by omega, by simp, by simp⟩
  · unfold m_row_exprs mb_row_exprs
    rw [ev_fun (by rfl) (by rfl)]
    push_cast [f, tkf_fz f]
  · unfold m_names_set mb_names_set
    rw [ev_fun (by rfl) (by rfl)]
    walk_at "ev"
theorem row_return {e : D} {ns : List Str} (h : IsEx 2 e ns) : RowOk (.tup [.str (st [114, 101, 116, 117, 114, 110]), e]) ns [] [] := by
  have f := h.fz
  have hl := h.len
  refine ⟨rfl, read_one (by decide) ?_ h, ?_, lent_none (by decide) (by decide), by omega, by simp, by simp⟩
  · unfold m_row_exprs mb_row_exprs
    rw [ev_fun (by rfl) (by rfl)]
    push_cast [f, tkf_fz f]
  · unfold m_names_set mb_names_set
    rw [ev_fun (by rfl) (by rfl)]
    walk_at "ev"
theorem row_if {e a b : D} {ns : List Str} (h : IsEx 2 e ns) : RowOk (.tup [.str (st [105, 102]), e, a, b]) ns [] [] := by
  have f := h.fz
  have hl := h.len
  refine ⟨rfl, read_one (by decide) ?_ h, ?_, lent_none (by decide) (by decide), by omega, by simp, by simp⟩
  · unfold m_row_exprs mb_row_exprs
    rw [ev_fun (by rfl) (by rfl)]
    push_cast [f, tkf_fz f]
  · unfold m_names_set mb_names_set
    rw [ev_fun (by rfl) (by rfl)]
    walk_at "ev"
theorem row_let {e a b : D} {ns : List Str} (h : IsEx 2 e ns) : RowOk (.tup [.str (st [108, 101, 116]), a, b, e]) ns [] [] := by
  have f := h.fz
  have hl := h.len
  refine ⟨rfl, read_one (by decide) ?_ h, ?_, lent_none (by decide) (by decide), by omega, by simp, by simp⟩
  · unfold m_row_exprs mb_row_exprs
    rw [ev_fun (by rfl) (by rfl)]
    push_cast [f, tkf_fz f]
  · unfold m_names_set mb_names_set
    rw [ev_fun (by rfl) (by rfl)]
    walk_at "ev"
theorem row_set {e : D} {x : Str} {ns : List Str} (h : IsEx 2 e ns) : RowOk (.tup [.str (st [115, 101, 116]), .str x, e]) ns [x] [] := by
  have f := h.fz
  have hl := h.len
  refine ⟨rfl, read_one (by decide) ?_ h, ?_, lent_none (by decide) (by decide), by omega, by simp, by simp⟩
  · unfold m_row_exprs mb_row_exprs
    rw [ev_fun (by rfl) (by rfl)]
    push_cast [f, tkf_fz f]
  · unfold m_names_set mb_names_set
    rw [ev_fun (by rfl) (by rfl)]
    walk_at "ev"
theorem row_deferP {g e : D} {ns : List Str} (h : IsEx 2 e ns) : RowOk (.tup [.str (st [100, 101, 102, 101, 114]), g, .tup [.str (st [112, 114, 105, 110, 116]), e]]) ns [] [] := by
  have f := h.fz
  have hl := h.len
  refine ⟨rfl, read_one (by decide) ?_ h, ?_, lent_none (by decide) (by decide), by omega, by simp, by simp⟩
  · unfold m_row_exprs mb_row_exprs
    rw [ev_fun (by rfl) (by rfl)]
    push_cast [f, tkf_fz f]
  · unfold m_names_set mb_names_set
    rw [ev_fun (by rfl) (by rfl)]
    walk_at "ev"
theorem row_deferS {g e : D} {y : Str} {ns : List Str} (h : IsEx 2 e ns) : RowOk (.tup [.str (st [100, 101, 102, 101, 114]), g, .tup [.str (st [115, 101, 116]), .str y, e]]) ns [y] [] := by
  have f := h.fz
  have hl := h.len
  refine ⟨rfl, read_one (by decide) ?_ h, ?_, lent_none (by decide) (by decide), by omega, by simp, by simp⟩
  · unfold m_row_exprs mb_row_exprs
    rw [ev_fun (by rfl) (by rfl)]
    push_cast [f, tkf_fz f]
  · unfold m_names_set mb_names_set
    rw [ev_fun (by rfl) (by rfl)]
    walk_at "ev"
/-- rows without expressions -/
theorem read_none {w : List Nat} {rest : List D} (hw : w ∉ [[110, 97, 114, 114, 111, 119], [108, 101, 116], [115, 101, 116], [112, 114, 105, 110, 116], [114, 101, 116, 117, 114, 110], [105, 102], [100, 101, 102, 101, 114], [99, 97, 108, 108], [115, 116, 97, 114, 116]]) :
    m_names_read [.tup (.str (st w) :: rest)] = some (.ok (.tup (([] : List Str).map D.str)) [.tup (.str (st w) :: rest)]) := by
  simp only [List.mem_cons, List.not_mem_nil, or_false, not_or] at hw
  obtain ⟨h1, h2, h3, h4, h5, h6, h7, h8, h9⟩ := hw
  have hr : m_row_exprs [.tup (.str (st w) :: rest)] = some (.ok (.tup []) [.tup (.str (st w) :: rest)]) := by
    unfold m_row_exprs mb_row_exprs
    rw [ev_fun (by rfl) (by rfl)]
    push_cast [h2, h3, h4, h5, h6, h7, args_none h8 h9]
  unfold m_names_read mb_names_read
  rw [ev_fun (by rfl) (by rfl)]
  push_cast [h1, hr]
theorem row_ask {y : Str} : RowOk (.tup [.str (st [97, 115, 107]), .str y]) [] [y] [] := by
  refine ⟨rfl, read_none (by decide), ?_, lent_none (by decide) (by decide), by simp, by simp, by simp⟩
  unfold m_names_set mb_names_set
  rw [ev_fun (by rfl) (by rfl)]
  walk_at "ev"
theorem row_wait {x : Str} {d : D} : RowOk (.tup [.str (st [119, 97, 105, 116]), .str x, d]) [] [x] [] := by
  refine ⟨rfl, read_none (by decide), ?_, lent_none (by decide) (by decide), by simp, by simp, by simp⟩
  unfold m_names_set mb_names_set
  rw [ev_fun (by rfl) (by rfl)]
  walk_at "ev"
theorem row_waitN {d : D} : RowOk (.tup [.str (st [119, 97, 105, 116]), .non, d]) [] [] [] := by
  refine ⟨rfl, read_none (by decide), ?_, lent_none (by decide) (by decide), by simp, by simp, by simp⟩
  unfold m_names_set mb_names_set
  rw [ev_fun (by rfl) (by rfl)]
  walk_at "ev"
theorem row_narrow {x : Str} {d : D} : RowOk (.tup [.str (st [110, 97, 114, 114, 111, 119]), .str x, d]) [x] [] [] := by
  refine ⟨rfl, ?_, ?_, lent_none (by decide) (by decide), by simp, by simp, by simp⟩
  · unfold m_names_read mb_names_read
    rw [ev_fun (by rfl) (by rfl)]
    walk_at "ev"
  · unfold m_names_set mb_names_set
    rw [ev_fun (by rfl) (by rfl)]
    walk_at "ev"
theorem row_loop {a b : D} : RowOk (.tup [.str (st [108, 111, 111, 112]), a, b]) [] [] [] := by
  refine ⟨rfl, read_none (by decide), ?_, lent_none (by decide) (by decide), by simp, by simp, by simp⟩
  unfold m_names_set mb_names_set
  rw [ev_fun (by rfl) (by rfl)]
  walk_at "ev"
/-! calls -/
theorem comp_ok {as : List D} {rs ls : List Str} (h : IsArgs as rs ls) (hl : as.length ≤ 5) {row : D} (tag : List Nat) {t : MT} {el : ME} (ht : t = mTest (mOp dEq (mOp dIx (mVar 1) (mC (.int 0))) (mC (.str (st tag))))) (hel : el = mOp dIx (mVar 1) (mC (.int 1))) :
    mCl (gNm 1) t el [1] as [] [some row, none] = some ((as.filter (isTag tag)).map snd, [some row, none]) := by
  subst ht hel
  refine cl_map (isTag tag) snd as (by omega) fun d hd => ?_
  obtain ⟨w, b, rfl, hb⟩ := h.shape d hd
  refine ⟨[some row, some (.tup [.str (st w), b])], [some row, some (.tup [.str (st w), b])], rfl, ?_, ?_⟩
  · by_cases c : w = tag
    · subst c
      push_cast [isTag]
    · push_cast [isTag, c]
  · by_cases c : w = tag
    · subst c
      refine .inr ⟨by simp [isTag], b, [some row, some (.tup [.str (st w), b])], [some row, some (.tup [.str (st w), b])], ?_, tkf_fz hb, rfl⟩
      walk_at "ev"
    · exact .inl ⟨by simp [isTag, st_inj, c], rfl⟩
theorem read_exs {es : List D} {ns : List Str} (h : Exs es ns) (row : D) (o : Option D) (hl : es.length ≤ 5) : ∃ o', mLoop (gNm 2) lb_names_read_1 es [some row, some (.mls []), o] = some (.ok .nx [some row, some (.mls (ns.map D.str)), o']) ∧ ns.length ≤ 4 * es.length := by
  have key : ∀ {es : List D} {ns : List Str}, Exs es ns → es.length ≤ 5 → ns.length ≤ 4 * es.length ∧ ∀ (tl : List D), ∃ o', mLoop (gNm 2) lb_names_read_1 (es ++ tl) [some row, some (.mls []), o] = mLoop (gNm 2) lb_names_read_1 tl [some row, some (.mls (ns.map D.str)), o'] := by
    intro es ns h
    induction h with
    | nil => intro _; exact ⟨by simp, fun tl => ⟨o, rfl⟩⟩
    | @snoc es e ns ms h1 he ih =>
      intro hl
      rw [List.length_append, List.length_cons, List.length_nil] at hl
      obtain ⟨i1, i2⟩ := ih (by omega)
      have hm := he.len
      refine ⟨by rw [List.length_append, List.length_append, List.length_cons, List.length_nil]; omega, fun tl => ?_⟩
      obtain ⟨o', ho⟩ := i2 (e :: tl)
      refine ⟨some e, ?_⟩
      rw [List.append_assoc, List.singleton_append, ho]
      have f := he.fz
      have hx := expr_names_ok he (k := 8) (by omega) (by omega)
      have z : ns.length + ms.length ≤ 16777216 := by omega
      rw [loop_cons]
      conv => lhs; rw [ev_nm, List.set_cons_succ, List.set_cons_succ, List.set_cons_zero, kLp0_ok]
      have hb : lb_names_read_1 [some row, some (.mls (ns.map D.str)), some e] = some (.ok .nx [some row, some (.mls ((ns ++ ms).map D.str)), some e]) := by
        unfold lb_names_read_1
        push_cast [f, hx, isAl_fz f, res_fz f, List.length_map, z, ← List.map_append]
      rw [hb, kLp_nx]
  obtain ⟨k1, k2⟩ := key h hl
  obtain ⟨o', ho⟩ := k2 []
  rw [List.append_nil] at ho
  exact ⟨o', ho, k1⟩
theorem Exs.len {as : List D} : ((as.filter (isTag [119, 111, 114, 116, 104])).map snd).length ≤ as.length := by
  rw [List.length_map]; exact List.length_filter_le _ _
theorem row_args {w : List Nat} {a f : D} {as : List D} {rs ls : List Str} (hw : w = [99, 97, 108, 108] ∨ w = [115, 116, 97, 114, 116]) (h : IsArgs as rs ls) (hl : as.length ≤ 5) (ha : isFz a = true) :
    m_names_read [.tup [.str (st w), a, f, .tup as]] = some (.ok (.tup (rs.map D.str)) [.tup [.str (st w), a, f, .tup as]]) ∧ m_names_lent [.tup [.str (st w), a, f, .tup as]] = some (.ok (.tup (ls.map D.str)) [.tup [.str (st w), a, f, .tup as]]) := by
  have hA : m_args_of [.tup [.str (st w), a, f, .tup as]] = some (.ok (.tup as) [.tup [.str (st w), a, f, .tup as]]) := by
    unfold m_args_of mb_args_of
    rw [ev_fun (by rfl) (by rfl)]
    rcases hw with rfl | rfl <;> walk_at "ev"
  constructor
  · have hr : m_row_exprs [.tup [.str (st w), a, f, .tup as]] = some (.ok (.tup ((as.filter (isTag [119, 111, 114, 116, 104])).map snd)) [.tup [.str (st w), a, f, .tup as]]) := by
      unfold m_row_exprs mb_row_exprs
      rw [ev_fun (by rfl) (by rfl)]
      have hc := comp_ok h hl (row := .tup [.str (st w), a, f, .tup as]) [119, 111, 114, 116, 104] (t := lt_row_exprs_1) (el := le_row_exprs_1) rfl rfl
      rcases hw with rfl | rfl <;> push_cast [hA, hc]
    obtain ⟨o', ho, hn⟩ := read_exs h.worths (.tup [.str (st w), a, f, .tup as]) none (Nat.le_trans Exs.len hl)
    unfold m_names_read mb_names_read
    rw [ev_fun (by rfl) (by rfl)]
    rcases hw with rfl | rfl <;> push_cast [hr, ho]
  · unfold m_names_lent mb_names_lent
    rw [ev_fun (by rfl) (by rfl)]
    have hc := comp_ok h hl (row := .tup [.str (st w), a, f, .tup as]) [108, 101, 110, 116] (t := lt_names_lent_1) (el := le_names_lent_1) rfl rfl
    push_cast [hA, hc, h.lents]
theorem row_call {x : Str} {f : D} {as : List D} {rs ls : List Str} (h : IsArgs as rs ls) (hl : as.length ≤ 5) : RowOk (.tup [.str (st [99, 97, 108, 108]), .str x, f, .tup as]) rs [x] ls := by
  obtain ⟨h1, h2⟩ := row_args (a := .str x) (f := f) (.inl rfl) h hl rfl
  obtain ⟨b1, b2⟩ := h.len
  refine ⟨rfl, h1, ?_, h2, by omega, by simp, by omega⟩
  unfold m_names_set mb_names_set
  rw [ev_fun (by rfl) (by rfl)]
  walk_at "ev"
theorem row_callN {f : D} {as : List D} {rs ls : List Str} (h : IsArgs as rs ls) (hl : as.length ≤ 5) : RowOk (.tup [.str (st [99, 97, 108, 108]), .non, f, .tup as]) rs [] ls := by
  obtain ⟨h1, h2⟩ := row_args (a := .non) (f := f) (.inl rfl) h hl rfl
  obtain ⟨b1, b2⟩ := h.len
  refine ⟨rfl, h1, ?_, h2, by omega, by simp, by omega⟩
  unfold m_names_set mb_names_set
  rw [ev_fun (by rfl) (by rfl)]
  walk_at "ev"
theorem row_start {x : Str} {f : D} {as : List D} {rs ls : List Str} (h : IsArgs as rs ls) (hl : as.length ≤ 5) : RowOk (.tup [.str (st [115, 116, 97, 114, 116]), .str x, f, .tup as]) rs [] ls := by
  obtain ⟨h1, h2⟩ := row_args (a := .str x) (f := f) (.inr rfl) h hl rfl
  obtain ⟨b1, b2⟩ := h.len
  refine ⟨rfl, h1, ?_, h2, by omega, by simp, by omega⟩
  unfold m_names_set mb_names_set
  rw [ev_fun (by rfl) (by rfl)]
  walk_at "ev"
def RowD (d : D) : Prop := ∃ (row : D) (rd sd ld : List Str), d = .lst [row, .lst (rd.map D.str), .lst (sd.map D.str), .lst (ld.map D.str)] ∧ RowOk row rd sd ld
theorem RowD.mk {row : D} {rd sd ld : List Str} {a b c : List D} (h : RowOk row rd sd ld) (ha : a = rd.map D.str) (hb : b = sd.map D.str) (hc : c = ld.map D.str) : RowD (.lst [row, .lst a, .lst b, .lst c]) := ⟨row, rd, sd, ld, by rw [ha, hb, hc], h⟩
theorem plain_rows_ok (p : Pool) {w0 : List Nat} {n1 : Str} {N : List Str} (hw : w0.length ≤ 6) (hN : N.length ≤ 900) (x y own : Str) :
    ∃ (rows : List D) (p' : Pool), m_l_plain_rows [p.d, .mls ((st w0 :: n1 :: N).map D.str), .str x, .str y, .str own] = some (.ok (.mls rows) [p'.d, .mls ((st w0 :: n1 :: N).map D.str), .str x, .str y, .str own]) ∧ rows.length = 14 ∧ ∀ d ∈ rows, RowD d := by
  unfold m_l_plain_rows mb_l_plain_rows
  rw [ev_fun (by rfl) (by rfl)]
  obtain ⟨r1, p1, d1, a1, b1⟩ := draw_ok p (n := 7) (by omega) (by omega)
  obtain ⟨kd, hk, _, hkf⟩ := kindL_at a1 b1
  obtain ⟨r2, p2, d2, a2, b2⟩ := draw_ok p1 (n := 3) (by omega) (by omega)
  obtain ⟨gd, hg, _, hgm⟩ := atI_int (xs := [D.str (st [100, 111, 110, 101]), .str (st [102, 97, 105, 108]), .str (st [97, 108, 119, 97, 121, 115])]) a2 b2
  have hgf : isFz gd = true := by
    simp only [List.mem_cons, List.not_mem_nil, or_false] at hgm
    rcases hgm with rfl | rfl | rfl <;> rfl
  have hz : w0.length ≤ 16777216 := by omega
  obtain ⟨r3, p3, d3, a3, b3⟩ := draw_ok p2 (n := 3) (by omega) (by omega)
  have hl1 : 0 < (st w0 :: n1 :: N).length := by simp
  have hl2 : (st w0 :: n1 :: N).length ≤ 1000 := by simp; omega
  obtain ⟨e4, ns4, p4, d4, x4⟩ := grown_ok hl1 hl2 2 8 p3 (by omega) (by omega)
  obtain ⟨k5, p5, d5, _, f5⟩ := kind_ok p4
  obtain ⟨e6, ns6, p6, d6, x6⟩ := grown_ok hl1 hl2 2 8 p5 (by omega) (by omega)
  obtain ⟨e7, ns7, p7, d7, x7⟩ := grown_ok hl1 hl2 2 8 p6 (by omega) (by omega)
  obtain ⟨e8, ns8, p8, d8, x8⟩ := grown_ok hl1 hl2 2 8 p7 (by omega) (by omega)
  obtain ⟨e9, ns9, p9, d9, x9⟩ := grown_ok hl1 hl2 2 8 p8 (by omega) (by omega)
  obtain ⟨e10, ns10, p10, d10, x10⟩ := grown_ok hl1 hl2 0 8 p9 (by omega) (by omega)
  have c4 : ((2 : Nat) : Int) + 1 = 3 := rfl
  have c0 : ((0 : Nat) : Int) + 1 = 1 := rfl
  rw [c4] at d4 d6 d7 d8 d9
  rw [c0] at d10
  simp only [List.map_cons] at d4 d6 d7 d8 d9 d10 ⊢
  have f4 := x4.fz
  have f6 := x6.fz
  have f7 := x7.fz
  have f8 := x8.fz
  have f9 := x9.fz
  have f10 := x10.fz
  push_cast [kinds_eq, d1, hk, hkf, tk_fz hkf, d2, hg, hgf, tk_fz hgf, hz, d3, d4, d5, f5, d6, d7, d8, d9, d10, f4, f6, f7, f8, f9, f10, tkf_fz f4, tkf_fz f5, tkf_fz f6, tkf_fz f7, tkf_fz f8, tkf_fz f9, tkf_fz f10, tkf_fz hkf, tkf_fz hgf]
  refine ⟨_, p10, rfl, rfl, fun d hd => ?_⟩
  simp only [List.mem_cons, List.not_mem_nil, or_false] at hd
  have e1 : IsEx 2 (D.tup [D.str (st [115, 117, 98]), D.tup [D.str (st [110, 97, 109, 101]), D.str (st w0)], D.tup [D.str (st [97, 100, 100]), D.tup [D.str (st [110, 97, 109, 101]), D.str n1], D.tup [D.str (st [110, 97, 109, 101]), D.str n1]]]) ([st w0] ++ ([n1] ++ [n1])) := .op (by decide) (by decide) .name (.op (by decide) (by decide) .name .name)
  rcases hd with rfl | rfl | rfl | rfl | rfl | rfl | rfl | rfl | rfl | rfl | rfl | rfl | rfl | rfl
  · exact .mk (row_print e1) rfl rfl rfl
  · exact .mk (row_return (.op (n := 1) (ns := []) (ms := [x]) (by decide) (by decide) (.lit rfl) .name)) rfl rfl rfl
  · exact .mk (row_ask (y := y)) rfl rfl rfl
  · exact .mk (row_wait (x := x)) rfl rfl rfl
  · exact .mk row_waitN rfl rfl rfl
  · exact .mk (row_narrow (x := x)) rfl rfl rfl
  · exact .mk row_loop rfl rfl rfl
  · exact .mk (row_let x4) rfl rfl rfl
  · exact .mk (row_set (x := x) x6) rfl rfl rfl
  · exact .mk (row_print x7) rfl rfl rfl
  · exact .mk (row_return x8) rfl rfl rfl
  · exact .mk (row_if x9) rfl rfl rfl
  · exact .mk (row_deferP (x10.mono (by omega))) rfl rfl rfl
  · exact .mk (row_deferS (y := y) (x10.mono (by omega))) rfl rfl rfl
theorem call_rows_ok (p : Pool) {N : List Str} (hN : 0 < N.length) (hN2 : N.length ≤ 1000) (x own : Str) {F : D} {fs : List D} (hF : F = .mls fs ∨ F = .lst fs) (hl : fs.length ≤ 5) (hw : ∀ f ∈ fs, f = .str (st [119, 111, 114, 116, 104]) ∨ f = .str (st [108, 101, 110, 116])) :
    ∃ (rows : List D) (p' : Pool), m_l_call_rows [p.d, .mls (N.map D.str), .str x, .str own, F] = some (.ok (.mls rows) [p'.d, .mls (N.map D.str), .str x, .str own, .lst fs]) ∧ rows.length = 3 ∧ ∀ d ∈ rows, RowD d := by
  unfold m_l_call_rows mb_l_call_rows
  rw [ev_fun (by rfl) (by rfl)]
  obtain ⟨w, p1, d1, hw1⟩ := fresh_ok p (N ++ [own])
  obtain ⟨as, rs, ls, p2, d2, hA, hal⟩ := args_grown_ok hN hN2 p1 hF hl hw
  simp only [List.map_append, List.map_cons, List.map_nil] at d1
  have z : N.length + 1 ≤ 16777216 := by omega
  rcases hF with rfl | rfl <;>
  · push_cast [List.length_map, z, d1, d2]
    refine ⟨_, p2, rfl, rfl, fun d hd => ?_⟩
    simp only [List.mem_cons, List.not_mem_nil, or_false] at hd
    rcases hd with rfl | rfl | rfl
    · exact .mk (row_call (x := x) hA hal) rfl rfl rfl
    · exact .mk (row_callN hA hal) rfl rfl rfl
    · exact .mk (row_start hA hal) rfl rfl rfl
theorem names_loop (p : Pool) (sc : D) (n : Nat) (hn : n ≤ 10) : ∃ (N : List (List Nat)) (p' : Pool) (o : Option D), mLoop (gNm 3) lb_law_1 (rngD 0 n) [some sc, some p.d, some (.mls []), none, none, none, none, none, none, none, none, none, none] =
    some (.ok .nx [some sc, some p'.d, some (.mls ((N.map st).map D.str)), o, none, none, none, none, none, none, none, none, none]) ∧ N.length = n ∧ ∀ w ∈ N, Nm w := by
  obtain ⟨e', hlo, p2, N, o, rfl, hl, hw⟩ := loop_inv (g := gNm 3) (b := lb_law_1)
    (fun k e => ∃ (p : Pool) (N : List (List Nat)) (o : Option D), e = [some sc, some p.d, some (.mls ((N.map st).map D.str)), o, none, none, none, none, none, none, none, none, none] ∧ N.length = k ∧ ∀ w ∈ N, Nm w)
    (rngD 0 n) 0 [some sc, some p.d, some (.mls []), none, none, none, none, none, none, none, none, none, none] ⟨p, [], none, rfl, rfl, by simp⟩ fun k x e hk hI => by
      obtain ⟨p, N, o, rfl, hl, hw⟩ := hI
      obtain ⟨hk1, rfl⟩ := rngD_get hk
      obtain ⟨w, p', hf, hw1⟩ := fresh_ok p (N.map st)
      have z : N.length < 16777216 := by omega
      refine ⟨_, .nx, [some sc, some p'.d, some (.mls (((N ++ [w]).map st).map D.str)), some (.int (0 + (k : Int))), none, none, none, none, none, none, none, none, none], rfl, ?_, .inl rfl, p', N ++ [w], _, rfl, by simp [hl], ?_⟩
      · unfold lb_law_1
        push_cast [hf, List.length_map, z, List.map_append]
      · intro v hv
        rcases List.mem_append.mp hv with hv | hv
        · exact hw v hv
        · simp at hv; subst hv; exact hw1
  rw [rngD_length] at hl
  exact ⟨N, p2, o, hlo, by omega, hw⟩
/-- every row keeps the law -/
theorem rows_loop {rows : List D} (h : ∀ d ∈ rows, RowD d) (a b c d0 e0 f0 g0 h0 i0 : Option D) (o1 o2 o3 o4 : Option D) : ∃ p1 p2 p3 p4, mLoop (gUn 4 (gsCons (gNm 9) (gsCons (gNm 10) (gsCons (gNm 11) (gsCons (gNm 12) gsNil))))) lb_law_2 rows [a, b, c, d0, e0, f0, g0, h0, i0, o1, o2, o3, o4] =
    some (.ok .nx [a, b, c, d0, e0, f0, g0, h0, i0, p1, p2, p3, p4]) := by
  obtain ⟨e', hlo, p1, p2, p3, p4, rfl⟩ := loop_inv (g := gUn 4 (gsCons (gNm 9) (gsCons (gNm 10) (gsCons (gNm 11) (gsCons (gNm 12) gsNil))))) (b := lb_law_2)
    (fun _ e => ∃ p1 p2 p3 p4, e = [a, b, c, d0, e0, f0, g0, h0, i0, p1, p2, p3, p4]) rows 0 [a, b, c, d0, e0, f0, g0, h0, i0, o1, o2, o3, o4] ⟨o1, o2, o3, o4, rfl⟩ fun k x e hk hI => by
      obtain ⟨o1, o2, o3, o4, rfl⟩ := hI
      obtain ⟨row, rd, sd, ld, rfl, hr⟩ := h x (List.mem_of_getElem? hk)
      have f := hr.fz
      obtain ⟨b1, b2, b3⟩ := hr.b
      have s1 := same_ok (Sm.strs (n := 6) rd (by omega))
      have s2 := same_ok (Sm.strs (n := 6) sd (by omega))
      have s3 := same_ok (Sm.strs (n := 6) ld (by omega))
      refine ⟨[a, b, c, d0, e0, f0, g0, h0, i0, some row, some (.lst (rd.map D.str)), some (.lst (sd.map D.str)), some (.lst (ld.map D.str))], .nx, [a, b, c, d0, e0, f0, g0, h0, i0, some row, some (.lst (rd.map D.str)), some (.lst (sd.map D.str)), some (.lst (ld.map D.str))], ?_, ?_, .inl rfl, _, _, _, _, rfl⟩
      · walk_at "ev"
      · unfold lb_law_2
        push_cast [f, hr.r, hr.s, hr.l, s1, s2, s3, isAl_fz f, res_fz f]
  exact ⟨p1, p2, p3, p4, hlo⟩
theorem forms_ok (p : Pool) (n : Nat) (hn : n ≤ 4) (a c e f g h i j k l m : Option D) : ∃ (fs : List D) (p' : Pool), mCl (gNm 3) (fun e => some (.ok true e)) le_law_1 [3] (rngD 0 n) [] [a, some p.d, c, none, e, f, g, h, i, j, k, l, m] = some (fs, [a, some p'.d, c, none, e, f, g, h, i, j, k, l, m]) ∧ fs.length = n ∧ ∀ x ∈ fs, x = .str (st [119, 111, 114, 116, 104]) ∨ x = .str (st [108, 101, 110, 116]) := by
  obtain ⟨fs, e', hc, p2, rfl, hl, hw⟩ := cl_inv (g := gNm 3) (t := fun e => some (.ok true e)) (el := le_law_1) (own := [3])
    (fun k0 acc env => ∃ p : Pool, env = [a, some p.d, c, none, e, f, g, h, i, j, k, l, m] ∧ acc.length = k0 ∧ ∀ x ∈ acc, x = .str (st [119, 111, 114, 116, 104]) ∨ x = .str (st [108, 101, 110, 116])) (rngD 0 n) 0 [] [a, some p.d, c, none, e, f, g, h, i, j, k, l, m] ⟨p, rfl, rfl, by simp⟩ fun k0 x acc env hk hI => by
      obtain ⟨p, rfl, hl, hw⟩ := hI
      obtain ⟨hk1, rfl⟩ := rngD_get hk
      obtain ⟨r, p', hd, h2, h3⟩ := draw_ok p (n := 2) (by omega) (by omega)
      have hr : r = 0 ∨ r = 1 := by omega
      have key : ∀ (y : D), (y = .str (st [119, 111, 114, 116, 104]) ∨ y = .str (st [108, 101, 110, 116])) → le_law_1 [a, some p.d, c, some (.int (0 + (k0 : Int))), e, f, g, h, i, j, k, l, m] = some (.ok y [a, some p'.d, c, some (.int (0 + (k0 : Int))), e, f, g, h, i, j, k, l, m]) → ∃ y e3 y' e4, le_law_1 [a, some p.d, c, some (.int (0 + (k0 : Int))), e, f, g, h, i, j, k, l, m] = some (.ok y e3) ∧ tkf y e3 = some (y', e4) ∧ acc.length < 16777216 ∧ ∃ p : Pool, wipeE e4 [3] = [a, some p.d, c, none, e, f, g, h, i, j, k, l, m] ∧ (acc ++ [y']).length = 0 + k0 + 1 ∧ ∀ x ∈ acc ++ [y'], x = .str (st [119, 111, 114, 116, 104]) ∨ x = .str (st [108, 101, 110, 116]) := by
        intro y hy he
        have hyf : isFz y = true := by rcases hy with rfl | rfl <;> rfl
        refine ⟨y, _, y, _, he, tkf_fz hyf, by omega, p', rfl, by simp [hl], fun x hx => ?_⟩
        rcases List.mem_append.mp hx with hx | hx
        · exact hw x hx
        · simp at hx; subst hx; exact hy
      refine ⟨_, true, _, rfl, rfl, .inr ⟨rfl, ?_⟩⟩
      rcases hr with rfl | rfl
      · exact key _ (.inl rfl) (by unfold le_law_1; push_cast [hd])
      · exact key _ (.inr rfl) (by unfold le_law_1; push_cast [hd])
  rw [rngD_length] at hl
  exact ⟨fs, p2, hc, by omega, hw⟩
theorem law_mir (ns : List Int) (hns : ns.length ≤ 63) : ∃ ds', m_law [.rol (ns.map D.int)] = some (.ok (.bl true) ds') := by
  unfold m_law mb_law
  rw [ev_fun (by rfl) (by rfl)]
  obtain ⟨p0, d0⟩ := pool_new ns
  obtain ⟨r1, p1, d1, a1, b1⟩ := draw_ok p0 (n := 4) (by omega) (by omega)
  have hr : -4611686018427387904 ≤ 2 + r1 ∧ 2 + r1 < 4611686018427387904 := by omega
  obtain ⟨N, p2, o2, hlo, hN, hNm⟩ := names_loop p1 (.rol (ns.map D.int)) (2 + r1).toNat (by omega)
  obtain ⟨w3, p3, d3, hw3⟩ := fresh_ok p2 (N.map st)
  have hNl : (N.map st).length = N.length := List.length_map _
  obtain ⟨r4, p4, d4, a4, b4⟩ := draw_ok p3 (n := N.length) (by omega) (by omega)
  obtain ⟨x, hx, _, hxm⟩ := atI_int (xs := (N.map st).map D.str) a4 (by rw [List.length_map, List.length_map]; exact b4)
  obtain ⟨x, _, rfl⟩ := List.mem_map.mp hxm
  obtain ⟨r5, p5, d5, a5, b5⟩ := draw_ok p4 (n := N.length) (by omega) (by omega)
  obtain ⟨y, hy, _, hym⟩ := atI_int (xs := (N.map st).map D.str) a5 (by rw [List.length_map, List.length_map]; exact b5)
  obtain ⟨y, _, rfl⟩ := List.mem_map.mp hym
  have hN1 : 2 ≤ N.length ∧ N.length ≤ 10 := by omega
  obtain ⟨w0, w1, N', rfl⟩ : ∃ w0 w1 N', N = w0 :: w1 :: N' := by
    rcases N with _ | ⟨w0, _ | ⟨w1, N'⟩⟩
    · exact absurd hN1.1 (by simp)
    · exact absurd hN1.1 (by simp)
    · exact ⟨w0, w1, N', rfl⟩
  have hN2 : N'.length ≤ 10 := by
    have := hN1.2
    rw [List.length_cons, List.length_cons] at this
    omega
  obtain ⟨rows6, p6, d6, l6, h6⟩ := plain_rows_ok p5 (w0 := w0) (n1 := st w1) (N := N'.map st) (hNm w0 (by simp)).len.2 (by rw [List.length_map]; omega) x y (st w3)
  have hq1 : 0 < ((w0 :: w1 :: N').map st).length := by simp
  have hq2 : ((w0 :: w1 :: N').map st).length ≤ 1000 := by simp; omega
  obtain ⟨rows7, p7, d7, l7, h7⟩ := call_rows_ok p6 hq1 hq2 x (st w3) (F := .mls [.str (st [119, 111, 114, 116, 104]), .str (st [108, 101, 110, 116]), .str (st [119, 111, 114, 116, 104])]) (.inl rfl) (by decide) (by simp)
  obtain ⟨r8, p8, d8, a8, b8⟩ := draw_ok p7 (n := 4) (by omega) (by omega)
  have hr8 : -4611686018427387904 ≤ r8 ∧ r8 < 4611686018427387904 := by omega
  obtain ⟨fs, p9, d9, l9, h9⟩ := forms_ok p8 r8.toNat (by omega) (some (.rol (ns.map D.int))) (some (.mls (((w0 :: w1 :: N').map st).map D.str))) (some (.str (st w3))) (some (.str x)) (some (.str y)) (some (.mls (rows6 ++ rows7))) none none none none none
  obtain ⟨rows10, p10, d10, l10, h10⟩ := call_rows_ok p9 hq1 hq2 y (st w3) (F := .mls fs) (.inl rfl) (by omega) h9
  obtain ⟨rows11, p11, d11, l11, h11⟩ := call_rows_ok p10 hq1 hq2 y (st w3) (F := .mls [.str (st [108, 101, 110, 116]), .str (st [119, 111, 114, 116, 104]), .str (st [108, 101, 110, 116])]) (.inl rfl) (by decide) (by simp)
  simp only [List.map_cons, List.length_cons] at hlo d3 d4 d5 hx hy d6 d7 d9 d10 d11
  have hcl : ((N'.map st).map D.str).length = N'.length := by rw [List.length_map, List.length_map]
  have hlen : ((w0 :: w1 :: N').length : Int) = ((N'.length + 1 + 1 : Nat) : Int) := rfl
  have hall : ∀ d ∈ rows6 ++ rows7 ++ rows10 ++ rows11 ++ (rows6 ++ rows7 ++ rows10 ++ rows11).take 6, RowD d := by
    have hb : ∀ d ∈ rows6 ++ rows7 ++ rows10 ++ rows11, RowD d := by
      intro d hd
      simp only [List.mem_append] at hd
      rcases hd with ((hd | hd) | hd) | hd
      · exact h6 d hd
      · exact h7 d hd
      · exact h10 d hd
      · exact h11 d hd
    intro d hd
    rcases List.mem_append.mp hd with hd | hd
    · exact hb d hd
    · exact hb d (List.mem_of_mem_take hd)
  have z1 : rows6.length + rows7.length ≤ 16777216 := by omega
  have z2 : (rows6 ++ rows7).length + rows10.length ≤ 16777216 := by rw [List.length_append]; omega
  have z3 : (rows6 ++ rows7 ++ rows10).length + rows11.length ≤ 16777216 := by rw [List.length_append, List.length_append]; omega
  have z4 : (rows6 ++ rows7 ++ rows10 ++ rows11).length + ((rows6 ++ rows7 ++ rows10 ++ rows11).take 6).length ≤ 16777216 := by rw [List.length_take, List.length_append, List.length_append, List.length_append]; omega
  obtain ⟨q1, q2, q3, q4, hrl⟩ := rows_loop hall (some (.rol (ns.map D.int))) (some p11.d) (some (.mls (.str (st w0) :: .str (st w1) :: (N'.map st).map D.str))) none (some (.str (st w3))) (some (.str x)) (some (.str y)) (some (.mls (rows6 ++ rows7 ++ rows10 ++ rows11))) (some (.lst fs)) none none none none
  push_cast [d0, d1, hr, hlo, d3, hcl, d4, hx, d5, hy, d6, d7, z1, d8, hr8, d9, d10, z2, d11, z3, z4, hrl]
  exact ⟨_, rfl⟩
end Q

namespace Q
open PySem L2
theorem all_mk {l : PySem.W.OpenLaw} {w : World} {K : PySem.W.Frag} {h : Heap} {mg : Str → Option Value} {fa : Addr} (X : K.In h) (G : h.Ns mainGlobals mg) (hfa : mg "law" = some (.ref fa))
    {f_l_pool : Addr} {od_l_pool an_l_pool : Option Addr} {sl_l_pool : Array (Option Value)} {oc_l_pool kV_l_pool dc_l_pool pm_l_pool cd_l_pool ct_l_pool : Value}
    {f_l_mixed : Addr} {od_l_mixed an_l_mixed : Option Addr} {sl_l_mixed : Array (Option Value)} {oc_l_mixed kV_l_mixed dc_l_mixed pm_l_mixed cd_l_mixed ct_l_mixed : Value}
    {f_l_draw : Addr} {od_l_draw an_l_draw : Option Addr} {sl_l_draw : Array (Option Value)} {oc_l_draw kV_l_draw dc_l_draw pm_l_draw cd_l_draw ct_l_draw : Value}
    {f_l_word : Addr} {od_l_word an_l_word : Option Addr} {sl_l_word : Array (Option Value)} {oc_l_word kV_l_word dc_l_word pm_l_word cd_l_word ct_l_word : Value}
    {f_l_kinds : Addr} {od_l_kinds an_l_kinds : Option Addr} {sl_l_kinds : Array (Option Value)} {oc_l_kinds kV_l_kinds dc_l_kinds pm_l_kinds cd_l_kinds ct_l_kinds : Value}
    {f_l_fresh : Addr} {od_l_fresh an_l_fresh : Option Addr} {sl_l_fresh : Array (Option Value)} {oc_l_fresh kV_l_fresh dc_l_fresh pm_l_fresh cd_l_fresh ct_l_fresh : Value}
    {f_l_literal : Addr} {od_l_literal an_l_literal : Option Addr} {sl_l_literal : Array (Option Value)} {oc_l_literal kV_l_literal dc_l_literal pm_l_literal cd_l_literal ct_l_literal : Value}
    {f_l_grown : Addr} {od_l_grown an_l_grown : Option Addr} {sl_l_grown : Array (Option Value)} {oc_l_grown kV_l_grown dc_l_grown pm_l_grown cd_l_grown ct_l_grown : Value}
    {f_l_kind : Addr} {od_l_kind an_l_kind : Option Addr} {sl_l_kind : Array (Option Value)} {oc_l_kind kV_l_kind dc_l_kind pm_l_kind cd_l_kind ct_l_kind : Value}
    {f_l_plain_rows : Addr} {od_l_plain_rows an_l_plain_rows : Option Addr} {sl_l_plain_rows : Array (Option Value)} {oc_l_plain_rows kV_l_plain_rows dc_l_plain_rows pm_l_plain_rows cd_l_plain_rows ct_l_plain_rows : Value}
    {f_l_args_grown : Addr} {od_l_args_grown an_l_args_grown : Option Addr} {sl_l_args_grown : Array (Option Value)} {oc_l_args_grown kV_l_args_grown dc_l_args_grown pm_l_args_grown cd_l_args_grown ct_l_args_grown : Value}
    {f_l_call_rows : Addr} {od_l_call_rows an_l_call_rows : Option Addr} {sl_l_call_rows : Array (Option Value)} {oc_l_call_rows kV_l_call_rows dc_l_call_rows pm_l_call_rows cd_l_call_rows ct_l_call_rows : Value}
    {f_l_is_int : Addr} {od_l_is_int an_l_is_int : Option Addr} {sl_l_is_int : Array (Option Value)} {oc_l_is_int kV_l_is_int dc_l_is_int pm_l_is_int cd_l_is_int ct_l_is_int : Value}
    {f_l_same : Addr} {od_l_same an_l_same : Option Addr} {sl_l_same : Array (Option Value)} {oc_l_same kV_l_same dc_l_same pm_l_same cd_l_same ct_l_same : Value}
    {f_args_of : Addr} {od_args_of an_args_of : Option Addr} {sl_args_of : Array (Option Value)} {oc_args_of kV_args_of dc_args_of pm_args_of cd_args_of ct_args_of : Value}
    {f_row_exprs : Addr} {od_row_exprs an_row_exprs : Option Addr} {sl_row_exprs : Array (Option Value)} {oc_row_exprs kV_row_exprs dc_row_exprs pm_row_exprs cd_row_exprs ct_row_exprs : Value}
    {f_expr_names : Addr} {od_expr_names an_expr_names : Option Addr} {sl_expr_names : Array (Option Value)} {oc_expr_names kV_expr_names dc_expr_names pm_expr_names cd_expr_names ct_expr_names : Value}
    {f_names_read : Addr} {od_names_read an_names_read : Option Addr} {sl_names_read : Array (Option Value)} {oc_names_read kV_names_read dc_names_read pm_names_read cd_names_read ct_names_read : Value}
    {f_names_set : Addr} {od_names_set an_names_set : Option Addr} {sl_names_set : Array (Option Value)} {oc_names_set kV_names_set dc_names_set pm_names_set cd_names_set ct_names_set : Value}
    {f_names_lent : Addr} {od_names_lent an_names_lent : Option Addr} {sl_names_lent : Array (Option Value)} {oc_names_lent kV_names_lent dc_names_lent pm_names_lent cd_names_lent ct_names_lent : Value}
    {f_law : Addr} {od_law an_law : Option Addr} {sl_law : Array (Option Value)} {oc_law kV_law dc_law pm_law cd_law ct_law : Value}
    (a_l_pool : PySem.W.nsIn K mainGlobals "_law_pool" = some (some (.ref f_l_pool))) (l_l_pool : K.lookup f_l_pool = some ⟨oc_l_pool, od_l_pool, .func (PySem.W.fnOf "_law_pool" "_law_pool" (defArgs s_l_pool) (defBody s_l_pool) (defScope s_l_pool) .none kV_l_pool dc_l_pool pm_l_pool an_l_pool cd_l_pool ct_l_pool), sl_l_pool⟩) (c_l_pool : PySem.W.codeIn K cd_l_pool "_law_pool" = true) (k_l_pool : PySem.W.keepIn K (.ref f_l_pool) = true)
    (a_l_mixed : PySem.W.nsIn K mainGlobals "_law_mixed" = some (some (.ref f_l_mixed))) (l_l_mixed : K.lookup f_l_mixed = some ⟨oc_l_mixed, od_l_mixed, .func (PySem.W.fnOf "_law_mixed" "_law_mixed" (defArgs s_l_mixed) (defBody s_l_mixed) (defScope s_l_mixed) .none kV_l_mixed dc_l_mixed pm_l_mixed an_l_mixed cd_l_mixed ct_l_mixed), sl_l_mixed⟩) (c_l_mixed : PySem.W.codeIn K cd_l_mixed "_law_mixed" = true) (k_l_mixed : PySem.W.keepIn K (.ref f_l_mixed) = true)
    (a_l_draw : PySem.W.nsIn K mainGlobals "_law_draw" = some (some (.ref f_l_draw))) (l_l_draw : K.lookup f_l_draw = some ⟨oc_l_draw, od_l_draw, .func (PySem.W.fnOf "_law_draw" "_law_draw" (defArgs s_l_draw) (defBody s_l_draw) (defScope s_l_draw) .none kV_l_draw dc_l_draw pm_l_draw an_l_draw cd_l_draw ct_l_draw), sl_l_draw⟩) (c_l_draw : PySem.W.codeIn K cd_l_draw "_law_draw" = true) (k_l_draw : PySem.W.keepIn K (.ref f_l_draw) = true)
    (a_l_word : PySem.W.nsIn K mainGlobals "_law_word" = some (some (.ref f_l_word))) (l_l_word : K.lookup f_l_word = some ⟨oc_l_word, od_l_word, .func (PySem.W.fnOf "_law_word" "_law_word" (defArgs s_l_word) (defBody s_l_word) (defScope s_l_word) .none kV_l_word dc_l_word pm_l_word an_l_word cd_l_word ct_l_word), sl_l_word⟩) (c_l_word : PySem.W.codeIn K cd_l_word "_law_word" = true) (k_l_word : PySem.W.keepIn K (.ref f_l_word) = true)
    (a_l_kinds : PySem.W.nsIn K mainGlobals "_law_kinds" = some (some (.ref f_l_kinds))) (l_l_kinds : K.lookup f_l_kinds = some ⟨oc_l_kinds, od_l_kinds, .func (PySem.W.fnOf "_law_kinds" "_law_kinds" (defArgs s_l_kinds) (defBody s_l_kinds) (defScope s_l_kinds) .none kV_l_kinds dc_l_kinds pm_l_kinds an_l_kinds cd_l_kinds ct_l_kinds), sl_l_kinds⟩) (c_l_kinds : PySem.W.codeIn K cd_l_kinds "_law_kinds" = true) (k_l_kinds : PySem.W.keepIn K (.ref f_l_kinds) = true)
    (a_l_fresh : PySem.W.nsIn K mainGlobals "_law_fresh" = some (some (.ref f_l_fresh))) (l_l_fresh : K.lookup f_l_fresh = some ⟨oc_l_fresh, od_l_fresh, .func (PySem.W.fnOf "_law_fresh" "_law_fresh" (defArgs s_l_fresh) (defBody s_l_fresh) (defScope s_l_fresh) .none kV_l_fresh dc_l_fresh pm_l_fresh an_l_fresh cd_l_fresh ct_l_fresh), sl_l_fresh⟩) (c_l_fresh : PySem.W.codeIn K cd_l_fresh "_law_fresh" = true) (k_l_fresh : PySem.W.keepIn K (.ref f_l_fresh) = true)
    (a_l_literal : PySem.W.nsIn K mainGlobals "_law_literal" = some (some (.ref f_l_literal))) (l_l_literal : K.lookup f_l_literal = some ⟨oc_l_literal, od_l_literal, .func (PySem.W.fnOf "_law_literal" "_law_literal" (defArgs s_l_literal) (defBody s_l_literal) (defScope s_l_literal) .none kV_l_literal dc_l_literal pm_l_literal an_l_literal cd_l_literal ct_l_literal), sl_l_literal⟩) (c_l_literal : PySem.W.codeIn K cd_l_literal "_law_literal" = true) (k_l_literal : PySem.W.keepIn K (.ref f_l_literal) = true)
    (a_l_grown : PySem.W.nsIn K mainGlobals "_law_grown" = some (some (.ref f_l_grown))) (l_l_grown : K.lookup f_l_grown = some ⟨oc_l_grown, od_l_grown, .func (PySem.W.fnOf "_law_grown" "_law_grown" (defArgs s_l_grown) (defBody s_l_grown) (defScope s_l_grown) .none kV_l_grown dc_l_grown pm_l_grown an_l_grown cd_l_grown ct_l_grown), sl_l_grown⟩) (c_l_grown : PySem.W.codeIn K cd_l_grown "_law_grown" = true) (k_l_grown : PySem.W.keepIn K (.ref f_l_grown) = true)
    (a_l_kind : PySem.W.nsIn K mainGlobals "_law_kind" = some (some (.ref f_l_kind))) (l_l_kind : K.lookup f_l_kind = some ⟨oc_l_kind, od_l_kind, .func (PySem.W.fnOf "_law_kind" "_law_kind" (defArgs s_l_kind) (defBody s_l_kind) (defScope s_l_kind) .none kV_l_kind dc_l_kind pm_l_kind an_l_kind cd_l_kind ct_l_kind), sl_l_kind⟩) (c_l_kind : PySem.W.codeIn K cd_l_kind "_law_kind" = true) (k_l_kind : PySem.W.keepIn K (.ref f_l_kind) = true)
    (a_l_plain_rows : PySem.W.nsIn K mainGlobals "_law_plain_rows" = some (some (.ref f_l_plain_rows))) (l_l_plain_rows : K.lookup f_l_plain_rows = some ⟨oc_l_plain_rows, od_l_plain_rows, .func (PySem.W.fnOf "_law_plain_rows" "_law_plain_rows" (defArgs s_l_plain_rows) (defBody s_l_plain_rows) (defScope s_l_plain_rows) .none kV_l_plain_rows dc_l_plain_rows pm_l_plain_rows an_l_plain_rows cd_l_plain_rows ct_l_plain_rows), sl_l_plain_rows⟩) (c_l_plain_rows : PySem.W.codeIn K cd_l_plain_rows "_law_plain_rows" = true) (k_l_plain_rows : PySem.W.keepIn K (.ref f_l_plain_rows) = true)
    (a_l_args_grown : PySem.W.nsIn K mainGlobals "_law_args_grown" = some (some (.ref f_l_args_grown))) (l_l_args_grown : K.lookup f_l_args_grown = some ⟨oc_l_args_grown, od_l_args_grown, .func (PySem.W.fnOf "_law_args_grown" "_law_args_grown" (defArgs s_l_args_grown) (defBody s_l_args_grown) (defScope s_l_args_grown) .none kV_l_args_grown dc_l_args_grown pm_l_args_grown an_l_args_grown cd_l_args_grown ct_l_args_grown), sl_l_args_grown⟩) (c_l_args_grown : PySem.W.codeIn K cd_l_args_grown "_law_args_grown" = true) (k_l_args_grown : PySem.W.keepIn K (.ref f_l_args_grown) = true)
    (a_l_call_rows : PySem.W.nsIn K mainGlobals "_law_call_rows" = some (some (.ref f_l_call_rows))) (l_l_call_rows : K.lookup f_l_call_rows = some ⟨oc_l_call_rows, od_l_call_rows, .func (PySem.W.fnOf "_law_call_rows" "_law_call_rows" (defArgs s_l_call_rows) (defBody s_l_call_rows) (defScope s_l_call_rows) .none kV_l_call_rows dc_l_call_rows pm_l_call_rows an_l_call_rows cd_l_call_rows ct_l_call_rows), sl_l_call_rows⟩) (c_l_call_rows : PySem.W.codeIn K cd_l_call_rows "_law_call_rows" = true) (k_l_call_rows : PySem.W.keepIn K (.ref f_l_call_rows) = true)
    (a_l_is_int : PySem.W.nsIn K mainGlobals "_law_is_int" = some (some (.ref f_l_is_int))) (l_l_is_int : K.lookup f_l_is_int = some ⟨oc_l_is_int, od_l_is_int, .func (PySem.W.fnOf "_law_is_int" "_law_is_int" (defArgs s_l_is_int) (defBody s_l_is_int) (defScope s_l_is_int) .none kV_l_is_int dc_l_is_int pm_l_is_int an_l_is_int cd_l_is_int ct_l_is_int), sl_l_is_int⟩) (c_l_is_int : PySem.W.codeIn K cd_l_is_int "_law_is_int" = true) (k_l_is_int : PySem.W.keepIn K (.ref f_l_is_int) = true)
    (a_l_same : PySem.W.nsIn K mainGlobals "_law_same" = some (some (.ref f_l_same))) (l_l_same : K.lookup f_l_same = some ⟨oc_l_same, od_l_same, .func (PySem.W.fnOf "_law_same" "_law_same" (defArgs s_l_same) (defBody s_l_same) (defScope s_l_same) .none kV_l_same dc_l_same pm_l_same an_l_same cd_l_same ct_l_same), sl_l_same⟩) (c_l_same : PySem.W.codeIn K cd_l_same "_law_same" = true) (k_l_same : PySem.W.keepIn K (.ref f_l_same) = true)
    (a_args_of : PySem.W.nsIn K mainGlobals "args_of" = some (some (.ref f_args_of))) (l_args_of : K.lookup f_args_of = some ⟨oc_args_of, od_args_of, .func (PySem.W.fnOf "args_of" "args_of" (defArgs s_args_of) (defBody s_args_of) (defScope s_args_of) .none kV_args_of dc_args_of pm_args_of an_args_of cd_args_of ct_args_of), sl_args_of⟩) (c_args_of : PySem.W.codeIn K cd_args_of "args_of" = true) (k_args_of : PySem.W.keepIn K (.ref f_args_of) = true)
    (a_row_exprs : PySem.W.nsIn K mainGlobals "row_exprs" = some (some (.ref f_row_exprs))) (l_row_exprs : K.lookup f_row_exprs = some ⟨oc_row_exprs, od_row_exprs, .func (PySem.W.fnOf "row_exprs" "row_exprs" (defArgs s_row_exprs) (defBody s_row_exprs) (defScope s_row_exprs) .none kV_row_exprs dc_row_exprs pm_row_exprs an_row_exprs cd_row_exprs ct_row_exprs), sl_row_exprs⟩) (c_row_exprs : PySem.W.codeIn K cd_row_exprs "row_exprs" = true) (k_row_exprs : PySem.W.keepIn K (.ref f_row_exprs) = true)
    (a_expr_names : PySem.W.nsIn K mainGlobals "expr_names" = some (some (.ref f_expr_names))) (l_expr_names : K.lookup f_expr_names = some ⟨oc_expr_names, od_expr_names, .func (PySem.W.fnOf "expr_names" "expr_names" (defArgs s_expr_names) (defBody s_expr_names) (defScope s_expr_names) .none kV_expr_names dc_expr_names pm_expr_names an_expr_names cd_expr_names ct_expr_names), sl_expr_names⟩) (c_expr_names : PySem.W.codeIn K cd_expr_names "expr_names" = true) (k_expr_names : PySem.W.keepIn K (.ref f_expr_names) = true)
    (a_names_read : PySem.W.nsIn K mainGlobals "names_read" = some (some (.ref f_names_read))) (l_names_read : K.lookup f_names_read = some ⟨oc_names_read, od_names_read, .func (PySem.W.fnOf "names_read" "names_read" (defArgs s_names_read) (defBody s_names_read) (defScope s_names_read) .none kV_names_read dc_names_read pm_names_read an_names_read cd_names_read ct_names_read), sl_names_read⟩) (c_names_read : PySem.W.codeIn K cd_names_read "names_read" = true) (k_names_read : PySem.W.keepIn K (.ref f_names_read) = true)
    (a_names_set : PySem.W.nsIn K mainGlobals "names_set" = some (some (.ref f_names_set))) (l_names_set : K.lookup f_names_set = some ⟨oc_names_set, od_names_set, .func (PySem.W.fnOf "names_set" "names_set" (defArgs s_names_set) (defBody s_names_set) (defScope s_names_set) .none kV_names_set dc_names_set pm_names_set an_names_set cd_names_set ct_names_set), sl_names_set⟩) (c_names_set : PySem.W.codeIn K cd_names_set "names_set" = true) (k_names_set : PySem.W.keepIn K (.ref f_names_set) = true)
    (a_names_lent : PySem.W.nsIn K mainGlobals "names_lent" = some (some (.ref f_names_lent))) (l_names_lent : K.lookup f_names_lent = some ⟨oc_names_lent, od_names_lent, .func (PySem.W.fnOf "names_lent" "names_lent" (defArgs s_names_lent) (defBody s_names_lent) (defScope s_names_lent) .none kV_names_lent dc_names_lent pm_names_lent an_names_lent cd_names_lent ct_names_lent), sl_names_lent⟩) (c_names_lent : PySem.W.codeIn K cd_names_lent "names_lent" = true) (k_names_lent : PySem.W.keepIn K (.ref f_names_lent) = true)
    (a_law : PySem.W.nsIn K mainGlobals "law" = some (some (.ref f_law))) (l_law : K.lookup f_law = some ⟨oc_law, od_law, .func (PySem.W.fnOf "law" "law" (defArgs s_law) (defBody s_law) (defScope s_law) .none kV_law dc_law pm_law an_law cd_law ct_law), sl_law⟩) (c_law : PySem.W.codeIn K cd_law "law" = true) (k_law : PySem.W.keepIn K (.ref f_law) = true)
    (z_range : PySem.W.nsIn K mainGlobals "range" = some none)
    (z_len : PySem.W.nsIn K mainGlobals "len" = some none)
    (z_tuple : PySem.W.nsIn K mainGlobals "tuple" = some none)
    (z_list : PySem.W.nsIn K mainGlobals "list" = some none)
    (z_int : PySem.W.nsIn K mainGlobals "int" = some none)
    (z_str : PySem.W.nsIn K mainGlobals "str" = some none)
    (z_isinstance : PySem.W.nsIn K mainGlobals "isinstance" = some none)
    (z_bool : PySem.W.nsIn K mainGlobals "bool" = some none) :
    ∃ fd : FuncData, (∀ (s : Shared) (v : Value), BindsTo s fd ⟨[v], []⟩ [("_law_script", v)]) ∧ ∃ cv, ∀ base : Heap, K.In base → base.Ns mainGlobals mg → FnOk l.prog w K mg base (L2.CX l.prog w) 16 fa fd ["_law_script"] (spM K cv m_law) := by
  have e := hfa.symm.trans (PySem.W.mg_of X G a_law)
  cases e
  have F_l_pool := fun_mk (st := s_l_pool) l_l_pool c_l_pool k_l_pool
  have b_l_pool := F_l_pool.binds (ps := ["_law_script"]) fun _ _ _ _ _ _ us hl => match us, hl with | [_], _ => rfl
  have F_l_mixed := fun_mk (st := s_l_mixed) l_l_mixed c_l_mixed k_l_mixed
  have b_l_mixed := F_l_mixed.binds (ps := ["_law_cell", "_law_turn", "_law_limit"]) fun _ _ _ _ _ _ us hl => match us, hl with | [_, _, _], _ => rfl
  have F_l_draw := fun_mk (st := s_l_draw) l_l_draw c_l_draw k_l_draw
  have b_l_draw := F_l_draw.binds (ps := ["_law_pool_here", "_law_limit"]) fun _ _ _ _ _ _ us hl => match us, hl with | [_, _], _ => rfl
  have F_l_word := fun_mk (st := s_l_word) l_l_word c_l_word k_l_word
  have b_l_word := F_l_word.binds (ps := ["_law_pool_here", "_law_first", "_law_signs", "_law_more"]) fun _ _ _ _ _ _ us hl => match us, hl with | [_, _, _, _], _ => rfl
  have F_l_kinds := fun_mk (st := s_l_kinds) l_l_kinds c_l_kinds k_l_kinds
  have b_l_kinds := F_l_kinds.binds (ps := []) fun _ _ _ _ _ _ us hl => match us, hl with | [], _ => rfl
  have F_l_fresh := fun_mk (st := s_l_fresh) l_l_fresh c_l_fresh k_l_fresh
  have b_l_fresh := F_l_fresh.binds (ps := ["_law_pool_here", "_law_used"]) fun _ _ _ _ _ _ us hl => match us, hl with | [_, _], _ => rfl
  have F_l_literal := fun_mk (st := s_l_literal) l_l_literal c_l_literal k_l_literal
  have b_l_literal := F_l_literal.binds (ps := ["_law_pool_here"]) fun _ _ _ _ _ _ us hl => match us, hl with | [_], _ => rfl
  have F_l_grown := fun_mk (st := s_l_grown) l_l_grown c_l_grown k_l_grown
  have b_l_grown := F_l_grown.binds (ps := ["_law_pool_here", "_law_names", "_law_depth"]) fun _ _ _ _ _ _ us hl => match us, hl with | [_, _, _], _ => rfl
  have F_l_kind := fun_mk (st := s_l_kind) l_l_kind c_l_kind k_l_kind
  have b_l_kind := F_l_kind.binds (ps := ["_law_pool_here"]) fun _ _ _ _ _ _ us hl => match us, hl with | [_], _ => rfl
  have F_l_plain_rows := fun_mk (st := s_l_plain_rows) l_l_plain_rows c_l_plain_rows k_l_plain_rows
  have b_l_plain_rows := F_l_plain_rows.binds (ps := ["_law_pool_here", "_law_names", "_law_x", "_law_y", "_law_own"]) fun _ _ _ _ _ _ us hl => match us, hl with | [_, _, _, _, _], _ => rfl
  have F_l_args_grown := fun_mk (st := s_l_args_grown) l_l_args_grown c_l_args_grown k_l_args_grown
  have b_l_args_grown := F_l_args_grown.binds (ps := ["_law_pool_here", "_law_names", "_law_forms"]) fun _ _ _ _ _ _ us hl => match us, hl with | [_, _, _], _ => rfl
  have F_l_call_rows := fun_mk (st := s_l_call_rows) l_l_call_rows c_l_call_rows k_l_call_rows
  have b_l_call_rows := F_l_call_rows.binds (ps := ["_law_pool_here", "_law_names", "_law_x", "_law_own", "_law_forms"]) fun _ _ _ _ _ _ us hl => match us, hl with | [_, _, _, _, _], _ => rfl
  have F_l_is_int := fun_mk (st := s_l_is_int) l_l_is_int c_l_is_int k_l_is_int
  have b_l_is_int := F_l_is_int.binds (ps := ["_law_thing"]) fun _ _ _ _ _ _ us hl => match us, hl with | [_], _ => rfl
  have F_l_same := fun_mk (st := s_l_same) l_l_same c_l_same k_l_same
  have b_l_same := F_l_same.binds (ps := ["_law_mine", "_law_due"]) fun _ _ _ _ _ _ us hl => match us, hl with | [_, _], _ => rfl
  have F_args_of := fun_mk (st := s_args_of) l_args_of c_args_of k_args_of
  have b_args_of := F_args_of.binds (ps := ["row"]) fun _ _ _ _ _ _ us hl => match us, hl with | [_], _ => rfl
  have F_row_exprs := fun_mk (st := s_row_exprs) l_row_exprs c_row_exprs k_row_exprs
  have b_row_exprs := F_row_exprs.binds (ps := ["row"]) fun _ _ _ _ _ _ us hl => match us, hl with | [_], _ => rfl
  have F_expr_names := fun_mk (st := s_expr_names) l_expr_names c_expr_names k_expr_names
  have b_expr_names := F_expr_names.binds (ps := ["expr"]) fun _ _ _ _ _ _ us hl => match us, hl with | [_], _ => rfl
  have F_names_read := fun_mk (st := s_names_read) l_names_read c_names_read k_names_read
  have b_names_read := F_names_read.binds (ps := ["row"]) fun _ _ _ _ _ _ us hl => match us, hl with | [_], _ => rfl
  have F_names_set := fun_mk (st := s_names_set) l_names_set c_names_set k_names_set
  have b_names_set := F_names_set.binds (ps := ["row"]) fun _ _ _ _ _ _ us hl => match us, hl with | [_], _ => rfl
  have F_names_lent := fun_mk (st := s_names_lent) l_names_lent c_names_lent k_names_lent
  have b_names_lent := F_names_lent.binds (ps := ["row"]) fun _ _ _ _ _ _ us hl => match us, hl with | [_], _ => rfl
  have F_law := fun_mk (st := s_law) l_law c_law k_law
  have b_law := F_law.binds (ps := ["_law_script"]) fun _ _ _ _ _ _ us hl => match us, hl with | [_], _ => rfl
  let T : Txt K mg := { f_l_pool := f_l_pool, d_l_pool := _, F_l_pool := F_l_pool, g_l_pool := PySem.W.mg_of X G a_l_pool, b_l_pool := b_l_pool, f_l_mixed := f_l_mixed, d_l_mixed := _, F_l_mixed := F_l_mixed, g_l_mixed := PySem.W.mg_of X G a_l_mixed, b_l_mixed := b_l_mixed, f_l_draw := f_l_draw, d_l_draw := _, F_l_draw := F_l_draw, g_l_draw := PySem.W.mg_of X G a_l_draw, b_l_draw := b_l_draw, f_l_word := f_l_word, d_l_word := _, F_l_word := F_l_word, g_l_word := PySem.W.mg_of X G a_l_word, b_l_word := b_l_word, f_l_kinds := f_l_kinds, d_l_kinds := _, F_l_kinds := F_l_kinds, g_l_kinds := PySem.W.mg_of X G a_l_kinds, b_l_kinds := b_l_kinds, f_l_fresh := f_l_fresh, d_l_fresh := _, F_l_fresh := F_l_fresh, g_l_fresh := PySem.W.mg_of X G a_l_fresh, b_l_fresh := b_l_fresh, f_l_literal := f_l_literal, d_l_literal := _, F_l_literal := F_l_literal, g_l_literal := PySem.W.mg_of X G a_l_literal, b_l_literal := b_l_literal, f_l_grown := f_l_grown, d_l_grown := _, F_l_grown := F_l_grown, g_l_grown := PySem.W.mg_of X G a_l_grown, b_l_grown := b_l_grown, f_l_kind := f_l_kind, d_l_kind := _, F_l_kind := F_l_kind, g_l_kind := PySem.W.mg_of X G a_l_kind, b_l_kind := b_l_kind, f_l_plain_rows := f_l_plain_rows, d_l_plain_rows := _, F_l_plain_rows := F_l_plain_rows, g_l_plain_rows := PySem.W.mg_of X G a_l_plain_rows, b_l_plain_rows := b_l_plain_rows, f_l_args_grown := f_l_args_grown, d_l_args_grown := _, F_l_args_grown := F_l_args_grown, g_l_args_grown := PySem.W.mg_of X G a_l_args_grown, b_l_args_grown := b_l_args_grown, f_l_call_rows := f_l_call_rows, d_l_call_rows := _, F_l_call_rows := F_l_call_rows, g_l_call_rows := PySem.W.mg_of X G a_l_call_rows, b_l_call_rows := b_l_call_rows, f_l_is_int := f_l_is_int, d_l_is_int := _, F_l_is_int := F_l_is_int, g_l_is_int := PySem.W.mg_of X G a_l_is_int, b_l_is_int := b_l_is_int, f_l_same := f_l_same, d_l_same := _, F_l_same := F_l_same, g_l_same := PySem.W.mg_of X G a_l_same, b_l_same := b_l_same, f_args_of := f_args_of, d_args_of := _, F_args_of := F_args_of, g_args_of := PySem.W.mg_of X G a_args_of, b_args_of := b_args_of, f_row_exprs := f_row_exprs, d_row_exprs := _, F_row_exprs := F_row_exprs, g_row_exprs := PySem.W.mg_of X G a_row_exprs, b_row_exprs := b_row_exprs, f_expr_names := f_expr_names, d_expr_names := _, F_expr_names := F_expr_names, g_expr_names := PySem.W.mg_of X G a_expr_names, b_expr_names := b_expr_names, f_names_read := f_names_read, d_names_read := _, F_names_read := F_names_read, g_names_read := PySem.W.mg_of X G a_names_read, b_names_read := b_names_read, f_names_set := f_names_set, d_names_set := _, F_names_set := F_names_set, g_names_set := PySem.W.mg_of X G a_names_set, b_names_set := b_names_set, f_names_lent := f_names_lent, d_names_lent := _, F_names_lent := F_names_lent, g_names_lent := PySem.W.mg_of X G a_names_lent, b_names_lent := b_names_lent, f_law := fa, d_law := _, F_law := F_law, g_law := PySem.W.mg_of X G a_law, b_law := b_law, b_range := PySem.W.mg_none_of X G z_range, b_len := PySem.W.mg_none_of X G z_len, b_tuple := PySem.W.mg_none_of X G z_tuple, b_list := PySem.W.mg_none_of X G z_list, b_int := PySem.W.mg_none_of X G z_int, b_str := PySem.W.mg_none_of X G z_str, b_isinstance := PySem.W.mg_none_of X G z_isinstance, b_bool := PySem.W.mg_none_of X G z_bool }
  exact ⟨T.d_law, fun s v => .of_eq rfl, cvT T, fun base _ _ => ok_law T⟩
theorem walk {l : PySem.W.OpenLaw} {q : Program} {loose : List Str} {XP : (Str → Option Value) → Heap → Prop} {YP : World → Heap → Prop} {d : DefRec} {K : Params → PySem.W.Frag} (hn : l.most = some 63) (hdf : d.params.defaults = [])
    (hY : ∀ (w : World) (h : Heap), YP w h → (K w.params).In h)
    (F : ∀ (w : World) (mg : Str → Option Value) (fa : Addr) (h : Heap), (K w.params).In h → h.Ns mainGlobals mg → mg d.name = some (.ref fa) →
      ∃ fd : FuncData, (∀ (s : Shared) (u : Value), BindsTo s fd ⟨[u], []⟩ [("_law_script", u)]) ∧ ∃ cv, ∀ base : Heap, (K w.params).In base → base.Ns mainGlobals mg → FnOk l.prog w (K w.params) mg base (L2.CX l.prog w) 16 fa fd ["_law_script"] (spM (K w.params) cv m_law)) :
    PySem.W.WalkO q loose XP YP l.row.toRowW d [] (fun f vs => PySem.call f vs) :=
  L2.walk_of (n := 63) (k := 16) (x := "_law_script") (CX := fun w => L2.CX l.prog w) (sp := fun w => spE (K w.params) m_law) hn (by decide) hdf ⟨rfl, by decide, by decide⟩ hY (fun w mg fa h a b c => by
    obtain ⟨fd, h1, cv, h2⟩ := F w mg fa h a b c
    exact ⟨fd, h1, fun base a b => spE_of (h2 base a b)⟩) (fun _ _ a ns hl _ hS => spE_law hS (law_mir ns hl)) fun _ _ _ _ _ z => cx_none z
end Q
open PySem PySem.W PyProof.Rows
set_option maxRecDepth 100000 in
set_option maxHeartbeats 0 in
theorem PySem.Challenge.cw_quickways_k04_names_of_rows_holds : PySem.Challenge.rw_quickways_k04_names_of_rows.Holds := by
  w_on; o_law; k_head; (case hw => w_witness2)
  k_fill
  refine Q.walk (l := PySem.Challenge.rw_quickways_k04_names_of_rows) rfl rfl (fun w h Y => PySem.W.kIn_of Y) ?F
  case F =>
    intro w mg fa h KX G hmg
    refine' Q.all_mk KX G hmg ?a_l_pool ?l_l_pool ?c_l_pool ?k_l_pool ?a_l_mixed ?l_l_mixed ?c_l_mixed ?k_l_mixed ?a_l_draw ?l_l_draw ?c_l_draw ?k_l_draw ?a_l_word ?l_l_word ?c_l_word ?k_l_word ?a_l_kinds ?l_l_kinds ?c_l_kinds ?k_l_kinds ?a_l_fresh ?l_l_fresh ?c_l_fresh ?k_l_fresh ?a_l_literal ?l_l_literal ?c_l_literal ?k_l_literal ?a_l_grown ?l_l_grown ?c_l_grown ?k_l_grown ?a_l_kind ?l_l_kind ?c_l_kind ?k_l_kind ?a_l_plain_rows ?l_l_plain_rows ?c_l_plain_rows ?k_l_plain_rows ?a_l_args_grown ?l_l_args_grown ?c_l_args_grown ?k_l_args_grown ?a_l_call_rows ?l_l_call_rows ?c_l_call_rows ?k_l_call_rows ?a_l_is_int ?l_l_is_int ?c_l_is_int ?k_l_is_int ?a_l_same ?l_l_same ?c_l_same ?k_l_same ?a_args_of ?l_args_of ?c_args_of ?k_args_of ?a_row_exprs ?l_row_exprs ?c_row_exprs ?k_row_exprs ?a_expr_names ?l_expr_names ?c_expr_names ?k_expr_names ?a_names_read ?l_names_read ?c_names_read ?k_names_read ?a_names_set ?l_names_set ?c_names_set ?k_names_set ?a_names_lent ?l_names_lent ?c_names_lent ?k_names_lent ?a_law ?l_law ?c_law ?k_law ?z_range ?z_len ?z_tuple ?z_list ?z_int ?z_str ?z_isinstance ?z_bool
    (case a_l_pool => k_is)
    (case l_l_pool => k_is)
    (case c_l_pool => k_is)
    (case k_l_pool => k_is)
    (case a_l_mixed => k_is)
    (case l_l_mixed => k_is)
    (case c_l_mixed => k_is)
    (case k_l_mixed => k_is)
    (case a_l_draw => k_is)
    (case l_l_draw => k_is)
    (case c_l_draw => k_is)
    (case k_l_draw => k_is)
    (case a_l_word => k_is)
    (case l_l_word => k_is)
    (case c_l_word => k_is)
    (case k_l_word => k_is)
    (case a_l_kinds => k_is)
    (case l_l_kinds => k_is)
    (case c_l_kinds => k_is)
    (case k_l_kinds => k_is)
    (case a_l_fresh => k_is)
    (case l_l_fresh => k_is)
    (case c_l_fresh => k_is)
    (case k_l_fresh => k_is)
    (case a_l_literal => k_is)
    (case l_l_literal => k_is)
    (case c_l_literal => k_is)
    (case k_l_literal => k_is)
    (case a_l_grown => k_is)
    (case l_l_grown => k_is)
    (case c_l_grown => k_is)
    (case k_l_grown => k_is)
    (case a_l_kind => k_is)
    (case l_l_kind => k_is)
    (case c_l_kind => k_is)
    (case k_l_kind => k_is)
    (case a_l_plain_rows => k_is)
    (case l_l_plain_rows => k_is)
    (case c_l_plain_rows => k_is)
    (case k_l_plain_rows => k_is)
    (case a_l_args_grown => k_is)
    (case l_l_args_grown => k_is)
    (case c_l_args_grown => k_is)
    (case k_l_args_grown => k_is)
    (case a_l_call_rows => k_is)
    (case l_l_call_rows => k_is)
    (case c_l_call_rows => k_is)
    (case k_l_call_rows => k_is)
    (case a_l_is_int => k_is)
    (case l_l_is_int => k_is)
    (case c_l_is_int => k_is)
    (case k_l_is_int => k_is)
    (case a_l_same => k_is)
    (case l_l_same => k_is)
    (case c_l_same => k_is)
    (case k_l_same => k_is)
    (case a_args_of => k_is)
    (case l_args_of => k_is)
    (case c_args_of => k_is)
    (case k_args_of => k_is)
    (case a_row_exprs => k_is)
    (case l_row_exprs => k_is)
    (case c_row_exprs => k_is)
    (case k_row_exprs => k_is)
    (case a_expr_names => k_is)
    (case l_expr_names => k_is)
    (case c_expr_names => k_is)
    (case k_expr_names => k_is)
    (case a_names_read => k_is)
    (case l_names_read => k_is)
    (case c_names_read => k_is)
    (case k_names_read => k_is)
    (case a_names_set => k_is)
    (case l_names_set => k_is)
    (case c_names_set => k_is)
    (case k_names_set => k_is)
    (case a_names_lent => k_is)
    (case l_names_lent => k_is)
    (case c_names_lent => k_is)
    (case k_names_lent => k_is)
    (case a_law => k_is)
    (case l_law => k_is)
    (case c_law => k_is)
    (case k_law => k_is)
    (case z_range => k_is)
    (case z_len => k_is)
    (case z_tuple => k_is)
    (case z_list => k_is)
    (case z_int => k_is)
    (case z_str => k_is)
    (case z_isinstance => k_is)
    (case z_bool => k_is)
#print axioms PySem.Challenge.cw_quickways_k04_names_of_rows_holds
