import PyProof.Rows.All
import Wide.All
import OpenK.AllK
import Wide.FinOn
import HandS.Base
import HandS.Call
import HandS.List
import HandS.Comp
import HandS.Ends
import HandS.Dict
import HandS.Iter
import HandS.Text
import HandS.Words
import HandS.WordsList
import HandS.WordsDict
import HandS.IsInst
import HandS.TupAny
import HandS.Conv
import HandS.RevRange
import HandS.TryOnly
import HandS.Exc
import HandS.ExcOwn
import HandS.WordsExc
import HandS.TupLen
import HandS.ExcInit
import HandS.ExcField
import HandS.ExcIs
import KE.KExcSuper
import HandS.ExcCtx
import HandS.HotCalls
import HandS.ExcInitHot
import KE.KExcIs
import HandS.More
import HandS.FStr
import HandS.CallSlots
import HandS.Defaults
import KE.SortData
import HandS.SortInts
import HandS.GenList
import HandS.GenYield
import HandS.New0
import KE.RegKSuper
import KE.RegKIsAll
import PySem.Challenge.RW_quickways_k24_picks_of_both_ways
set_option Elab.async false
set_option linter.all false
set_option maxRecDepth 100000
set_option maxHeartbeats 4000000
namespace PySem
open Sem (wp)
open PySem.AutoSeq1 in
theorem q_extend_tuple (l : Addr) (items : Array Value) (n : Nat) (b : Addr) (items2 : Array Value) (n2 : Nat) (dd : Option Addr) (sl : Array (Option Value)) (hs0 : ¬(!items.isEmpty && Builtin.List.listTooLong (items.size + items2.size)) = true) (hs1 : items.size ≤ sizeLine) (hs2 : items.size + items2.size ≤ sizeLine + 1) :
    Meets (Builtin.«list.extend» ⟨[.ref l, .ref b], []⟩) (fun _ R s => s.heap.get? l = some { cls := .type "list", dict := none, data := .seq items n, slots := #[] } ∧ s.heap.get? b = some { cls := .type "tuple", dict := dd, data := .seq items2 n2, slots := sl } ∧ R (.ok (.ret Value.none)) { s with heap := s.heap.update l (Obj.mapSeq fun x => x ++ items2), toks := s.toks }) :=
  .of_wp fun prog w A R s h => by
    obtain ⟨hp, g, d, tk, os⟩ := s; obtain ⟨hl, hb, h⟩ := h; have f1 := idx_int; have f2 := sub_tuple_tuple; have f3 := sub_list_list; have f4 := sub_tuple_list; have f5 := sub_list_tuple;
    have hz' : (items ++ items2).size ≤ sizeLine + 1 := by rw [Array.size_append]; exact hs2
    wp_walk using (wpAny_updateSeq hl rfl (hz := hs1) (_hz' := hz')), wpAny_loadPart' hl, wpAny_loadPart' hb; exact ⟨_, rfl, h⟩
end PySem
namespace Q
open PySem L2

/-! ### operators by what stands there -/
section
variable {X : Cx}
def rAddD (K : PySem.W.Frag) : R2 := fun x y H Q => match x, y with
  | .int i, .int j => Q (.int (i + j)) H
  | .str a, .str b => a.length + b.length ≤ sizeLine ∧ Q (.str (a ++ b)) H
  | .ref a, .ref b => rCat (.ref a) (.ref b) H Q ∨ rCatA K (.ref a) (.ref b) H Q
  | _, _ => False
theorem op_addD : OpR X (binaryOp .Add) (rAddD X.K) := by
  intro pins s σ H x y v u Q I rx ry h
  match x, y, h with
  | .int i, .int j, h => exact op_add pins s σ H _ _ v u Q I rx ry ⟨i, j, rfl, rfl, h⟩
  | .str a, .str b, h => exact op_add_str pins s σ H _ _ v u Q I rx ry ⟨a, b, rfl, rfl, h.1, h.2⟩
  | .ref a, .ref b, h =>
    rcases h with h | h
    · exact op_cat pins s σ H _ _ v u Q I rx ry h
    · exact op_catA pins s σ H _ _ v u Q I rx ry h
def rMulD : R2 := fun x y H Q => match x, y with
  | .int i, .int j => CMul i j ∧ Q (.int (i * j)) H
  | .ref a, .int j => rRep (.ref a) (.int j) H Q
  | _, _ => False
theorem op_mulD : OpR X (binaryOp .Mult) rMulD := by
  intro pins s σ H x y v u Q I rx ry h
  match x, y, h with
  | .int i, .int j, h => exact op_mul pins s σ H _ _ v u Q I rx ry ⟨i, j, rfl, rfl, h.1, h.2⟩
  | .ref a, .int j, h => exact op_rep pins s σ H _ _ v u Q I rx ry h
def rEqX (K : PySem.W.Frag) : R2 := fun x y H Q => rEq x y H Q ∨ rEqD K x y H Q
theorem op_eqX (hu : X.A.units + 64 < cLine) : OpR X (compareOp .Eq) (rEqX X.K) := by
  intro pins s σ H x y v u Q I rx ry h
  rcases h with h | h
  · exact op_eq pins s σ H _ _ v u Q I rx ry h
  · exact op_eqD hu pins s σ H _ _ v u Q I rx ry h
def rNeX (K : PySem.W.Frag) : R2 := fun x y H Q => rNe x y H Q ∨ rNeD K x y H Q
theorem op_neX (hu : X.A.units + 64 < cLine) : OpR X (compareOp .NotEq) (rNeX X.K) := by
  intro pins s σ H x y v u Q I rx ry h
  rcases h with h | h
  · exact op_ne pins s σ H _ _ v u Q I rx ry h
  · exact op_neD hu pins s σ H _ _ v u Q I rx ry h
def rSlX (K : PySem.W.Frag) : V → Option Int → Option Int → Hp → VK → Prop := fun x lo hi H Q => rSlL K x lo hi H Q ∨ rSlA K x lo hi H Q ∨ rSlS x lo hi H Q
theorem sl_X : SlR X (rSlX X.K) := by
  intro pins s σ H x v vl vu lo hi sl Q I rx hs pl pu h
  rcases h with h | h | h
  · exact sl_list pins s σ H x v vl vu lo hi sl Q I rx hs pl pu h
  · exact sl_tupA pins s σ H x v vl vu lo hi sl Q I rx hs pl pu h
  · exact sl_str pins s σ H x v vl vu lo hi sl Q I rx hs pl pu h

def rSubD : R2 := fun x y H Q => match x, y with
  | .int i, .int j => Q (.int (i - j)) H
  | _, _ => False
theorem op_subD : OpR X (binaryOp .Sub) rSubD := by
  intro pins s σ H x y v u Q I rx ry h
  match x, y, h with
  | .int i, .int j, h => exact op_sub pins s σ H _ _ v u Q I rx ry ⟨i, j, rfl, rfl, h⟩
def rFdivD : R2 := fun x y H Q => match x, y with
  | .int i, .int j => CDiv i j ∧ Q (.int (i / j)) H
  | _, _ => False
theorem op_fdivD : OpR X (binaryOp .FloorDiv) rFdivD := by
  intro pins s σ H x y v u Q I rx ry h
  match x, y, h with
  | .int i, .int j, h => exact op_fdiv pins s σ H _ _ v u Q I rx ry ⟨i, j, rfl, rfl, h.1, h.2⟩
def rModD : R2 := fun x y H Q => match x, y with
  | .int i, .int j => 0 < j ∧ Q (.int (i % j)) H
  | _, _ => False
theorem op_modD : OpR X (binaryOp .Mod) rModD := by
  intro pins s σ H x y v u Q I rx ry h
  match x, y, h with
  | .int i, .int j, h => exact op_mod pins s σ H _ _ v u Q I rx ry ⟨i, j, rfl, rfl, h.1, h.2⟩
def rPowD : R2 := fun x y H Q => match x, y with
  | .int i, .int j => CPow i j ∧ Q (.int (i ^ j.toNat)) H
  | _, _ => False
theorem op_powD : OpR X (binaryOp .Pow) rPowD := by
  intro pins s σ H x y v u Q I rx ry h
  match x, y, h with
  | .int i, .int j, h => exact op_pow pins s σ H _ _ v u Q I rx ry ⟨i, j, rfl, rfl, h.1, h.2⟩
def rLtD : R2 := fun x y H Q => match x, y with
  | .int i, .int j => Q (.bl (decide (i < j))) H
  | .str i, .str j => Q (.bl (decide (i.cps.toList < j.cps.toList))) H
  | _, _ => False
theorem op_ltD : OpR X (compareOp .Lt) rLtD := by
  intro pins s σ H x y v u Q I rx ry h
  match x, y, h with
  | .int i, .int j, h => exact op_lt pins s σ H _ _ v u Q I rx ry ⟨i, j, rfl, rfl, h⟩
  | .str i, .str j, h => exact op_lt_str pins s σ H _ _ v u Q I rx ry ⟨i, j, rfl, rfl, h⟩
def rLeD : R2 := fun x y H Q => match x, y with
  | .int i, .int j => Q (.bl (decide (i ≤ j))) H
  | .str i, .str j => Q (.bl (!decide (j.cps.toList < i.cps.toList))) H
  | _, _ => False
theorem op_leD : OpR X (compareOp .LtE) rLeD := by
  intro pins s σ H x y v u Q I rx ry h
  match x, y, h with
  | .int i, .int j, h => exact op_le pins s σ H _ _ v u Q I rx ry ⟨i, j, rfl, rfl, h⟩
  | .str i, .str j, h => exact op_le_str pins s σ H _ _ v u Q I rx ry ⟨i, j, rfl, rfl, h⟩
def rGtD : R2 := fun x y H Q => match x, y with
  | .int i, .int j => Q (.bl (decide (j < i))) H
  | .str i, .str j => Q (.bl (decide (j.cps.toList < i.cps.toList))) H
  | _, _ => False
theorem op_gtD : OpR X (compareOp .Gt) rGtD := by
  intro pins s σ H x y v u Q I rx ry h
  match x, y, h with
  | .int i, .int j, h => exact op_gt pins s σ H _ _ v u Q I rx ry ⟨i, j, rfl, rfl, h⟩
  | .str i, .str j, h => exact op_gt_str pins s σ H _ _ v u Q I rx ry ⟨i, j, rfl, rfl, h⟩
def rGeD : R2 := fun x y H Q => match x, y with
  | .int i, .int j => Q (.bl (decide (j ≤ i))) H
  | .str i, .str j => Q (.bl (!decide (i.cps.toList < j.cps.toList))) H
  | _, _ => False
theorem op_geD : OpR X (compareOp .GtE) rGeD := by
  intro pins s σ H x y v u Q I rx ry h
  match x, y, h with
  | .int i, .int j, h => exact op_ge pins s σ H _ _ v u Q I rx ry ⟨i, j, rfl, rfl, h⟩
  | .str i, .str j, h => exact op_ge_str pins s σ H _ _ v u Q I rx ry ⟨i, j, rfl, rfl, h⟩
def rNeg : V → Hp → VK → Prop := rU fun i => .int (-i)
/-- is None, is not None -/
def rIsD : R2 := fun x y H Q => y = .non ∧ Q (.bl (decide (x = .non))) H
theorem op_isD : OpR X (compareOp .Is) rIsD := op_isN
def rIsnotD : R2 := fun x y H Q => y = .non ∧ Q (.bl (!decide (x = .non))) H
theorem op_isnotD : OpR X (compareOp .IsNot) rIsnotD := op_notN
/-- what the dict at a holds at the key y, which may be a written tuple -/
def DGetS (K : PySem.W.Frag) (H : Hp) (a : Addr) (y : V) (r : Option V) : Prop :=
  DGet H a y r ∨ ∃ kvs k b, Rd H a (.dT kvs) ∧ y = .ref b ∧ SqT K H b (k.map kV) ∧ r = valV kvs k
theorem key_ofS {X : Cx} {pins : List (Addr × Obj)} {σ : St} {H : Hp} {s : Shared} {a : Addr} {ks : List Key} (I : Inv X pins σ H s) (e : SqT X.K H a (ks.map kV)) : (tupleKind (mixKind X.prog X.w)).is s.heap ks a := by
  obtain ⟨its, r, ⟨o, h1, h2, n, h3⟩, _⟩ := I.tuple e
  exact ⟨o, its.toArray, n, h1, h2, h3, by simpa using items_are r⟩
section
variable {X : Cx} {pins : List (Addr × Obj)} {σ : St} {H : Hp} {s : Shared} {a : Addr} {y v : V} {u r : Value} {o : Option V} {A : Around} {E : Value → Shared → Prop}
theorem d_getItemS {Q : Value → Shared → Prop} (hu : A.units + 1 < cLine) (I : Inv X pins σ H s) (g : DGetS X.K H a y (some v)) (ry : RelV y u) (h : ∀ w' s', Inv X pins σ H s' → RelV v w' → Q w' s') :
    wpAny (model X.prog X.w) A (getItem (.ref a) u) Q E s := by
  rcases g with g | ⟨kvs, k, b, e, ey, eb, l⟩
  · exact d_getItem hu I g ry h
  · subst ey
    cases (show u = Value.ref b from ry)
    obtain ⟨z, hd, xs, rel, dd⟩ := dt_rd I.hok e
    obtain ⟨w', hw, rw'⟩ := RelO.some_of (v := v) (o := (atKey xs k).map (·.2)) (by rw [l]; exact rel.val k)
    obtain ⟨p, hp, hp2⟩ := Option.map_eq_some_iff.mp hw
    refine wpAny_getItem_heap (tupleKind_room_in1 hu) (key_ofS I eb) dd hp ?_
    rw [hp2]
    exact h w' _ (I.tok _) rw'
theorem d_inS {Q : Value → Shared → Prop} (hu : A.units + 1 < cLine) (I : Inv X pins σ H s) (g : DGetS X.K H a y o) (ry : RelV y u) (h : ∀ s', Inv X pins σ H s' → Q (.bool o.isSome) s') :
    wpAny (model X.prog X.w) A (compareOp .In u (.ref a)) Q E s := by
  rcases g with g | ⟨kvs, k, b, e, ey, eb, l⟩
  · exact d_in hu I g ry h
  · subst ey
    cases (show u = Value.ref b from ry)
    obtain ⟨z, hd, xs, rel, dd⟩ := dt_rd I.hok e
    refine wpAny_in_heap (tupleKind_room_in1 hu) (key_ofS I eb) hd dd ?_
    have q := (rel.val k).isSome_eq
    rw [Option.isSome_map] at q
    rw [← q, ← l]
    exact h _ (I.tok _)
theorem d_notInS {Q : Value → Shared → Prop} (hu : A.units + 1 < cLine) (I : Inv X pins σ H s) (g : DGetS X.K H a y o) (ry : RelV y u) (h : ∀ s', Inv X pins σ H s' → Q (.bool (!o.isSome)) s') :
    wpAny (model X.prog X.w) A (compareOp .NotIn u (.ref a)) Q E s := by
  rcases g with g | ⟨kvs, k, b, e, ey, eb, l⟩
  · exact d_notIn hu I g ry h
  · subst ey
    cases (show u = Value.ref b from ry)
    obtain ⟨z, hd, xs, rel, dd⟩ := dt_rd I.hok e
    refine PyProof.Rows.wpAny_notIn_heap (tupleKind_room_in1 hu) (key_ofS I eb) hd dd ?_
    have q := (rel.val k).isSome_eq
    rw [Option.isSome_map] at q
    rw [← q, ← l]
    exact h _ (I.tok _)
theorem d_get1S {Q : Value → Shared → Prop} (hu : A.units + 1 < cLine) (I : Inv X pins σ H s) (g : DGetS X.K H a y o) (ry : RelV y u) (h : ∀ w' s', Inv X pins σ H s' → RelV (o.getD .non) w' → Q w' s') :
    wpAny (model X.prog X.w) A (call (.builtin "dict.get") [.ref a, u]) Q E s := by
  rcases g with g | ⟨kvs, k, b, e, ey, eb, l⟩
  · exact d_get1 hu I g ry h
  · subst ey
    cases (show u = Value.ref b from ry)
    obtain ⟨z, hd, xs, rel, dd⟩ := dt_rd I.hok e
    refine call_meetsIn PySem.F.slot_dict_get dd.typeIs PySem.F.entry_dict_get (PySem.F.args_dict_get_2 _ _) (meetsH_dict_get (tupleKind (mixKind X.prog X.w)) a b hd) ⟨tupleKind_room_in1 hu, k, xs, key_ofS I eb, dd, h _ _ (I.tok _) ?_⟩
    rw [l]
    exact (rel.val k).getD rfl
theorem dict_typeIsS (I : Inv X pins σ H s) (g : DGetS X.K H a y o) : s.TypeIs (.ref a) "dict" := by
  rcases g with g | ⟨kvs, k, b, e, ey, eb, l⟩
  · exact dict_typeIs I g
  · obtain ⟨z, hd, xs, rel, dd⟩ := dt_rd I.hok e
    exact dd.typeIs
end
/-- in: a flat sequence, a dict, a text, a list of data -/
def rInD (K : PySem.W.Frag) : R2 := fun x y H Q => rIn K false x y H Q ∨ (∃ a o, y = .ref a ∧ DGetS K H a x o ∧ Q (.bl o.isSome) H) ∨
  (∃ (c : Nat) (z : Str), x = .str ⟨#[c]⟩ ∧ y = .str z ∧ Q (.bl (decide (c ∈ z.cps.toList))) H) ∨
  ∃ d ds, Dp K H x d ∧ Dp K H y (.list ds) ∧ SeqAt.shaped d = true ∧ SeqAt.shaped (.list ds) = true ∧ d.depth ≤ 16 ∧ Q (.bl (ds.any fun z => PyData.eqv z d)) H
theorem op_inD (hu : X.A.units + 64 < cLine) : OpR X (compareOp .In) (rInD X.K) := by
  intro pins s σ H x y v u Q I rx ry h
  rcases h with h | h | h | h
  · exact op_in_seq pins s σ H _ _ v u Q I rx ry h
  · obtain ⟨a, o, rfl, g, q⟩ := h
    obtain rfl : u = Value.ref a := ry
    exact d_inS (Nat.lt_of_le_of_lt (by omega) hu) I g rx fun s3 I3 => ⟨.bl o.isSome, H, I3, rfl, q⟩
  · exact op_in_sign pins s σ H _ _ v u Q I rx ry h
  · obtain ⟨d, ds, hd, he, sd, se, dp, q⟩ := h
    obtain ⟨as, r1⟩ := Dp.reads I d x v hd rx
    obtain ⟨bs, r2⟩ := Dp.reads I (.list ds) y u he ry
    exact SeqAt.in_list_reads r2 r1 (SeqAt.canLay_of_shaped se) (SeqAt.canLay_of_shaped sd) (by have := Nat.min_le_right (PyData.depthAll ds) d.depth; omega) ⟨.bl _, H, I, rfl, q⟩
def rNotInD (K : PySem.W.Frag) : R2 := fun x y H Q => rIn K true x y H Q ∨ (∃ a o, y = .ref a ∧ DGetS K H a x o ∧ Q (.bl (!o.isSome)) H) ∨
  (∃ (c : Nat) (z : Str), x = .str ⟨#[c]⟩ ∧ y = .str z ∧ Q (.bl (!decide (c ∈ z.cps.toList))) H) ∨
  ∃ d ds, Dp K H x d ∧ Dp K H y (.list ds) ∧ SeqAt.shaped d = true ∧ SeqAt.shaped (.list ds) = true ∧ d.depth ≤ 16 ∧ Q (.bl (!ds.any fun z => PyData.eqv z d)) H
theorem op_notInD (hu : X.A.units + 64 < cLine) : OpR X (compareOp .NotIn) (rNotInD X.K) := by
  intro pins s σ H x y v u Q I rx ry h
  rcases h with h | h | h | h
  · exact op_notIn_seq pins s σ H _ _ v u Q I rx ry h
  · obtain ⟨a, o, rfl, g, q⟩ := h
    obtain rfl : u = Value.ref a := ry
    exact d_notInS (Nat.lt_of_le_of_lt (by omega) hu) I g rx fun s3 I3 => ⟨.bl (!o.isSome), H, I3, rfl, q⟩
  · exact op_notIn_sign pins s σ H _ _ v u Q I rx ry h
  · obtain ⟨d, ds, hd, he, sd, se, dp, q⟩ := h
    obtain ⟨as, r1⟩ := Dp.reads I d x v hd rx
    obtain ⟨bs, r2⟩ := Dp.reads I (.list ds) y u he ry
    exact SeqAt.notIn_list_reads r2 r1 (SeqAt.canLay_of_shaped se) (SeqAt.canLay_of_shaped sd) (by have := Nat.min_le_right (PyData.depthAll ds) d.depth; omega) ⟨.bl _, H, I, rfl, q⟩
/-- o[i] -/
def rIxD (K : PySem.W.Frag) : R2 := fun x y H Q => rIx K x y H Q ∨ ∃ a v, x = .ref a ∧ DGetS K H a y (some v) ∧ Q v H
theorem ix_D (hu : X.A.units + 64 < cLine) : IxR X (rIxD X.K) := by
  intro value slice pins s σ H x y v u Q I rx ry h hs
  rcases h with h | ⟨a, z, rfl, g, q⟩
  · exact ix_seq value slice pins s σ H x y v u Q I rx ry h hs
  · obtain rfl : v = Value.ref a := rx
    exact PyProof.Rows.tail_any (dict_typeIsS I g) PySem.F.slot_dict_getitem.lookup (d_getItemS (Nat.lt_of_le_of_lt (by omega) hu) I g ry fun w' s3 I3 rw' => ⟨z, H, I3, rw', q⟩) hs
/-- o[i] = v -/
def rSetD : V → V → V → Hp → (Hp → Prop) → Prop := fun o i v H Q => rSetL o i v H Q ∨ ∃ a H', o = .ref a ∧ DPut H a i v H' ∧ Q H'
theorem set_D (hu : X.A.units + 64 < cLine) : PSet X rSetD := by
  intro pins s σ H o i v ov iv u Q I ro ri rv h
  rcases h with h | ⟨a, H', rfl, g, q⟩
  · exact set_list pins s σ H o i v ov iv u Q I ro ri rv h
  · obtain rfl : ov = Value.ref a := ro
    exact d_setItem (Nat.lt_of_le_of_lt (by omega) hu) I g ri rv fun s4 I4 => ⟨H', I4, q⟩
/-! ### built-ins -/
def rLenD (K : PySem.W.Frag) : List V → Hp → VK → Prop := fun xs H Q => (∃ x n, xs = [x] ∧ LenV K x H n ∧ (n ≤ 16777216 → Q (.int n) H)) ∨ (∃ a kvs, xs = [.ref a] ∧ H a = some (.dK kvs) ∧ Q (.int kvs.length) H) ∨ ∃ a kvs, xs = [.ref a] ∧ H a = some (.dT kvs) ∧ Q (.int kvs.length) H
theorem call_lenX : CallR X (.builtin "len") (rLenD X.K) := by
  intro pins s σ H xs us Q I r h
  rcases h with ⟨x, n, rfl, e, q⟩ | h
  · refine call_len pins s σ H _ us Q I r ⟨x, n, rfl, e, q ?_⟩
    have hs : sizeLine = 16777216 := sizeLine_eq
    cases x with
    | str y => obtain ⟨h1, h2⟩ : y.length ≤ sizeLine ∧ n = y.length := e; omega
    | byt y => obtain ⟨h1, h2⟩ : y.size ≤ sizeLine ∧ n = y.size := e; omega
    | ref p =>
      rcases e with ⟨xs, hS, rfl⟩ | ⟨xs, hS, rfl⟩
      · obtain ⟨_, _, _, hz⟩ := I.list hS; omega
      · obtain ⟨_, _, _, hz⟩ := I.tuple hS; omega
    | _ => exact e.elim
  · rcases h with h | h
    · exact call_lenD pins s σ H _ us Q I r h
    · exact call_len_dT pins s σ H _ us Q I r h
def rIntD : List V → Hp → VK → Prop := fun xs H Q => match xs with
  | [.int i] => Q (.int i) H
  | [.bl b] => Q (.int (if b then 1 else 0)) H
  | [.str a] => ∃ n, PySem.intText? a = some n ∧ a.length ≤ 640 ∧ Q (.int n) H
  | _ => False
theorem call_intD : CallR X (.type "int") rIntD := by
  intro pins s σ H xs us Q I r h
  match xs, h with
  | [.int i], h => exact call_int1 pins s σ H _ us Q I r (.inl ⟨i, rfl, h⟩)
  | [.bl b], h => exact call_int1 pins s σ H _ us Q I r (.inr ⟨b, rfl, h⟩)
  | [.str a], h =>
    obtain ⟨n, h1, h2, h3⟩ := h
    exact call_int_str pins s σ H _ us Q I r ⟨a, n, rfl, h1, h2, h3⟩
def rListD (K : PySem.W.Frag) : List V → Hp → VK → Prop := fun xs H Q => ∃ p ys, xs = [.ref p] ∧ (SqL K H p ys ∨ SqT K H p ys) ∧ ∀ l, H l = none → Q (.ref l) (upd H l (.lst ys))
theorem call_listD : CallR X (.type "list") (rListD X.K) := call_list_of
def rTupleD (K : PySem.W.Frag) : List V → Hp → VK → Prop := fun xs H Q => ∃ p ys, xs = [.ref p] ∧ ((SqL K H p ys ∧ ∀ l, H l = none → Q (.ref l) (upd H l (.tup ys))) ∨ (SqT K H p ys ∧ Q (.ref p) H))
theorem call_tupleD : CallR X (.type "tuple") (rTupleD X.K) := call_tuple_of
def rStrD : List V → Hp → VK → Prop := fun xs H Q => match xs with
  | [.int i] => i.natAbs.log2 < 1920 ∧ Q (.str (toString i)) H
  | _ => False
theorem call_strD : CallR X (.type "str") rStrD := by
  intro pins s σ H xs us Q I r h
  match xs, h with
  | [.int i], h => exact call_str_int pins s σ H _ us Q I r ⟨i, rfl, h.1, h.2⟩
def rMinD (K : PySem.W.Frag) : List V → Hp → VK → Prop := fun xs H Q => match xs with
  | [.int i, .int j] => Q (.int (if j < i then j else i)) H
  | xs => rMin K xs H Q
theorem call_minD (hc : X.calm = true) : CallR X (.builtin "min") (rMinD X.K) := by
  intro pins s σ H xs us Q I r h
  unfold rMinD at h
  split at h
  · exact call_min2 hc pins s σ H _ us Q I r ⟨_, _, rfl, h⟩
  · exact cr_min hc pins s σ H _ us Q I r h
def rMaxD (K : PySem.W.Frag) : List V → Hp → VK → Prop := fun xs H Q => match xs with
  | [.int i, .int j] => Q (.int (if j > i then j else i)) H
  | xs => rMax K xs H Q
theorem call_maxD (hc : X.calm = true) : CallR X (.builtin "max") (rMaxD X.K) := by
  intro pins s σ H xs us Q I r h
  unfold rMaxD at h
  split at h
  · exact call_max2 hc pins s σ H _ us Q I r ⟨_, _, rfl, h⟩
  · exact cr_max hc pins s σ H _ us Q I r h
theorem call_isiD : CallR X (.builtin "isinstance") (rIsi X.K) := call_isi
def rExtendD (K : PySem.W.Frag) : V → List V → Hp → VK → Prop := fun x vs H Q => rExtend x vs H Q ∨
  ∃ l b xs zs, x = .ref l ∧ vs = [.ref b] ∧ H l = some (.lst xs) ∧ SqT K H b zs ∧ xs.length + zs.length ≤ sizeLine ∧ Q .non (upd H l (.lst (xs ++ zs)))
theorem mt_extendM : MtM X "list.extend" (rExtendD X.K) := by
  intro pins s σ H x vs v us Q I rx rv h
  rcases h with h | h
  · exact mt_extend pins s σ H x vs v us Q I rx rv h
  obtain ⟨l, b, xs, zs, rfl, rfl, hH, hB, hz, q⟩ := h
  cases rx
  obtain ⟨u, rfl, ru⟩ := rv.one
  cases ru
  obtain ⟨z, its, n, r, hl, e⟩ := I.lstM hH
  obtain ⟨its2, r2, ⟨⟨cls, dd, data, sl⟩, e2, hc, n2, hd⟩, hz2⟩ := I.tuple hB
  simp only at hc hd
  subst hc hd
  have hl2 := r2.length
  have hsz : its.toArray.size + its2.toArray.size ≤ sizeLine := by rw [List.size_toArray, List.size_toArray]; omega
  have hlong : ¬ (!its.toArray.isEmpty && Builtin.List.listTooLong (its.toArray.size + its2.toArray.size)) = true := by
    rw [notLongL hsz, Bool.and_false]
    exact Bool.false_ne_true
  refine call_meets F.slot_list_extend ⟨_, e, rfl⟩ F.entry_list_extend (F.args_list_extend_2 _ _)
    (q_extend_tuple l its.toArray n b its2.toArray n2 dd sl hlong (by rw [List.size_toArray]; omega) (by omega)) ⟨e, e2, ?_⟩
  refine ⟨.non, _, I.lset (its' := its ++ its2) hH e (by simp) (r.append r2) ?_, rfl, q⟩
  rw [List.length_append]
  omega
/-! ### tests, loops, targets -/
def tTru (K : PySem.W.Frag) (ta : TE) : TT := fun σ H Q => ta σ H fun x H' => ∃ k, TruV K x H' k ∧ Q k H'
theorem pt_truthD {a : Expr} {ta : TE} (ha : PE X a ta) (he : ∀ whole, isTrue a X.env whole = (do let v ← whole; standAt a.pos; holding [v] (truthy v))) : PT X a (tTru X.K ta) := pt_truth ha he
def iSeq (K : PySem.W.Frag) (tl : TE) : TI := fun σ H R => tl σ H fun x H1 => ∃ a, x = .ref a ∧ (((∃ xs, SqL K H1 a xs) ∧ R (Itl K a) H1) ∨ ((∃ xs, SqT K H1 a xs) ∧ R (Itt K a) H1))
theorem pe_only {e : Expr} {te : TE} (h : PE X e te) (k : V → Hp → VK → Prop) : True := trivial
theorem pi_seq {tg l : Expr} {tl : TE} (hl : PE X l tl) : PI X tg l (iSeq X.K tl) := by
  refine ⟨fun pins s σ H R I h => ?_⟩
  refine thn (hl.run pins s σ H _ I h) fun v s1 ⟨x, H1, I1, r1, q1⟩ => ?_
  obtain ⟨a, e, q⟩ := q1
  subst e
  rcases q with ⟨hq, q⟩ | ⟨hq, q⟩
  · cases r1
    obtain ⟨xs, hq⟩ := hq
    obtain ⟨its, rv, p, hz⟩ := I1.list hq
    refine wpAny_pyIter_list p.isList ?_
    refine ⟨s1.heap.objs.size, [s1.heap.objs.size], _, _, H1, rfl, I1.kept (t' := s1.toks) fun b o e => Heap.get?_push_of_some _ e, turn_list a _, ⟨_, Heap.get?_push_size _ rfl, rfl, rfl⟩, fun b hb => ?_, q⟩
    have e : b = s1.heap.objs.size := by simpa using hb
    subst e
    exact I1.fpOk (Nat.le_refl _) (I1.hok.fresh (Nat.le_refl _))
  · cases r1
    obtain ⟨xs, hq⟩ := hq
    obtain ⟨its, rv, p, hz⟩ := I1.tuple hq
    refine wpAny_pyIter_tuple (show s1.heap.IsTuple a its.toArray from p) ?_
    refine ⟨s1.heap.objs.size, [s1.heap.objs.size], _, _, H1, rfl, I1.kept (t' := s1.toks) fun b o e => Heap.get?_push_of_some _ e, turn_tuple a _, ⟨_, Heap.get?_push_size _ rfl, rfl, rfl⟩, fun b hb => ?_, q⟩
    have e : b = s1.heap.objs.size := by simpa using hb
    subst e
    exact I1.fpOk (Nat.le_refl _) (I1.hok.fresh (Nat.le_refl _))
theorem gn (i : Nat) {x : Str} {pos : Pos} (nd : X.N.Nodup) (hN : X.N[i]? = some x := by rfl) (hx : Loc X.env.scope x := by first | exact Or.inl rfl | exact Or.inr rfl)
    (hf : X.fn x = true ∨ X.env.scope.names.lookup x = some .local := by first | exact .inl rfl | exact .inr rfl | assumption) : PG X (.Name x pos) (gName i) := pg_name nd hN hx hf
theorem sset (i : Nat) {x : Str} {e : Expr} {te : TE} {pos pos' : Pos} (nd : X.N.Nodup) (he : PE X e te) (hN : X.N[i]? = some x := by rfl) (hx : Loc X.env.scope x := by first | exact Or.inl rfl | exact Or.inr rfl)
    (hs : swapsWith e (some (.Name x pos')) pos.line X.env = pure false := by rfl) (hf : X.fn x = true ∨ X.env.scope.names.lookup x = some .local := by first | exact .inl rfl | exact .inr rfl | assumption) :
    PS X (.Assign [.Name x pos'] e pos) (tAsg te (gName i)) := ps_set nd hN hx he hs hf
theorem bt_len : bootBuiltins "len" = some (.builtin "len") := by decide +kernel
theorem bt_isinstance : bootBuiltins "isinstance" = some (.builtin "isinstance") := by decide +kernel
theorem bt_min : bootBuiltins "min" = some (.builtin "min") := by decide +kernel
theorem bt_max : bootBuiltins "max" = some (.builtin "max") := by decide +kernel
theorem bt_sum : bootBuiltins "sum" = some (.builtin "sum") := by decide +kernel
theorem bt_any : bootBuiltins "any" = some (.builtin "any") := by decide +kernel
theorem bt_all : bootBuiltins "all" = some (.builtin "all") := by decide +kernel
theorem bt_sorted : bootBuiltins "sorted" = some (.builtin "sorted") := by decide +kernel
theorem bt_int : bootBuiltins "int" = some (.type "int") := by decide +kernel
theorem bt_str : bootBuiltins "str" = some (.type "str") := by decide +kernel
theorem bt_bool : bootBuiltins "bool" = some (.type "bool") := by decide +kernel
theorem bt_list : bootBuiltins "list" = some (.type "list") := by decide +kernel
theorem bt_tuple : bootBuiltins "tuple" = some (.type "tuple") := by decide +kernel
theorem bt_dict : bootBuiltins "dict" = some (.type "dict") := by decide +kernel
theorem bt_set : bootBuiltins "set" = some (.type "set") := by decide +kernel
theorem bt_ValueError : bootBuiltins "ValueError" = some (.type "ValueError") := by decide +kernel

def gUnp (K : PySem.W.Frag) (n : Nat) (t : TGs) : TG := fun v σ H Q => gTup K n t v σ H Q ∨ gLst K n t v σ H Q
theorem pg_unp {pos : Pos} {es : List Expr} {k : Nat} {t : TGs} {n : Nat} (hc : X.calm = true) (h : PGs X es t)
    (hn : (assignEach es X.env).length = n := by rfl) (hst : (assignEach es X.env).findIdx? (·.1) = none := by rfl) : PG X (.Tuple es k pos) (gUnp X.K n t) := by
  refine ⟨fun pins s σ H v u Q I r hw => ?_⟩
  rcases hw with hw | hw
  · exact (pg_tup hc h hn hst).run pins s σ H v u Q I r hw
  · exact (pg_lst hc h hn hst).run pins s σ H v u Q I r hw
end
/-! ### step by step -/
section
variable {K : PySem.W.Frag} {D : Ends} {σ : St} {H : Hp} {Q : VK} {R : Bool → Hp → Prop} {S : List V → Hp → Prop} {te ta tb : TE} {tt tu : TT} {t u : TS} {i j : Int} {v x y : V} {n : Nat}
theorem w_seq (h : t { D with nx := u D } σ H) : tSeq t u D σ H := h
theorem w_next (h : D.nx σ H) : tNext D σ H := h
theorem w_asg {g : TG} (h : te σ H fun x H1 => g x σ H1 D.nx) : tAsg te g D σ H := h
theorem w_gname {N : St → Hp → Prop} (h : N (σ.set n (some v)) H) : gName n v σ H N := h
theorem w_gsub {to ti : TE} {ts : TSet} {N : St → Hp → Prop} (h : to σ H fun o H1 => ti σ H1 fun i H2 => ts o i v H2 fun H3 => N σ H3) : gSub to ti ts v σ H N := h
theorem w_drop (h : te σ H fun _ H1 => D.nx σ H1) : tDrop te D σ H := h
theorem w_ret (h : te σ H D.rt) : tRet te D σ H := h
theorem w_retN (h : D.rt .non H) : tRetN D σ H := h
theorem w_ifs (h : tt σ H fun b H1 => if b = true then t D σ H1 else u D σ H1) : tIfS tt t u D σ H := h
theorem w_var (e : σ[n]? = some (some v)) (h : Q v H) : tVar n σ H Q := ⟨v, e, h⟩
theorem w_c (h : Q v H) : tC v σ H Q := h
theorem w_op {r : R2} (h : ta σ H fun x H1 => tb σ H1 fun y H2 => r x y H2 Q) : tOp r ta tb σ H Q := h
theorem w_un {r : V → Hp → VK → Prop} (h : ta σ H fun x H1 => r x H1 Q) : tUn r ta σ H Q := h
theorem w_neg (h : Q (.int (-i)) H) : rNeg (.int i) H Q := ⟨i, rfl, h⟩
theorem w_test (h : te σ H fun x H' => ∃ k, x = .bl k ∧ R k H') : tTest te σ H R := h
theorem w_tB (h : te σ H fun x H' => ∃ k, x = .bl k ∧ R k H') : tB te σ H R := h
theorem w_tru (h : te σ H fun x H' => ∃ k, TruV K x H' k ∧ R k H') : tTru K te σ H R := h
theorem w_trub {b : Bool} {F : Bool → Prop} (h : F b) : ∃ k, TruV K (.bl b) H k ∧ F k := ⟨b, rfl, h⟩
theorem w_bl {b : Bool} {F : Bool → Prop} (h : F b) : ∃ k, V.bl b = .bl k ∧ F k := ⟨b, rfl, h⟩
theorem w_and (h : tt σ H fun c H1 => if c = true then tu σ H1 R else R false H1) : tAnd tt tu σ H R := h
theorem w_or (h : tt σ H fun c H1 => if c = true then R true H1 else tu σ H1 R) : tOr tt tu σ H R := h
theorem w_not (h : tt σ H fun c H1 => R (!c) H1) : tNot tt σ H R := h
theorem w_andV (h : ta σ H fun x H1 => ∃ c, x = .bl c ∧ if c = true then tb σ H1 Q else Q (.bl false) H1) : tAndV ta tb σ H Q := h
theorem w_orV (h : ta σ H fun x H1 => ∃ c, x = .bl c ∧ if c = true then Q (.bl true) H1 else tb σ H1 Q) : tOrV ta tb σ H Q := h
theorem w_notV (h : ta σ H fun x H1 => ∃ c, x = .bl c ∧ Q (.bl (!c)) H1) : tNotV ta σ H Q := h
theorem w_ifE (h : tt σ H fun c H1 => if c = true then ta σ H1 Q else tb σ H1 Q) : tIf tt ta tb σ H Q := h
theorem w_nil (h : S [] H) : tNil σ H S := h
theorem w_cons {tr : TA} (h : ta σ H fun x H1 => tr σ H1 fun xs H2 => S (x :: xs) H2) : tCons ta tr σ H S := h
theorem w_tup {ts : TA} (h : ts σ H fun xs H1 => xs.length ≤ sizeLine ∧ ∀ p, H1 p = none → Q (.ref p) (upd H1 p (.tup xs))) : tTup ts σ H Q := h
theorem w_lst {ts : TA} (h : ts σ H fun xs H1 => xs.length ≤ sizeLine ∧ ∀ p, H1 p = none → Q (.ref p) (upd H1 p (.lst xs))) : tLst ts σ H Q := h
theorem w_cb {r : List V → Hp → VK → Prop} {ts : TA} (h : ts σ H fun vs H1 => r vs H1 Q) : tCB r ts σ H Q := h
theorem w_call {sp : Sp} {E : XK} {ts : TA} (h : ts σ H fun vs H1 => sp vs H1 Q E) : tCall sp [] E ts σ H Q := by
  have e : (fun (vs : List V) (H1 : Hp) => sp (vs ++ []) H1 Q E) = fun vs H1 => sp vs H1 Q E := by funext vs H1; rw [List.append_nil]
  show ts σ H fun vs H1 => sp (vs ++ []) H1 Q E
  rw [e]; exact h
theorem w_sl {r : V → Option Int → Option Int → Hp → VK → Prop} {tl th : TO} (h : te σ H fun x H1 => tl σ H1 fun l H2 => th σ H2 fun u H3 => r x l u H3 Q) : tSl r te tl th σ H Q := h
theorem w_nopart {N : Option Int → Hp → Prop} (h : N none H) : tNoPart σ H N := h
theorem w_part {N : Option Int → Hp → Prop} (h : te σ H fun x H1 => ∃ i, x = .int i ∧ N (some i) H1) : tPart te σ H N := h
theorem w_pint {F : Int → Prop} (h : F i) : ∃ k, V.int i = .int k ∧ F k := ⟨i, rfl, h⟩
theorem w_bm {T : String} {r : V → List V → Hp → VK → Prop} {ts : TA} (h : te σ H fun x H1 => tyV K T x H1 ∧ ts σ H1 fun xs H2 => r x xs H2 Q) : tBM K T r te ts σ H Q := h
theorem w_bm0 {T : String} {r : V → List V → Hp → VK → Prop} (h : te σ H fun x H1 => tyV K T x H1 ∧ r x [] H1 Q) : tBM0 K T r te σ H Q := h
theorem w_addI (h : Q (.int (i + j)) H) : rAddD K (.int i) (.int j) H Q := h
theorem w_subI (h : Q (.int (i - j)) H) : rSubD (.int i) (.int j) H Q := h
theorem w_mulI (c : CMul i j) (h : Q (.int (i * j)) H) : rMulD (.int i) (.int j) H Q := ⟨c, h⟩
theorem w_mulR (c : -(2 ^ 64) < j ∧ j < 2 ^ 64) (h : Q (.int (i * j)) H) : rMulD (.int i) (.int j) H Q := ⟨.inr c, h⟩
theorem w_modI (c : 0 < j) (h : Q (.int (i % j)) H) : rModD (.int i) (.int j) H Q := ⟨c, h⟩
theorem w_fdivI (c : 0 < j ∧ j < 1073741824) (h : Q (.int (i / j)) H) : rFdivD (.int i) (.int j) H Q := ⟨c, h⟩
theorem w_powI (c : CPow i j) (h : Q (.int (i ^ j.toNat)) H) : rPowD (.int i) (.int j) H Q := ⟨c, h⟩
theorem w_ltI (h : Q (.bl (decide (i < j))) H) : rLtD (.int i) (.int j) H Q := h
theorem w_leI (h : Q (.bl (decide (i ≤ j))) H) : rLeD (.int i) (.int j) H Q := h
theorem w_gtI (h : Q (.bl (decide (j < i))) H) : rGtD (.int i) (.int j) H Q := h
theorem w_geI (h : Q (.bl (decide (j ≤ i))) H) : rGeD (.int i) (.int j) H Q := h
theorem w_eqI (h : Q (.bl (decide (i = j))) H) : rEqX K (.int i) (.int j) H Q := .inl ⟨rfl, by
  have e : decide (V.int i = V.int j) = decide (i = j) := by simp
  rw [e]; exact h⟩
theorem w_neI (h : Q (.bl (!decide (i = j))) H) : rNeX K (.int i) (.int j) H Q := .inl ⟨rfl, by
  have e : decide (V.int i = V.int j) = decide (i = j) := by simp
  rw [e]; exact h⟩
theorem w_eqS {i j : Str} (h : Q (.bl (decide (i = j))) H) : rEqX K (.str i) (.str j) H Q := .inl ⟨rfl, by
  have e : decide (V.str i = V.str j) = decide (i = j) := by simp
  rw [e]; exact h⟩
theorem w_eqB {i j : Bool} (h : Q (.bl (decide (i = j))) H) : rEqX K (.bl i) (.bl j) H Q := .inl ⟨rfl, by
  have e : decide (V.bl i = V.bl j) = decide (i = j) := by simp
  rw [e]; exact h⟩
theorem w_neS {i j : Str} (h : Q (.bl (!decide (i = j))) H) : rNeX K (.str i) (.str j) H Q := .inl ⟨rfl, by
  have e : decide (V.str i = V.str j) = decide (i = j) := by simp
  rw [e]; exact h⟩
theorem w_intI (h : Q (.int i) H) : rIntD [.int i] H Q := h
theorem w_isN (h : Q (.bl (decide (x = .non))) H) : rIsD x .non H Q := ⟨rfl, h⟩
theorem w_isnotN (h : Q (.bl (!decide (x = .non))) H) : rIsnotD x .non H Q := ⟨rfl, h⟩
theorem w_ite {c : Prop} {_ : Decidable c} {A B : Prop} (h1 : c → A) (h2 : ¬ c → B) : if decide c = true then A else B := by
  by_cases h : c
  · rw [if_pos (decide_eq_true h)]; exact h1 h
  · rw [if_neg (by simpa using h)]; exact h2 h
theorem w_iteN {c : Prop} {_ : Decidable c} {A B : Prop} (h1 : ¬ c → A) (h2 : c → B) : if (!decide c) = true then A else B := by
  by_cases h : c
  · rw [if_neg (by simpa using h)]; exact h2 h
  · rw [if_pos (by simpa using h)]; exact h1 h
theorem w_T {c : Prop} {_ : Decidable c} {A B : Prop} (hc : c) (h : A) : if decide c = true then A else B := by
  rw [if_pos (decide_eq_true hc)]; exact h
theorem w_F {c : Prop} {_ : Decidable c} {A B : Prop} (hc : ¬ c) (h : B) : if decide c = true then A else B := by
  rw [if_neg (by simpa using hc)]; exact h
theorem w_NT {c : Prop} {_ : Decidable c} {A B : Prop} (hc : ¬ c) (h : A) : if (!decide c) = true then A else B := by
  rw [if_pos (by simpa using hc)]; exact h
theorem w_NF {c : Prop} {_ : Decidable c} {A B : Prop} (hc : c) (h : B) : if (!decide c) = true then A else B := by
  rw [if_neg (by simpa using hc)]; exact h
theorem w_tt {A B : Prop} (h : A) : if true = true then A else B := by rw [if_pos rfl]; exact h
theorem w_ff {A B : Prop} (h : B) : if false = true then A else B := by rw [if_neg Bool.false_ne_true]; exact h
theorem w_ntt {A B : Prop} (h : A) : if (!false) = true then A else B := by rw [if_pos (by decide)]; exact h
theorem w_nff {A B : Prop} (h : B) : if (!true) = true then A else B := by rw [if_neg (by decide)]; exact h
/-! places -/
variable {p : Addr} {xs ys : List V}
theorem w_ixL (hp : H p = some (.lst xs)) (e : atI xs i = some v) (h : Q v H) : rIxD K (.ref p) (.int i) H Q := .inl (.inl ⟨p, xs, i, v, rfl, rfl, SqL.of hp, e, h⟩)
theorem w_ixT (hp : SqT K H p xs) (e : atI xs i = some v) (h : Q v H) : rIxD K (.ref p) (.int i) H Q := .inl (.inr (.inl ⟨p, xs, i, v, rfl, rfl, hp, e, h⟩))
theorem w_setL {N : Hp → Prop} {k : Nat} (hp : H p = some (.lst xs)) (e : ixN xs.length i = some k) (h : N (upd H p (.lst (xs.set k v)))) : rSetD (.ref p) (.int i) v H N := .inl ⟨p, xs, i, k, rfl, rfl, hp, e, h⟩
theorem w_lenL (hp : H p = some (.lst xs)) (h : xs.length ≤ 16777216 → Q (.int (xs.length : Int)) H) : rLenD K [.ref p] H Q := .inl ⟨_, xs.length, rfl, .inl ⟨xs, SqL.of hp, rfl⟩, h⟩
theorem w_lenT (hp : SqT K H p xs) (h : xs.length ≤ 16777216 → Q (.int (xs.length : Int)) H) : rLenD K [.ref p] H Q := .inl ⟨_, xs.length, rfl, .inr ⟨xs, hp, rfl⟩, h⟩
theorem w_ixS {z : Str} {c : Nat} (hz : z.length ≤ sizeLine) (e : atI z.cps.toList i = some c) (h : Q (.str ⟨#[c]⟩) H) : rIxD K (.str z) (.int i) H Q := .inl (.inr (.inr ⟨z, i, c, rfl, rfl, hz, e, h⟩))
theorem w_addS {a b : Str} (hz : a.length + b.length ≤ sizeLine) (h : Q (.str (a ++ b)) H) : rAddD K (.str a) (.str b) H Q := ⟨hz, h⟩
theorem w_slS {z : Str} {lo hi : Option Int} (hz : z.length ≤ sizeLine) (h : Q (.str (cutS z lo hi)) H) : rSlX K (.str z) lo hi H Q := .inr (.inr ⟨z, rfl, hz, h⟩)
theorem w_strI (c : i.natAbs.log2 < 1920) (h : Q (.str (toString i)) H) : rStrD [.int i] H Q := ⟨c, h⟩
theorem w_lenS {z : Str} (hz : z.length ≤ sizeLine) (h : z.length ≤ 16777216 → Q (.int (z.length : Int)) H) : rLenD K [.str z] H Q := .inl ⟨_, z.length, rfl, ⟨hz, rfl⟩, h⟩
theorem w_cat {q : Addr} (hp : H p = some (.lst xs)) (hq : H q = some (.lst ys)) (hl : xs.length + ys.length ≤ sizeLine) (h : ∀ r, H r = none → Q (.ref r) (upd H r (.lst (xs ++ ys)))) : rAddD K (.ref p) (.ref q) H Q :=
  .inl ⟨p, q, xs, ys, rfl, rfl, hp, hq, hl, h⟩
theorem w_append (hp : H p = some (.lst xs)) (hl : xs.length < sizeLine) (h : Q .non (upd H p (.lst (xs ++ [v])))) : tyV K "list" (.ref p) H ∧ rAppend (.ref p) [v] H Q :=
  ⟨Or.inl ⟨rfl, _, SqL.of hp⟩, p, xs, v, rfl, rfl, hp, hl, h⟩
theorem w_app (hp : H p = some (.lst xs)) (hl : xs.length < sizeLine) (h : Q .non (upd H p (.lst (xs ++ [v])))) : rAppend (.ref p) [v] H Q := ⟨p, xs, v, rfl, rfl, hp, hl, h⟩
theorem tyL (hp : H p = some (.lst xs)) : tyV K "list" (.ref p) H := Or.inl ⟨rfl, _, SqL.of hp⟩
theorem w_unpL {n : Nat} {ts : TGs} {N : St → Hp → Prop} (hp : H p = some (.lst xs)) (e : xs.length = n) (h : ts xs σ H N) : gUnp K n ts (.ref p) σ H N := .inr ⟨p, xs, rfl, SqL.of hp, e, h⟩
theorem w_unpT {n : Nat} {ts : TGs} {N : St → Hp → Prop} (hp : SqT K H p xs) (e : xs.length = n) (h : ts xs σ H N) : gUnp K n ts (.ref p) σ H N := .inl ⟨p, xs, rfl, hp, e, h⟩
theorem w_gcons {g : TG} {ts : TGs} {N : St → Hp → Prop} (h : g x σ H fun σ' H' => ts xs σ' H' N) : gCons g ts (x :: xs) σ H N := ⟨x, xs, rfl, h⟩
theorem w_gnil {N : St → Hp → Prop} (h : N σ H) : gNil [] σ H N := ⟨rfl, h⟩
theorem w_min2 (h : Q (.int (if j < i then j else i)) H) : rMinD K [.int i, .int j] H Q := h
theorem w_max2 (h : Q (.int (if j > i then j else i)) H) : rMaxD K [.int i, .int j] H Q := h
theorem w_listL (hp : H p = some (.lst xs)) (h : ∀ l, H l = none → Q (.ref l) (upd H l (.lst xs))) : rListD K [.ref p] H Q := ⟨p, xs, rfl, .inl (SqL.of hp), h⟩
theorem w_slL {lo hi : Option Int} (hp : H p = some (.lst xs)) (h : ∀ l, H l = none → Q (.ref l) (upd H l (.lst (cutV xs lo hi)))) : rSlX K (.ref p) lo hi H Q := .inl ⟨p, xs, rfl, SqL.of hp, h⟩
end

/-! ### loops -/
def LoopR (J : It) (g : TG) (tb : TS) (D : Ends) (σ : St) (H : Hp) : Prop := ∃ W : Nat → Nat → St → Hp → Prop, (∃ m, W 0 m σ H) ∧ ∀ i m σ H, W i m σ H →
  (J.stop i H ∧ D.nx σ H) ∨ (J.go i H ∧ ∃ N : St → Hp → Prop, (∀ σ' H', N σ' H' → ∃ m', m' < m ∧ W (i + 1) m' σ' H') ∧ ∀ x H', J.yld i H x H' → g x σ H' fun σ2 H2 => tb { D with nx := N, ct := N, bk := D.nx } σ2 H2)
section
variable {K : PySem.W.Frag} {D : Ends} {σ : St} {H : Hp} {Q : VK} {wi : TI} {g : TG} {tb : TS} {te : TE} {R : It → Hp → Prop}
theorem w_for (h : wi σ H fun J H1 => LoopR J g tb D σ H1) : tFor wi g tb D σ H := h
theorem w_rng1 {ta : TA} (h : ta σ H fun vs H1 => ∃ j : Int, vs = [.int j] ∧ -(2 ^ 62) ≤ j ∧ j < 2 ^ 62 ∧ R (Itr 0 j.toNat) H1) : iRng1 ta σ H R := h
theorem w_rng2 {ta : TA} (h : ta σ H fun vs H1 => ∃ i j : Int, vs = [.int i, .int j] ∧ (-(2 ^ 62) ≤ i ∧ i < 2 ^ 62 ∧ -(2 ^ 62) ≤ j ∧ j < 2 ^ 62) ∧ R (Itr i (j - i).toNat) H1) : iRng2 ta σ H R := h
theorem w_rI {n : Int} {F : Int → Prop} (c : -(2 ^ 62) ≤ n ∧ n < 2 ^ 62) (h : F n) : ∃ j : Int, [V.int n] = [.int j] ∧ -(2 ^ 62) ≤ j ∧ j < 2 ^ 62 ∧ F j := ⟨n, rfl, c.1, c.2, h⟩
theorem w_rI2 {n m : Int} {F : Int → Int → Prop} (c : -(2 ^ 62) ≤ n ∧ n < 2 ^ 62 ∧ -(2 ^ 62) ≤ m ∧ m < 2 ^ 62) (h : F n m) : ∃ i j : Int, [V.int n, V.int m] = [.int i, .int j] ∧ (-(2 ^ 62) ≤ i ∧ i < 2 ^ 62 ∧ -(2 ^ 62) ≤ j ∧ j < 2 ^ 62) ∧ F i j := ⟨n, m, rfl, c, h⟩
theorem w_iseq (h : te σ H fun x H1 => ∃ a, x = .ref a ∧ (((∃ xs, SqL K H1 a xs) ∧ R (Itl K a) H1) ∨ ((∃ xs, SqT K H1 a xs) ∧ R (Itt K a) H1))) : iSeq K te σ H R := h
theorem w_seqL {a : Addr} {xs : List V} {F G : Addr → Prop} (hp : H a = some (.lst xs)) (h : F a) : ∃ b, V.ref a = .ref b ∧ (((∃ xs, SqL K H b xs) ∧ F b) ∨ ((∃ xs, SqT K H b xs) ∧ G b)) := ⟨a, rfl, .inl ⟨⟨xs, SqL.of hp⟩, h⟩⟩
theorem w_seqT {a : Addr} {xs : List V} {F G : Addr → Prop} (hp : SqT K H a xs) (h : G a) : ∃ b, V.ref a = .ref b ∧ (((∃ xs, SqL K H b xs) ∧ F b) ∨ ((∃ xs, SqT K H b xs) ∧ G b)) := ⟨a, rfl, .inr ⟨⟨xs, hp⟩, h⟩⟩
theorem w_revR {tr : St → Hp → (Int → Int → Hp → Prop) → Prop} (h : tr σ H fun a b H1 => -(2 ^ 62) ≤ a ∧ a < 2 ^ 62 ∧ -(2 ^ 62) ≤ b ∧ b < 2 ^ 62 ∧ R (Itc (a + (((b - a).toNat : Nat) : Int) - 1) (-1) (b - a).toNat) H1) : iRevR tr σ H R := h
theorem w_rg1 {N : Int → Int → Hp → Prop} (h : te σ H fun x H1 => ∃ n, x = .int n ∧ N 0 n H1) : tRg1 te σ H N := h
theorem loop_range {lo : Int} {n : Nat} (Pv : Nat → St → Hp → Prop) (h0 : Pv 0 σ H)
    (hs : ∀ i σ H, i < n → Pv i σ H → g (.int (lo + i)) σ H fun σ2 H2 => tb { D with nx := Pv (i + 1), ct := Pv (i + 1), bk := D.nx } σ2 H2) (hd : ∀ σ H, Pv n σ H → D.nx σ H) : LoopR (Itr lo n) g tb D σ H := for_range Pv h0 hs hd
theorem loop_rangeC {lo c : Int} {n : Nat} (Pv : Nat → St → Hp → Prop) (h0 : Pv 0 σ H)
    (hs : ∀ i σ H, i < n → Pv i σ H → g (.int (lo + (i : Nat) * c)) σ H fun σ2 H2 => tb { D with nx := Pv (i + 1), ct := Pv (i + 1), bk := D.nx } σ2 H2) (hd : ∀ σ H, Pv n σ H → D.nx σ H) : LoopR (Itc lo c n) g tb D σ H := for_rangeC Pv h0 hs hd
theorem loop_list {a : Addr} {xs : List V} (Pv : Nat → St → Hp → Prop) (h0 : Pv 0 σ H) (hl : ∀ i σ H, i ≤ xs.length → Pv i σ H → H a = some (.lst xs))
    (hs : ∀ i x σ H, xs[i]? = some x → Pv i σ H → g x σ H fun σ2 H2 => tb { D with nx := Pv (i + 1), ct := Pv (i + 1), bk := D.nx } σ2 H2) (hd : ∀ σ H, Pv xs.length σ H → D.nx σ H) : LoopR (Itl K a) g tb D σ H :=
  for_list Pv h0 (fun i σ H c p => SqL.of (hl i σ H c p)) hs hd
theorem loop_tup {a : Addr} {xs : List V} (Pv : Nat → St → Hp → Prop) (h0 : Pv 0 σ H) (hl : ∀ i σ H, i ≤ xs.length → Pv i σ H → SqT K H a xs)
    (hs : ∀ i x σ H, xs[i]? = some x → Pv i σ H → g x σ H fun σ2 H2 => tb { D with nx := Pv (i + 1), ct := Pv (i + 1), bk := D.nx } σ2 H2) (hd : ∀ σ H, Pv xs.length σ H → D.nx σ H) : LoopR (Itt K a) g tb D σ H :=
  for_tup Pv h0 hl hs hd
/-! comprehensions -/
def CompR (J : It) (g : TG) (tt : TT) (te : TE) (vs : List Nat) (Q : VK) (σ : St) (H1 : Hp) : Prop := ∀ E, H1 E = none → ∃ W : Nat → Nat → Hp → Prop, (∃ m, W 0 m (upd H1 E (.lst []))) ∧ ∀ i m H, W i m H →
  (J.stop i H ∧ Q (.ref E) H) ∨ (J.go i H ∧ ∃ Nx : Hp → Prop, (∀ H', Nx H' → ∃ m', m' < m ∧ W (i + 1) m' H') ∧ ∀ x H', J.yld i H x H' → g x (wipe σ vs) H' fun σ2 H2 => wipe σ2 vs = wipe σ vs ∧ tt σ2 H2 fun b H3 =>
    if b = true then te σ2 H3 fun y H4 => ∃ acc, H4 E = some (.lst acc) ∧ acc.length < sizeLine ∧ Nx (upd H4 E (.lst (acc ++ [y]))) else Nx H3)
theorem w_lc {tt : TT} {vs : List Nat} (h : wi σ H fun J H1 => CompR J g tt te vs Q σ H1) : tLc wi g tt te vs σ H Q := h
theorem comp_range {lo : Int} {n : Nat} {tt : TT} {vs : List Nat} (Pv : Addr → Nat → Hp → Prop) (h0 : ∀ E, H E = none → Pv E 0 (upd H E (.lst [])))
    (hs : ∀ E, H E = none → ∀ i H', i < n → Pv E i H' → g (.int (lo + i)) (wipe σ vs) H' fun σ2 H2 => wipe σ2 vs = wipe σ vs ∧ tt σ2 H2 fun b H3 =>
      if b = true then te σ2 H3 fun y H4 => ∃ acc, H4 E = some (.lst acc) ∧ acc.length < sizeLine ∧ Pv E (i + 1) (upd H4 E (.lst (acc ++ [y]))) else Pv E (i + 1) H3)
    (hd : ∀ E, H E = none → ∀ H', Pv E n H' → Q (.ref E) H') : CompR (Itr lo n) g tt te vs Q σ H := fun E hE => lc_range (Pv E) (h0 E hE) (hs E hE) (hd E hE)
theorem comp_list {a : Addr} {xs : List V} {tt : TT} {vs : List Nat} (Pv : Addr → Nat → Hp → Prop) (h0 : ∀ E, H E = none → Pv E 0 (upd H E (.lst []))) (hl : ∀ E, H E = none → ∀ i H', i ≤ xs.length → Pv E i H' → H' a = some (.lst xs))
    (hs : ∀ E, H E = none → ∀ i x H', xs[i]? = some x → Pv E i H' → g x (wipe σ vs) H' fun σ2 H2 => wipe σ2 vs = wipe σ vs ∧ tt σ2 H2 fun b H3 =>
      if b = true then te σ2 H3 fun y H4 => ∃ acc, H4 E = some (.lst acc) ∧ acc.length < sizeLine ∧ Pv E (i + 1) (upd H4 E (.lst (acc ++ [y]))) else Pv E (i + 1) H3)
    (hd : ∀ E, H E = none → ∀ H', Pv E xs.length H' → Q (.ref E) H') : CompR (Itl K a) g tt te vs Q σ H := fun E hE => lc_list (Pv E) (h0 E hE) (fun i H' c p => SqL.of (hl E hE i H' c p)) (hs E hE) (hd E hE)
theorem comp_tup {a : Addr} {xs : List V} {tt : TT} {vs : List Nat} (Pv : Addr → Nat → Hp → Prop) (h0 : ∀ E, H E = none → Pv E 0 (upd H E (.lst []))) (hl : ∀ E, H E = none → ∀ i H', i ≤ xs.length → Pv E i H' → SqT K H' a xs)
    (hs : ∀ E, H E = none → ∀ i x H', xs[i]? = some x → Pv E i H' → g x (wipe σ vs) H' fun σ2 H2 => wipe σ2 vs = wipe σ vs ∧ tt σ2 H2 fun b H3 =>
      if b = true then te σ2 H3 fun y H4 => ∃ acc, H4 E = some (.lst acc) ∧ acc.length < sizeLine ∧ Pv E (i + 1) (upd H4 E (.lst (acc ++ [y]))) else Pv E (i + 1) H3)
    (hd : ∀ E, H E = none → ∀ H', Pv E xs.length H' → Q (.ref E) H') : CompR (Itt K a) g tt te vs Q σ H := fun E hE => lc_tup (Pv E) (h0 E hE) (hl E hE) (hs E hE) (hd E hE)
theorem w_yes {R : Bool → Hp → Prop} (h : R true H) : tYes σ H R := h
end
end Q


namespace Q
open PySem L2
/-- the wrapper of ValueError.__init__ is called -/
theorem call_mw {prog : Program} {w : World} {A : Around} {E : Value → Shared → Prop} {Q : Value → Shared → Prop} {K : PySem.W.Frag} {C u a t1 : Addr} {d : Option Addr} {rest : List Value} {hh : Heap} {g : Array GenState} {dr : Drawn} {tk : Nat} {os : OsState}
    (T : OexC K C) (X : K.In hh) (hu : hh.get? u = some (PySem.W.kxs_mw "ValueError.__init__" a)) (he : hh.get? a = some ({ cls := .ref C, dict := d, data := .fields #[.ref t1, .none, .none, .none, .bool false, .none] } : Obj)) (hz : rest.length ≤ sizeLine)
    (hq : ∀ h' t2, (∀ b o, b ≠ a → hh.get? b = some o → h'.get? b = some o) → h'.get? a = some ({ cls := .ref C, dict := d, data := .fields #[.ref t2, .none, .none, .none, .bool false, .none] } : Obj) → Q .none ⟨h', g, dr, tk, os⟩) :
    wpAny (model prog w) A (call (.ref u) rest) Q E ⟨hh, g, dr, tk, os⟩ := by
  obtain ⟨nm, q, N, bs, bm, sn, sub, ab, col, dd, k0, k1, k2, k3, k5, hC, hbm⟩ := T.cls
  have hC' := X _ _ hC
  refine wpAny_call (codeAny_of_tree ?_)
  show wpAny _ A.in1 (callAny (.ref u) ⟨rest, []⟩) _ _ _
  unfold callAny
  refine wpAny_bind (wpAny_load hu ?_)
  simp only [PySem.W.kxs_mw, show (Value.type "method-wrapper" == Value.type "method" || Value.type "method-wrapper" == Value.type "builtin_function_or_method" || Value.type "method-wrapper" == Value.type "method-wrapper") = true by decide, if_true]
  refine PySem.W.KFB.if_so (by decide) ?_
  refine wpAny_bind (PySem.W.check_bound_init F.excBase_ValueError.toExcCallFacts hC' he rfl ?_)
  refine wpAny_bind (wpAny_pure (wpAny_pure ?_))
  refine ⟨plainId_quiet F.excBase_ValueError.init.plain _, codeAny_builtin F.excBase_ValueError.initEntry ?_⟩
  exact PySem.W.exc_init_tree (cls := .ref C) (t0 := t1) (dv := d) (c2 := .none) (c3 := .none) (b4 := .bool false) he hz fun h' k e1 _ => hq h' _ k e1

/-- what the top has written of an own error: class C, its __init__ at fI, of the parameters self and ps; st: the text of __init__ -/
structure ErrC (P : Program) (K : PySem.W.Frag) (C fI : Addr) (qual : Str) (params : Arguments) (body : List Stmt) (scope : Scope) (N : List Str) (fd : FuncData) : Prop where
  T : OexC K C
  ex : ∃ (oc : Value) (od : Option Addr) (osl : Array (Option Value)) (kV doc pm ct : Value) (an : Option Addr) (cda cc : Addr) (ccl : Value) (cdd : Option Addr) (vs : Array Value) (ccs : Array (Option Value)) (file : Str) (tf : Tok) (cl : Value) (cld : Option Addr) (csl : Array (Option Value)) (cd : ClassData),
    fd = PySem.W.ksFn "__init__" qual params body scope .none kV doc pm an (.ref cda) ct cc ∧
    K.lookup fI = some ⟨oc, od, .func (PySem.W.ksFn "__init__" qual params body scope .none kV doc pm an (.ref cda) ct cc), osl⟩ ∧ PySem.W.codeIn K (.ref cda) qual = true ∧
    K.lookup cda = some ⟨ccl, cdd, .fields vs, ccs⟩ ∧ vs[2]? = some (.str file tf) ∧ ((P.main.file : Str) == file) = true ∧
    K.lookup cc = some ⟨cl, cld, .cell (some (.ref C)), csl⟩ ∧ PySem.W.clsIn K C = some cd
  sub : PySem.W.mroIn K C (.ref C) = some true
  sup : PySem.W.nsIn K mainGlobals "super" = some none
  opq : PySem.W.nsIn K cStatics "thirdparty.any" = some none
  sin : PySem.W.ks_superIn K C C "__init__" = some (some (.builtin "ValueError.__init__"))
  ve : PySem.W.subIn K (.ref C) (.type "ValueError") = some true
  top : (P.main.scope.names.lookup ("super" : Str)).isSome = false
  hp : ∃ ar : Arg, (params.posonlyargs ++ params.args).head? = some ar ∧ ar.arg = "self"
  ks : scope.names.lookup ("super" : Str) = some .globalImplicit
  kc : scope.names.lookup ("__class__" : Str) = some .free
  kf : ∀ x, (scope.names.lookup x = some .cell ∨ scope.names.lookup x = some .free) → x = "__class__"
  nc : ∀ x ∈ scope.names, x.2 ≠ .cell
  loc : ∀ x ∈ N, scope.names.lookup x = some .local
  self : N[0]? = some ("self" : Str)
  nd : N.Nodup
  co : scope.isCoroutine = false
  gen : scope.isGenerator = false
  kind : scope.kind = .function
/-- the context of such an __init__ -/
def cxI (CX : CXT) (P : Program) (w : World) (K : PySem.W.Frag) (mg : Str → Option Value) (base : Heap) (N : List Str) (env : Env) (A : Around) (outer : List Env) (s : Shared) (H : Hp) (E : XK) : Cx where
  prog := P
  w := w
  K := K
  mg := mg
  base := base
  A := A.deeper env
  N := N
  s_0 := s
  H_0 := H
  env := env
  outer := outer
  stack := env :: outer
  ex := []
  calm := true
  fn := fun _ => false
  pn := []
  xe := fun e s' => wpAny (model P w) (A.deeper env) (leaving env e) (fun _ s'' => CX outer H s E e s'') (fun e' s'' => CX outer H s E e' s'') s'
theorem zip_sub : ∀ (ps : List Str) (us : List Value), ((ps.zip us).map (·.1)).Sublist ps
  | [], _ => by simp
  | _ :: _, [] => by simp
  | p :: ps, u :: us => by
    rw [List.zip_cons_cons, List.map_cons]
    exact (zip_sub ps us).cons_cons p
theorem zip_rev {ps : List Str} {us : List Value} {i : Nat} {x : Str} {u : Value} (nd : ps.Nodup) (h1 : ps[i]? = some x) (h2 : us[i]? = some u) : (ps.zip us).reverse.lookup x = some u := by
  have key : ∀ (l : List (Str × Value)), (l.map (·.1)).Nodup → (x, u) ∈ l → l.lookup x = some u := by
    intro l
    induction l with
    | nil => intro _ h; simp at h
    | cons p l ih =>
      intro hn hm
      obtain ⟨y, v⟩ := p
      rw [List.map_cons, List.nodup_cons] at hn
      rw [List.lookup_cons]
      rcases List.mem_cons.mp hm with e | hm
      · cases e; simp
      · have hxy : x ≠ y := fun z => hn.1 (z ▸ List.mem_map.mpr ⟨(x, u), hm, rfl⟩)
        have : (x == y) = false := by simpa using hxy
        rw [this]
        exact ih hn.2 hm
  apply key
  · rw [List.map_reverse]
    refine (List.reverse_perm _).nodup_iff.mpr ?_
    exact nd.sublist (zip_sub ps us)
  · rw [List.mem_reverse]
    exact List.mem_of_getElem? (i := i) (List.getElem?_zip_eq_some.mpr ⟨h1, h2⟩)
theorem inv_init {CX : CXT} {P : Program} {w : World} {K : PySem.W.Frag} {mg : Str → Option Value} {base : Heap} {N : List Str} {qual : Str} {scope : Scope} {f : Addr} {cd : Value} {cc : Addr} {A : Around} {outer : List Env} {s : Shared} {H : Hp} {E : XK} {us : List Value} {vs : List V} {h0 : Heap} {t : Nat} {oc : Obj} {cv : Option Value}
    (kf : ∀ x, (scope.names.lookup x = some .cell ∨ scope.names.lookup x = some .free) → x = "__class__") (loc : ∀ x ∈ N, scope.names.lookup x = some .local) (nd : N.Nodup) (kind : scope.kind = .function) (hcc : K.lookup cc = some oc) (hoc : oc.data = .cell cv)
    (hd : A.handled = none) (e0 : Env0 P w K mg base A outer s H) (hl : vs.length = N.length) (r : Vals vs us) (hns : h0.Ns s.heap.objs.size (fun x => (N.zip us).reverse.lookup x)) (hk : ∀ b o, s.heap.get? b = some o → h0.get? b = some o) :
    Inv (cxI CX P w K mg base N (PySem.W.ksEnv qual scope s.heap.objs.size f cd cc) A outer s H E) [] (vs.map some) H { s with heap := h0, toks := t } := by
  have noA : ∀ b : Addr, b ∉ (cxI CX P w K mg base N (PySem.W.ksEnv qual scope s.heap.objs.size f cd cc) A outer s H E).ex := fun b z => absurd (show b ∈ ([] : List Addr) from z) (by simp)
  have hlk : ∀ y c, ([(("__class__" : Str), cc)] : List (Str × Addr)).lookup y = some c → y = "__class__" ∧ c = cc := by
    intro y c h
    rw [List.lookup_cons] at h
    cases hy : (y == ("__class__" : Str)) with
    | true => rw [hy] at h; cases h; exact ⟨by simpa using hy, rfl⟩
    | false => rw [hy] at h; cases h
  have hb : base.get? cc = some oc := e0.mod.kin _ _ hcc
  refine ⟨⟨e0.mod, kind, rfl, rfl, Nat.le_refl _, fun y z c h1 h2 => ?_, fun y hy => ?_, fun y c h _ => (by cases h), fun _ => hd, Around.frames_deeper e0.frames, .inr ⟨rfl, rfl⟩, fun b z => absurd z (noA b), e0.bs, e0.bsz, fun b _ _ => noA b, fun b z => absurd z (noA b), e0.funs, e0.frf⟩,
    rfl, e0.bare, Un.kept hk, ⟨_, hns, fun i y v h1 h2 h3 => ?_⟩, fun y c h => ?_, e0.hok.fresh (Nat.le_refl _), fun y c h => ?_, fun p hp => absurd (show p ∈ ([] : List (Addr × Obj)) from hp) (by simp), e0.hok.kept hk, by simp [hl]; rfl⟩
  · rw [(hlk y c h1).1, (hlk z c h2).1]
  · exact ⟨cc, by rw [kf y hy]; rfl⟩
  · have h1' : N[i]? = some y := h1
    have h2' : vs[i]? = some v := by
      rw [List.getElem?_map] at h2
      cases e : vs[i]? with
      | none => rw [e] at h2; cases h2
      | some a => rw [e] at h2; cases h2; rfl
    obtain ⟨u, hu, rv⟩ := r.get h2'
    exact ⟨u, rv, .inl ⟨loc y (List.mem_of_getElem? h1'), zip_rev nd h1' hu⟩⟩
  · rw [(hlk y c h).2]
    exact ⟨cv, oc, hk _ _ (e0.bs _ _ hb).1, hoc⟩
  · rw [(hlk y c h).2]
    exact (e0.bs _ _ hb).2
theorem fn_init {CX : CXT} {P : Program} {w : World} {K : PySem.W.Frag} {mg : Str → Option Value} {base : Heap} {C fI : Addr} {qual : Str} {params : Arguments} {rest : List Stmt} {scope : Scope} {N : List Str} {fd : FuncData} {p0 p1 p2 p3 p4 p5 : Pos} {msg : Str} {j : Nat} {k : Nat} {sp : Sp}
    (EC : ErrC P K C fI qual params (.Expr (.Call (.Attribute (.Call (.Name "super" p0) [] [] p1) "__init__" p2) [.Constant (.str msg) j p3] [] p4) p5 :: rest) scope N fd) (len : ∀ vs H Q E, sp vs H Q E → vs.length = N.length)
    {pl : Addr → Addr → Addr → Sem Bool} (hi : ∀ L cda cc : Addr, interactive (PySem.W.ksEnv qual scope L fI (.ref cda) cc) = false)
    (he : ∀ L cda cc : Addr, eval (.Call (.Attribute (.Call (.Name "super" p0) [] [] p1) "__init__" p2) [.Constant (.str msg) j p3] [] p4) (PySem.W.ksEnv qual scope L fI (.ref cda) cc) = (do
      let ov ← attributeBase (.Call (.Name "super" p0) [] [] p1) "__init__" (PySem.W.ksEnv qual scope L fI (.ref cda) cc) (eval (.Call (.Name "super" p0) [] [] p1) (PySem.W.ksEnv qual scope L fI (.ref cda) cc))
      standAt p2.atName
      let (f, first) ← holding [ov] (getMethod ov "__init__" (pl L cda cc))
      callWith p4 f first (backTo p4 (starEach [.Constant (.str msg) j p3] (PySem.W.ksEnv qual scope L fI (.ref cda) cc))) []))
    (hb : ∀ (L cda cc : Addr) (A : Around) (outer : List Env) (s : Shared) (H : Hp) (vs : List V) (Q : VK) (E : XK), Room k (A.deeper (PySem.W.ksEnv qual scope L fI (.ref cda) cc)) → sp vs H Q E → ∃ (t : TS) (a : Addr) (ws : List V), PSs (cxI CX P w K mg base N (PySem.W.ksEnv qual scope L fI (.ref cda) cc) A outer s H E) rest t ∧ vs = .ref a :: ws ∧ H a = some (exo a C none) ∧ t { nx := fun _ H' => Q .non H', rt := Q } (vs.map some) H) :
    FnOk P w K mg base CX (k + 1) fI fd N sp := by
  obtain ⟨oc, od, osl, kV, doc, pm, ct, an, cda, cc, ccl, cdd, vs0, ccs, file, tf, cl, cld, csl, cd, rfl, hf, hcd, hcode, hvs, hfile, hcell, hcd2⟩ := EC.ex
  obtain ⟨ar, har, hself⟩ := EC.hp
  refine ⟨len, fun A outer s H args us vs Q E hr e0 hbd r hsp => ?_⟩
  have KX : K.In s.heap := e0.mod.kin.keeps fun b o e => (e0.bs b o e).1
  have lim : s.heap.NoLimit := e0.mod.nolimit.keeps fun b o e => (e0.bs b o e).1
  have hl := len _ _ _ _ hsp
  refine PySem.ks_codeAny_call_defAt (fd := PySem.W.ksFn "__init__" qual params _ scope .none kV doc pm an (.ref cda) ct cc) (binds := N.zip us) (by have := hr.dp; omega) (KX _ _ hf) rfl lim (PySem.W.codeRec_of KX hcd) rfl hbd EC.nc (fun x hx => EC.loc x.1 (List.of_mem_zip hx).1) (fun h0 hns hk => ?_) EC.co EC.gen EC.kind
  obtain ⟨t, a, ws, hps, rfl, ha, ht⟩ := hb s.heap.objs.size cda cc A outer s H vs Q E (hr.deeper _) hsp
  have I := inv_init (CX := CX) (E := E) (qual := qual) (f := fI) (cd := .ref cda) (t := s.toks + (N.zip us).length) EC.kf EC.loc EC.nd EC.kind hcell rfl hr.hd e0 hl r hns hk
  obtain ⟨hh, gg, dd, tt, oo⟩ := s
  have KX0 : K.In h0 := KX.keeps hk
  obtain ⟨t1, hobj⟩ := exo_at I.hok ha
  have hobj : h0.get? a = some ({ cls := .ref C, dict := none, data := .fields #[.ref t1, .none, .none, .none, .bool false, .none] } : Obj) := hobj
  obtain ⟨oD, hD1, hD2⟩ : ∃ oD, h0.get? C = some oD ∧ oD.data = .cls cd := by
    have hcd3 := hcd2
    unfold PySem.W.clsIn at hcd3
    split at hcd3
    · rename_i ho
      cases hcd3
      exact ⟨_, KX0 _ _ ho, rfl⟩
    · cases hcd3
  have hu0 : us[0]? = some (Value.ref a) := by
    cases r with
    | cons r1 _ => cases r1; rfl
  have hm0 : (N.zip us).reverse.lookup ("self" : Str) = some (Value.ref a) := zip_rev EC.nd EC.self hu0
  have hmg : mg "super" = none := PySem.W.mg_none_of e0.mod.kin e0.mod.glob EC.sup
  obtain ⟨mb, hb1, hb2⟩ := I.mod.blt
  refine PySem.ks_wpAt_execs_cons (PySem.ks_wpAt_Expr_any (PySem.ks_wpAt_MethodCall (pl := pl hh.objs.size cda cc) ?_ (he hh.objs.size cda cc)) (hi hh.objs.size cda cc))
  refine PySem.ks_wpAt_super_base (env := PySem.W.ksEnv qual scope hh.objs.size fI (.ref cda) cc) EC.ks EC.kc (by decide) rfl (KX0 _ _ hf) rfl har rfl (KX0 _ _ hcode) rfl hvs hfile EC.top ?_
  refine PySem.W.ks_loadName_global EC.kind EC.ks (Calls.loadGlobal_builtin (env := PySem.W.ksEnv qual scope hh.objs.size fI (.ref cda) cc) (I.mod.glob.keeps I.bk) hmg (hb1.keeps I.bk) ((hb2 "super" (by decide)).trans (by decide +kernel)) ⟨rfl, ?_⟩)
  refine wpAny_loadName_free EC.kind EC.kc rfl ⟨_, KX0 _ _ hcell, rfl⟩ ?_
  rw [hself]
  refine wpAny_loadName_local EC.kind (EC.loc "self" (List.mem_of_getElem? EC.self)) hns hm0 ?_
  refine ks_wpAny_isType_cls hD1 hD2 ⟨rfl, ?_⟩
  refine ks_wpAny_call_super hD1 hD2 hobj rfl (fun c e => by cases e) (PySem.W.looks_mroIn KX0 EC.sub) (fun h1 e1 k1 => ?_)
  have KX1 : K.In h1 := KX0.keeps k1
  have I1 := I.kept (h' := h1) (t' := tt + (N.zip us).length) k1
  have hin : PySem.W.InstAt h1 a ({ cls := .ref C, dict := none, data := .fields #[.ref t1, .none, .none, .none, .bool false, .none] } : Obj) C none := ⟨k1 _ _ hobj, rfl, rfl, trivial⟩
  have hal : PySem.W.alongIn K "__init__" ((cd.mro.dropWhile (· != .ref C)).drop 1) = some (some (.builtin "ValueError.__init__")) := by
    have := EC.sin
    unfold PySem.W.ks_superIn at this
    rw [hcd2] at this
    exact this
  refine PySem.W.kxs_getMethod PySem.W.kxs_ValueError e1 (PySem.W.looks_opaque KX1 EC.opq) (l₀ := cd.mro) ?_ rfl KX1 hal (hin.type.andThen (PySem.W.looks_subIn KX1 EC.ve)) (PySem.W.ks_ne KX1 hin hcd2) (by decide) ?_
  · exact fun A Q E s k q => wpAny_bind ((PySem.W.looks_clsIn KX1 hcd2) A _ E s k (wpAny_pure q))
  have k2 : ∀ b o, h1.get? b = some o → (h1.push (PySem.W.kxs_mw "ValueError.__init__" a)).get? b = some o := fun b o e => Heap.get?_push_of_some _ e
  have hu2 : (h1.push (PySem.W.kxs_mw "ValueError.__init__" a)).get? h1.objs.size = some (PySem.W.kxs_mw "ValueError.__init__" a) := Heap.get?_push_size _ rfl
  have I2 := I1.kept (h' := h1.push (PySem.W.kxs_mw "ValueError.__init__" a)) (t' := tt + (N.zip us).length + 1) k2
  have hpa : PA (cxI CX P w K mg base N (PySem.W.ksEnv qual scope hh.objs.size fI (.ref cda) cc) A outer ⟨hh, gg, dd, tt, oo⟩ H E) [.Constant (.str msg) j p3] (tCons (tC (.str msg)) tNil) := pa_cons pe_str pa_nil
  show wpAny _ _ (callWith p4 (.ref h1.objs.size) [] (backTo p4 (starEach [.Constant (.str msg) j p3] (PySem.W.ksEnv qual scope hh.objs.size fI (.ref cda) cc))) []) _ _ _
  have I3 := I2.pins_of (pins' := [(h1.objs.size, PySem.W.kxs_mw "ValueError.__init__" a)]) fun p hp => by
    rw [List.mem_singleton] at hp
    subst hp
    exact ⟨hu2, I1.hok.fresh (Nat.le_refl _), Nat.ne_of_gt I1.lt, I1.nofs (Nat.le_refl _), fun v e => by cases e⟩
  refine PySem.W.kxs_callWith (i := "ValueError.__init__") (x := a) rfl (PySem.Calls.evalArgs_plain (thn (hpa.run p4 _ _ ((V.ref a :: ws).map some) H (fun vs H1 => vs = [V.str msg] ∧ H1 = H) I3 ⟨rfl, rfl⟩) fun us1 s3 h3 => ?_))
  obtain ⟨vs1, H1, J, r1, rfl, rfl⟩ := h3
  have hu3 := (J.pin (h1.objs.size, PySem.W.kxs_mw "ValueError.__init__" a) (by simp)).1
  have J0 := J.pins_of (pins' := []) (fun p hp => by simp at hp)
  obtain ⟨t3, hobj3⟩ := exo_at J0.hok ha
  obtain ⟨hh3, gg3, dd3, tt3, oo3⟩ := s3
  refine ⟨hu3, ?_⟩
  refine call_mw EC.T J0.kIn hu3 hobj3 (by have := Paired.length r1; rw [sizeLine_eq]; simp at this ⊢; omega) fun h4 t4 k4 e4 => ?_
  have J4 := J0.write (t' := tt3) (x := a) (e := a) (o := exo a C none) (by rw [ha]; exact True.intro) (.inl rfl) k4 ⟨_, e4⟩ (exo_ok e4)
  have eu : upd H1 a (exo a C none) = H1 := by
    funext b
    by_cases hb : b = a
    · rw [hb, upd_same, ha]
    · rw [upd_ne hb]
  rw [eu] at J4
  refine wpAt_of_wpAny ?_
  refine wpAny_mono (hps.run [] _ _ H1 _ J4 ht) (fun fl s' hs => ?_) fun e s' hs => hs
  have fin : ∀ {σ' : St} {H' : Hp} {v : V} {u : Value}, Inv (cxI CX P w K mg base N (PySem.W.ksEnv qual scope hh.objs.size fI (.ref cda) cc) A outer ⟨hh, gg, dd, tt, oo⟩ H1 E) [] σ' H' s' → RelV v u → Q v H' → CE outer P w H1 ⟨hh, gg, dd, tt, oo⟩ Q u s' :=
    fun {σ' H' v u} J rv q => ⟨v, H', J.os, J.bare, J.base, J.hok, rv, q⟩
  cases fl with
  | ret u =>
    obtain ⟨v, σ', H', J, rv, q⟩ := hs
    exact fin J rv q
  | next =>
    obtain ⟨σ', H', J, q⟩ := hs
    exact fin (v := V.non) (u := Value.none) J rfl q
  | brk =>
    obtain ⟨σ', H', J, q⟩ := hs
    exact q.elim
  | cont =>
    obtain ⟨σ', H', J, q⟩ := hs
    exact q.elim
end Q


namespace Q
open PySem PySem.Spec PyProof.Rows L2
/-! ### an own error's __init__ and its making -/
/-- what __init__ promises: the fields fs are set, in this order -/
def spI (C : Addr) (fs : List Str) : Sp := fun vs H Q _ => ∃ (a : Addr) (ws : List V), vs = .ref a :: ws ∧ ws.length = fs.length ∧ H a = some (exo a C none) ∧
  ∀ (dx : Addr) (H' : Hp), H dx = none → dx ≠ a → H' a = some (exo a C (some dx)) → H' dx = some (exd dx (fs.zip ws).reverse) → (∀ b, b ≠ a → b ≠ dx → H' b = H b) → Q .non H'
theorem spI_len {C : Addr} {fs N : List Str} (hN : N.length = fs.length + 1) : ∀ vs H Q E, spI C fs vs H Q E → vs.length = N.length := by
  rintro vs H Q E ⟨a, ws, rfl, hl, _⟩
  simp [hl, hN]
theorem init1 {K : PySem.W.Frag} {C : Addr} {f : Str} {vs : List V} {H : Hp} {Q : VK} {E : XK} (T : OexC K C) (h1 : PySem.W.findIn K (.ref C) f = some none) (h : spI C [f] vs H Q E) :
    ∃ (a : Addr) (ws : List V), vs = .ref a :: ws ∧ H a = some (exo a C none) ∧ tOst K f (tVar 0) (tVar 1) { nx := fun _ H' => Q .non H', rt := Q } (vs.map some) H := by
  obtain ⟨a, ws, rfl, hl, ha, hq⟩ := h
  match ws, hl with
  | [y], _ =>
    refine ⟨a, [y], rfl, ha, y, rfl, .ref a, rfl, a, C, rfl, T, h1, .inl ⟨ha, fun dx hd hne => hq dx _ hd hne upd_same ?_ fun b hb hb2 => ?_⟩⟩
    · rw [upd_ne hne, upd_same]; rfl
    · rw [upd_ne hb, upd_ne hb2]
theorem init2 {K : PySem.W.Frag} {C : Addr} {f g : Str} {vs : List V} {H : Hp} {Q : VK} {E : XK} (T : OexC K C) (h1 : PySem.W.findIn K (.ref C) f = some none) (h2 : PySem.W.findIn K (.ref C) g = some none) (h : spI C [f, g] vs H Q E) :
    ∃ (a : Addr) (ws : List V), vs = .ref a :: ws ∧ H a = some (exo a C none) ∧ tSeq (tOst K f (tVar 0) (tVar 1)) (tOst K g (tVar 0) (tVar 2)) { nx := fun _ H' => Q .non H', rt := Q } (vs.map some) H := by
  obtain ⟨a, ws, rfl, hl, ha, hq⟩ := h
  match ws, hl with
  | [y, z], _ =>
    refine ⟨a, [y, z], rfl, ha, y, rfl, .ref a, rfl, a, C, rfl, T, h1, .inl ⟨ha, fun dx hd hne => ⟨z, rfl, .ref a, rfl, a, C, rfl, T, h2, .inr ⟨dx, [(f, y)], upd_same, ?_, by simp, hq dx _ hd hne ?_ upd_same fun b hb hb2 => ?_⟩⟩⟩⟩
    · rw [upd_ne hne, upd_same]
    · rw [upd_ne (Ne.symm hne), upd_same]
    · rw [upd_ne hb2, upd_ne hb, upd_ne hb2]
/-- C(e, ..): an error with the fields fs -/
def tErr (C : Addr) (fs : List Str) (ta : TA) : L2.St → Hp → XK → Prop := fun σ H Q => ta σ H fun vs H1 => vs.length = fs.length ∧ ∀ d, H1 d = none → Q (.ref C) (some d) (upd H1 d (.xd (fs.zip vs).reverse))
section
variable {X : Cx} {e : Expr} {es : List Expr} {ta : TA} {p pos : Pos}
theorem pmk_err {CX : CXT} {x : Str} {C fI : Addr} {k : Nat} {fd : FuncData} {ps fs : List Str} (T : OexC X.K C) (iC : PySem.W.findIn X.K (.ref C) "__init__" = some (some (.ref fI))) (tI : PySem.W.typeIn X.K (.ref fI) = some (.type "function"))
    (F1 : FnOk X.prog X.w X.K X.mg X.base CX k fI fd ps (spI C fs)) (hr : Room (k + 1) X.A) (hb : Binds X.K fd ps []) (hx : Passes CX X (fun _ _ _ => False)) (hfs : fs.length ≤ 1000) (hg : Gl X x) (hm : X.mg x = some (.ref C)) (ha : PA X (e :: es) ta)
    (hdb : (x == ("__debug__" : Str)) = false := by decide) (he : starEach (e :: es) X.env = (false, eval e X.env) :: starEach es X.env := by rfl) (hpl : (backTo pos (starEach es X.env)).any (·.1) = false := by rfl) :
    L2N.PMk X (.Call (.Name x p) (e :: es) [] pos) (tErr C fs ta) := by
  intro pins s σ H Q I h
  obtain ⟨nm, q, N, bs, bm, sn, sub, ab, col, dd, k0, k1, k2, k3, k5, hC, hbm⟩ := T.cls
  refine wpAny_Call_Name_kw (ld_glob I hg hm ?_ hdb)
  refine PySem.W.callWith_K (h₀ := X.base) I.ok.mod.kin T.kC (thn (ha.run pos pins s σ H _ I h) fun us s1 ⟨vs, H1, I1, r1, hz, q1⟩ => ⟨I1.kIn, ?_⟩) he hpl
  show wpAny _ _ (call (.ref C) us) _ _ _
  obtain ⟨hp, g, dr, tk, os⟩ := s1
  have hsz : hp.objs.size ≤ hp.objs.size + 1 := Nat.le_succ _
  have hn : H1 (hp.objs.size + 1) = none := I1.hok.fresh hsz
  have kk : ∀ b o, hp.get? b = some o → ((hp.push (PySem.W.kdv_tup us)).push (PySem.HandSPX.excO C hp.objs.size)).get? b = some o := fun b o e => Heap.get?_push_of_some _ (Heap.get?_push_of_some _ e)
  have hget : ((hp.push (PySem.W.kdv_tup us)).push (PySem.HandSPX.excO C hp.objs.size)).get? (hp.objs.size + 1) = some (PySem.HandSPX.excO C hp.objs.size) := by heap_get
  have I2 : Inv X pins σ (upd H1 (hp.objs.size + 1) (exo (hp.objs.size + 1) C none)) ⟨(hp.push (PySem.W.kdv_tup us)).push (PySem.HandSPX.excO C hp.objs.size), g, dr, tk, os⟩ :=
    I1.laid (t' := tk) (a := hp.objs.size + 1) (o := exo (hp.objs.size + 1) C none) (h' := (hp.push (PySem.W.kdv_tup us)).push (PySem.HandSPX.excO C hp.objs.size)) kk hsz (exo_ok hget)
  have r2 : Vals (V.ref (hp.objs.size + 1) :: vs) (Value.ref (hp.objs.size + 1) :: us) := .cons rfl r1
  -- what __init__ promises, and what is left
  have hq : spI C fs (V.ref (hp.objs.size + 1) :: vs) (upd H1 (hp.objs.size + 1) (exo (hp.objs.size + 1) C none)) (fun v H2 => v = .non ∧ ∃ d, H2 (hp.objs.size + 1) = some (exo (hp.objs.size + 1) C (some d)) ∧ H2 d = some (exd d (fs.zip vs).reverse) ∧ H1 d = none ∧ Q (.ref C) (some d) (upd (del H2 (hp.objs.size + 1)) d (.xd (fs.zip vs).reverse))) (fun _ _ _ => False) := by
    refine ⟨_, vs, rfl, hz, upd_same, fun dx H' hd hne e1 e2 e3 => ⟨rfl, dx, e1, e2, ?_, ?_⟩⟩
    · rw [upd_ne hne] at hd; exact hd
    · have hd1 : H1 dx = none := by rw [upd_ne hne] at hd; exact hd
      have : upd (del H' (hp.objs.size + 1)) dx (.xd (fs.zip vs).reverse) = upd H1 dx (.xd (fs.zip vs).reverse) := by
        funext b
        by_cases hb : b = dx
        · rw [hb, upd_same, upd_same]
        · rw [upd_ne hb, upd_ne hb]
          by_cases hba : b = hp.objs.size + 1
          · rw [hba, del_same, hn]
          · rw [del_ne hba, e3 b hba hb, upd_ne hba]
      rw [this]
      exact q1 dx hd1
  have hl : (Value.ref (hp.objs.size + 1) :: us ++ []).length = ps.length := by
    have e := r2.length
    rw [F1.len _ _ _ _ hq] at e
    rw [List.append_nil]
    exact e.symm
  have hus : us.length ≤ sizeLine := by
    rw [← Paired.length r1, sizeLine_eq]
    omega
  have bd := hb ⟨(hp.push (PySem.W.kdv_tup us)).push (PySem.HandSPX.excO C hp.objs.size), g, dr, tk, os⟩ (Value.ref (hp.objs.size + 1) :: us) I2.kIn hl
  rw [List.append_nil] at bd
  refine wpAny_call (PySem.HandSPX.call_own F.excBase_ValueError (fun Y => PySem.HandSPX.refsVE_contains Y bm hbm) (I1.kIn _ _ hC) (PySem.W.looks_findIn I1.kIn iC) (fun self => PySem.W.bind_fn I1.kIn self tI) hus
    (codeAny_mono (F1.run _ X.stack _ _ ⟨Value.ref (hp.objs.size + 1) :: us, []⟩ (Value.ref (hp.objs.size + 1) :: us) _ _ (fun _ _ _ => False) (hr.make C us []) (I2.env0.make C us []) bd r2 hq) fun r s' hq' => ?_))
  cases r with
  | error er => exact hx pins σ _ _ er s' I2 hq'
  | ok fl =>
    cases fl with
    | ret u =>
      obtain ⟨v, H2, os2, bare2, un2, hok2, rv, ev, d, ea, ed, hd1, q2⟩ := hq'
      subst ev
      obtain ⟨h2, g2, d2, t2, os'⟩ := s'
      obtain ⟨t0, G, J, kG, ge, hoe, na⟩ := mk_end0 (d2 := d2) (t2 := t2) I1 hsz kk un2 hok2 os2 bare2 ea ed hd1
      exact ⟨rv, _, _, _, ⟨G, g2, d2, t2, os'⟩, _, .ref C, some d, rfl, J, kG, ge, hoe, ⟨rfl, rfl, fun vs e => by cases e; rfl⟩, rfl, rfl, na, rfl, bare2, raises_own T.exC T.tyC, q2⟩
    | next => exact False.elim hq'
    | brk => exact False.elim hq'
    | cont => exact False.elim hq'
end
theorem takes0N {X : Cx} : L2N.Takes X (fun _ _ _ _ => False) := fun _ _ x => by
  obtain ⟨_, _, _, _, _, _, _, _, _, _, _, _, _, _, _, _, z⟩ := x
  exact z.elim
theorem passesN {X : Cx} : Passes (L2N.CX X.prog X.w) X (fun _ _ _ => False) := fun _ _ _ _ _ _ _ h => by
  obtain ⟨_, _, _, _, _, _, _, _, _, _, _, _, z⟩ := h
  exact z.elim
/-! ### defs -/
section
variable {P : Program} {w : World} {K : PySem.W.Frag} {mg : Str → Option Value} {base : Heap}
theorem Fun.okN {CX : CXT} {x qual : Str} {st : Stmt} {f : Addr} {fd : FuncData} {N ps : List Str} {k : Nat} {sp : Sp} (F : Fun K x qual st f fd) (S : FnScope N ps (defScope st)) (len : ∀ vs H Q E, sp vs H Q E → vs.length = ps.length)
    (hbody : ∀ (cdv : Value) (A : Around) (outer : List PySem.Env) (s : Shared) (H : Hp) (vs : List V) (Q : VK) (E : XK), Room k (A.deeper (envOfC qual (defScope st) s.heap.objs.size f cdv)) → sp vs H Q E →
      ∃ t, PSs (cxOf CX P w K mg base N qual (defScope st) f cdv A outer s H E) (defBody st) t ∧ t { nx := fun _ H' => Q .non H', rt := Q } (start N vs) H) : FnOk P w K mg base CX (k + 1) f fd ps sp := by
  obtain ⟨oc, od, kV, doc, pm, an, cdv, ct, osl, rfl, lk, hcd⟩ := F.ex
  exact fn_of lk hcd S len fun A outer s H vs Q E hr hsp => hbody cdv A outer s H vs Q E hr hsp
theorem Fun.okH {CX : CXT} {x qual : Str} {st : Stmt} {f : Addr} {fd : FuncData} {N ps : List Str} {k : Nat} {sp : Sp} (F : Fun K x qual st f fd) (S : FnScope N ps (defScope st)) (len : ∀ vs H Q E, sp vs H Q E → vs.length = ps.length)
    (hbody : ∀ (cdv : Value) (A : Around) (outer : List PySem.Env) (s : Shared) (H : Hp) (vs : List V) (Q : VK) (E : XK) (p : Addr × Obj), L2H.Hot1 A p → L2H.RoomH k (A.deeper (envOfC qual (defScope st) s.heap.objs.size f cdv)) → sp vs H Q E →
      ∃ t, PSs (L2H.cxH CX P w K mg base N qual (defScope st) f cdv A outer s H E p) (defBody st) t ∧ t { nx := fun _ H' => Q .non H', rt := Q } (start N vs) H) : L2H.FnH P w K mg base CX (k + 1) f fd ps sp := by
  obtain ⟨oc, od, kV, doc, pm, an, cdv, ct, osl, rfl, lk, hcd⟩ := F.ex
  exact L2H.fn_ofH lk hcd S len fun A outer s H vs Q E p hot hr hsp => hbody cdv A outer s H vs Q E p hot hr hsp
end
end Q


namespace Q
open PySem L2
/-- the written part, and the classes by name -/
structure KC where
  F : PySem.W.Frag
  cv : Nat → Value
  wt : List V → Prop
instance : Coe KC PySem.W.Frag := ⟨KC.F⟩
/-! ### what is kept -/
structure Kp (ps : Addr → Prop) (H H' : Hp) : Prop where
  get : ∀ b o, ¬ ps b → H b = some o → H' b = some o
  dom : ∀ b, H' b = none → H b = none
section
variable {ps qs : Addr → Prop} {H H1 H2 : Hp} {p : Addr} {o : HO}
theorem upd_none {b : Addr} (h : upd H p o b = none) : H b = none ∧ b ≠ p := by
  by_cases e : b = p
  · subst e; rw [upd_same] at h; cases h
  · rw [upd_ne e] at h; exact ⟨h, e⟩
theorem Kp.refl : Kp ps H H := ⟨fun _ _ _ h => h, fun _ h => h⟩
theorem Kp.trans (a : Kp ps H H1) (b : Kp ps H1 H2) : Kp ps H H2 := ⟨fun c o n h => b.get c o n (a.get c o n h), fun c h => a.dom c (b.dom c h)⟩
theorem Kp.new (h : H p = none) : Kp ps H (upd H p o) := ⟨fun b u _ e => by rw [upd_ne (ne_of_none e h)]; exact e, fun b e => (upd_none e).1⟩
theorem Kp.mut (h : ps p) : Kp ps H (upd H p o) := ⟨fun b u n e => by
  have hb : b ≠ p := fun z => by subst z; exact n h
  rw [upd_ne hb]; exact e, fun b e => (upd_none e).1⟩
theorem Kp.more (a : Kp ps H H1) (h : ∀ x, ps x → qs x) : Kp qs H H1 := ⟨fun b u n e => a.get b u (fun z => n (h b z)) e, a.dom⟩
/-- an object that was made since may change -/
theorem Kp.loc (a : Kp ps H H1) (h : ps p ∨ H p = none) : Kp ps H (upd H1 p o) := ⟨fun b u n e => by
  have hb : b ≠ p := fun z => by
    subst z
    rcases h with h | h
    · exact n h
    · rw [h] at e; cases e
  rw [upd_ne hb]; exact a.get b u n e, fun b e => a.dom b (upd_none e).1⟩
end
/-! ### data -/
/-- plain data; lst: a list that stays; mls: a list that one slot alone has; rol: a list that is read only; al: what slot i has -/
inductive D where
  | non | bl (b : Bool) | int (i : Int) | str (s : Str) | cst (v : V)
  | tup (ds : List D) | lst (ds : List D) | rol (ds : List D) | mls (ds : List D) | al (i : Nat)
  | dct (ks : List Key) (ds : List D) | mdc (ks : List Key) (ds : List D) | dtt (ks : List (List Key)) (ds : List D) | mdt (ks : List (List Key)) (ds : List D)
  | xdt (fs : List Str) (ds : List D) | obj (c : Nat) (fs : List Str) (ds : List D) | mob (c : Nat) (fs : List Str) (ds : List D)
structure Xc where
  cls : Nat
  fs : List Str
  ds : List D
def TupAt (K : KC) (ps : Addr → Prop) (H : Hp) (a : Addr) (xs : List V) : Prop :=
  (H a = some (.tup xs) ∧ ¬ ps a) ∨ K.wt xs ∧ ∃ (o : Obj) (its : Array Value) (n : Nat), K.F.lookup a = some o ∧ o.cls = .type "tuple" ∧ o.data = .seq its n ∧ its.size ≤ sizeLine ∧ Vals xs its.toList
theorem TupAt.sq {K : KC} {ps : Addr → Prop} {H : Hp} {a : Addr} {xs : List V} (h : TupAt K ps H a xs) : SqT K H a xs := by
  rcases h with ⟨h, _⟩ | ⟨_, h⟩
  · exact .inl (.inl h)
  · exact .inr h
/-- a list that is read only: locked or written -/
def RolAt (K : KC) (ps : Addr → Prop) (H : Hp) (a : Addr) (xs : List V) : Prop :=
  (Rd H a (.lst xs) ∧ ¬ ps a) ∨ ∃ (o : Obj) (its : Array Value) (n : Nat), K.F.lookup a = some o ∧ o.cls = .type "list" ∧ o.dict = none ∧ o.data = .seq its n ∧ its.size ≤ sizeLine ∧ Vals xs its.toList
theorem RolAt.sq {K : KC} {ps : Addr → Prop} {H : Hp} {a : Addr} {xs : List V} (h : RolAt K ps H a xs) : SqL K H a xs := by
  rcases h with ⟨h, _⟩ | h
  · exact .inl h
  · exact .inr h
inductive Dt (K : KC) (ps : Addr → Prop) (H : Hp) : V → D → Prop
  | non : Dt K ps H .non .non
  | bl (b : Bool) : Dt K ps H (.bl b) (.bl b)
  | int (i : Int) : Dt K ps H (.int i) (.int i)
  | str (x : Str) : Dt K ps H (.str x) (.str x)
  | cst (v : V) : Dt K ps H v (.cst v)
  | lst {a : Addr} {xs : List V} {ds : List D} : H a = some (.lst xs) → ¬ ps a → xs.length = ds.length → (∀ (i : Nat) x d, xs[i]? = some x → ds[i]? = some d → Dt K ps H x d) → Dt K ps H (.ref a) (.lst ds)
  | rol {a : Addr} {xs : List V} {ds : List D} : RolAt K ps H a xs → xs.length = ds.length → (∀ (i : Nat) x d, xs[i]? = some x → ds[i]? = some d → Dt K ps H x d) → Dt K ps H (.ref a) (.rol ds)
  | tup {a : Addr} {xs : List V} {ds : List D} : TupAt K ps H a xs → xs.length = ds.length → (∀ (i : Nat) x d, xs[i]? = some x → ds[i]? = some d → Dt K ps H x d) → Dt K ps H (.ref a) (.tup ds)
  | dct {a : Addr} {ks : List Key} {xs : List V} {ds : List D} : Rd H a (.dK (ks.zip xs)) → ¬ ps a → ks.length = ds.length → xs.length = ds.length → (∀ (i : Nat) x d, xs[i]? = some x → ds[i]? = some d → Dt K ps H x d) → Dt K ps H (.ref a) (.dct ks ds)
  | dtt {a : Addr} {ks : List (List Key)} {xs : List V} {ds : List D} : Rd H a (.dT (ks.zip xs)) → ¬ ps a → ks.length = ds.length → xs.length = ds.length → (∀ (i : Nat) x d, xs[i]? = some x → ds[i]? = some d → Dt K ps H x d) → Dt K ps H (.ref a) (.dtt ks ds)
  | xdt {a : Addr} {fs : List Str} {xs : List V} {ds : List D} : H a = some (.xd (fs.zip xs)) → ¬ ps a → fs.length = ds.length → xs.length = ds.length → (∀ (i : Nat) x d, xs[i]? = some x → ds[i]? = some d → Dt K ps H x d) → Dt K ps H (.ref a) (.xdt fs ds)
  | obj {a C dx : Addr} {c : Nat} {fs : List Str} {xs : List V} {ds : List D} : H a = some (.ins C dx (fs.zip xs)) → ¬ ps a → K.cv c = .ref C → fs.length = ds.length → xs.length = ds.length → (∀ (i : Nat) x d, xs[i]? = some x → ds[i]? = some d → Dt K ps H x d) → Dt K ps H (.ref a) (.obj c fs ds)
def DtA (K : KC) (ps : Addr → Prop) (H : Hp) (xs : List V) (ds : List D) : Prop := xs.length = ds.length ∧ ∀ (i : Nat) x d, xs[i]? = some x → ds[i]? = some d → Dt K ps H x d
section
variable {K : KC} {ps qs : Addr → Prop} {H H1 H2 : Hp} {p q a : Addr} {o : HO} {v x : V} {d e : D} {xs ys : List V} {ds es : List D}
theorem Dt.move (h : Dt K ps H v d) (k : Kp ps H H1) (hq : ∀ a, qs a → ps a ∨ H a = none) : Dt K qs H1 v d := by
  induction h with
  | non => exact .non
  | bl b => exact .bl b
  | int i => exact .int i
  | str x => exact .str x
  | cst v => exact .cst v
  | lst h1 h2 h3 h4 ih =>
    refine .lst (k.get _ _ h2 h1) (fun z => ?_) h3 ih
    rcases hq _ z with z | z
    · exact h2 z
    · rw [h1] at z; cases z
  | rol h1 h3 h4 ih =>
    refine .rol ?_ h3 ih
    rcases h1 with ⟨h1, h2⟩ | h1
    · refine .inl ⟨?_, fun z => ?_⟩
      · rcases h1 with h1 | ⟨ob, h1⟩
        · exact .inl (k.get _ _ h2 h1)
        · exact .inr ⟨ob, k.get _ _ h2 h1⟩
      · rcases hq _ z with z | z
        · exact h2 z
        · rcases h1 with h1 | ⟨ob, h1⟩ <;> (rw [h1] at z; cases z)
    · exact .inr h1
  | tup h1 h3 h4 ih =>
    refine .tup ?_ h3 ih
    rcases h1 with ⟨h1, h2⟩ | h1
    · refine .inl ⟨k.get _ _ h2 h1, fun z => ?_⟩
      rcases hq _ z with z | z
      · exact h2 z
      · rw [h1] at z; cases z
    · exact .inr h1
  | dct h1 h2 h3 h5 h4 ih =>
    refine .dct ?_ (fun z => ?_) h3 h5 ih
    · rcases h1 with h1 | ⟨ob, h1⟩
      · exact .inl (k.get _ _ h2 h1)
      · exact .inr ⟨ob, k.get _ _ h2 h1⟩
    · rcases hq _ z with z | z
      · exact h2 z
      · rcases h1 with h1 | ⟨ob, h1⟩ <;> (rw [h1] at z; cases z)
  | dtt h1 h2 h3 h5 h4 ih =>
    refine .dtt ?_ (fun z => ?_) h3 h5 ih
    · rcases h1 with h1 | ⟨ob, h1⟩
      · exact .inl (k.get _ _ h2 h1)
      · exact .inr ⟨ob, k.get _ _ h2 h1⟩
    · rcases hq _ z with z | z
      · exact h2 z
      · rcases h1 with h1 | ⟨ob, h1⟩ <;> (rw [h1] at z; cases z)
  | xdt h1 h2 h3 h5 h4 ih =>
    refine .xdt (k.get _ _ h2 h1) (fun z => ?_) h3 h5 ih
    rcases hq _ z with z | z
    · exact h2 z
    · rw [h1] at z; cases z
  | obj h1 h2 h6 h3 h5 h4 ih =>
    refine .obj (k.get _ _ h2 h1) (fun z => ?_) h6 h3 h5 ih
    rcases hq _ z with z | z
    · exact h2 z
    · rw [h1] at z; cases z
theorem DtA.move (h : DtA K ps H xs ds) (k : Kp ps H H1) (hq : ∀ a, qs a → ps a ∨ H a = none) : DtA K qs H1 xs ds := ⟨h.1, fun i x d e1 e2 => (h.2 i x d e1 e2).move k hq⟩
theorem DtA.nil : DtA K ps H [] [] := ⟨rfl, fun i x d e => by simp at e⟩
theorem DtA.cons (h : Dt K ps H x d) (t : DtA K ps H xs ds) : DtA K ps H (x :: xs) (d :: ds) := ⟨by simp [t.1], fun i y f e1 e2 => by
  cases i with
  | zero => simp at e1 e2; subst e1 e2; exact h
  | succ i => simp at e1 e2; exact t.2 i y f e1 e2⟩
theorem DtA.append (h : DtA K ps H xs ds) (t : DtA K ps H ys es) : DtA K ps H (xs ++ ys) (ds ++ es) := ⟨by simp [h.1, t.1], fun i y f e1 e2 => by
  have hl := h.1
  by_cases hi : i < xs.length
  · rw [List.getElem?_append_left hi] at e1
    rw [List.getElem?_append_left (by omega)] at e2
    exact h.2 i y f e1 e2
  · rw [List.getElem?_append_right (by omega)] at e1
    rw [List.getElem?_append_right (by omega), ← hl] at e2
    exact t.2 _ y f e1 e2⟩
theorem DtA.snoc (h : DtA K ps H xs ds) (t : Dt K ps H x d) : DtA K ps H (xs ++ [x]) (ds ++ [d]) := h.append (.cons t .nil)
theorem DtA.take (h : DtA K ps H xs ds) (n : Nat) : DtA K ps H (xs.take n) (ds.take n) := ⟨by simp [h.1], fun i y f e1 e2 => by
  rw [List.getElem?_take] at e1 e2
  split at e1
  · rename_i c; rw [if_pos c] at e2; exact h.2 i y f e1 e2
  · cases e1⟩
theorem DtA.drop (h : DtA K ps H xs ds) (n : Nat) : DtA K ps H (xs.drop n) (ds.drop n) := ⟨by simp [h.1], fun i y f e1 e2 => by
  rw [List.getElem?_drop] at e1 e2; exact h.2 _ y f e1 e2⟩
theorem DtA.set (h : DtA K ps H xs ds) (t : Dt K ps H x d) (n : Nat) : DtA K ps H (xs.set n x) (ds.set n d) := ⟨by simp [h.1], fun i y f e1 e2 => by
  rw [List.getElem?_set] at e1 e2
  have hl := h.1
  split at e1
  · rename_i c
    rw [if_pos c] at e2
    split at e1
    · split at e2
      · cases e1; cases e2; exact t
      · cases e2
    · cases e1
  · rename_i c
    rw [if_neg c] at e2
    exact h.2 i y f e1 e2⟩
theorem DtA.get (h : DtA K ps H xs ds) {i : Nat} (e : ds[i]? = some d) : ∃ x, xs[i]? = some x ∧ Dt K ps H x d := by
  have hi : i < xs.length := by rw [h.1]; exact (List.getElem?_eq_some_iff.mp e).1
  exact ⟨xs[i], by simp [hi], h.2 i _ _ (by simp [hi]) e⟩
theorem DtA.get' (h : DtA K ps H xs ds) {i : Nat} (e : xs[i]? = some x) : ∃ d, ds[i]? = some d ∧ Dt K ps H x d := by
  have hi : i < ds.length := by rw [← h.1]; exact (List.getElem?_eq_some_iff.mp e).1
  exact ⟨ds[i], by simp [hi], h.2 i _ _ e (by simp [hi])⟩
theorem DtA.flat (m : Nat) (h : DtA K ps H xs ds) : DtA K ps H (List.replicate m xs).flatten (List.replicate m ds).flatten := by
  induction m with
  | zero => exact .nil
  | succ m ih => simp only [List.replicate_succ, List.flatten_cons]; exact h.append ih
theorem Dt.inv_lst (h : Dt K ps H v (.lst ds)) : (∃ a xs, v = .ref a ∧ H a = some (.lst xs) ∧ ¬ ps a ∧ DtA K ps H xs ds) := by
  cases h with
  | lst h1 h2 h3 h4 => exact ⟨_, _, rfl, h1, h2, h3, h4⟩
theorem Dt.inv_rol (h : Dt K ps H v (.rol ds)) : (∃ a xs, v = .ref a ∧ RolAt K ps H a xs ∧ DtA K ps H xs ds) := by
  cases h with
  | rol h1 h3 h4 => exact ⟨_, _, rfl, h1, h3, h4⟩
theorem Dt.inv_tup (h : Dt K ps H v (.tup ds)) : ∃ a xs, v = .ref a ∧ TupAt K ps H a xs ∧ DtA K ps H xs ds := by
  cases h with
  | tup h1 h3 h4 => exact ⟨_, _, rfl, h1, h3, h4⟩
theorem Dt.inv_dct {ks : List Key} (h : Dt K ps H v (.dct ks ds)) : ∃ a xs, v = .ref a ∧ Rd H a (.dK (ks.zip xs)) ∧ ks.length = ds.length ∧ DtA K ps H xs ds := by
  cases h with
  | dct h1 h2 h3 h5 h4 => exact ⟨_, _, rfl, h1, h3, h5, h4⟩
theorem Dt.inv_dtt {ks : List (List Key)} (h : Dt K ps H v (.dtt ks ds)) : ∃ a xs, v = .ref a ∧ Rd H a (.dT (ks.zip xs)) ∧ ks.length = ds.length ∧ DtA K ps H xs ds := by
  cases h with
  | dtt h1 h2 h3 h5 h4 => exact ⟨_, _, rfl, h1, h3, h5, h4⟩
theorem Dt.inv_xdt {fs : List Str} (h : Dt K ps H v (.xdt fs ds)) : ∃ a xs, v = .ref a ∧ H a = some (.xd (fs.zip xs)) ∧ fs.length = ds.length ∧ DtA K ps H xs ds := by
  cases h with
  | xdt h1 h2 h3 h5 h4 => exact ⟨_, _, rfl, h1, h3, h5, h4⟩
theorem Dt.inv_obj {c : Nat} {fs : List Str} (h : Dt K ps H v (.obj c fs ds)) : ∃ a C dx xs, v = .ref a ∧ H a = some (.ins C dx (fs.zip xs)) ∧ K.cv c = .ref C ∧ fs.length = ds.length ∧ DtA K ps H xs ds := by
  cases h with
  | obj h1 h2 h6 h3 h5 h4 => exact ⟨_, _, _, _, rfl, h1, h6, h3, h5, h4⟩
theorem Dt.no_mdc {ks : List Key} (h : Dt K ps H v (.mdc ks ds)) : False := by cases h
theorem Dt.no_mob {c : Nat} {fs : List Str} (h : Dt K ps H v (.mob c fs ds)) : False := by cases h
theorem Dt.no_mdt {ks : List (List Key)} (h : Dt K ps H v (.mdt ks ds)) : False := by cases h
theorem Dt.inv_int {i : Int} (h : Dt K ps H v (.int i)) : v = .int i := by cases h; rfl
theorem Dt.inv_str {z : Str} (h : Dt K ps H v (.str z)) : v = .str z := by cases h; rfl
theorem Dt.inv_bl {b : Bool} (h : Dt K ps H v (.bl b)) : v = .bl b := by cases h; rfl
theorem Dt.inv_non (h : Dt K ps H v .non) : v = .non := by cases h; rfl
theorem Dt.inv_cst {c : V} (h : Dt K ps H v (.cst c)) : v = c := by cases h; rfl
theorem Dt.no_mls (h : Dt K ps H v (.mls ds)) : False := by cases h
theorem Dt.no_al {k : Nat} (h : Dt K ps H v (.al k)) : False := by cases h
theorem Dt.lstA (h : H a = some (.lst xs)) (n : ¬ ps a) (k : DtA K ps H xs ds) : Dt K ps H (.ref a) (.lst ds) := .lst h n k.1 k.2
theorem Dt.tupA (h : H a = some (.tup xs)) (n : ¬ ps a) (k : DtA K ps H xs ds) : Dt K ps H (.ref a) (.tup ds) := .tup (.inl ⟨h, n⟩) k.1 k.2
theorem DtA.ints_eq : ∀ {xs : List V} {ns : List Int}, DtA K ps H xs (ns.map D.int) → xs = ns.map V.int
  | [], [], _ => rfl
  | [], n :: ns, h => by have := h.1; simp at this
  | x :: xs, [], h => by have := h.1; simp at this
  | x :: xs, n :: ns, h => by
    have h1 := h.2 0 x (.int n) rfl rfl
    have h2 : DtA K ps H xs (ns.map D.int) := ⟨by have := h.1; simpa using this, fun i y f e1 e2 => h.2 (i + 1) y f (by simpa using e1) (by simpa using e2)⟩
    cases h1
    rw [DtA.ints_eq h2]; rfl
theorem DtA.ints (ns : List Int) : DtA K ps H (ns.map V.int) (ns.map D.int) := ⟨by simp, fun i x d e1 e2 => by
  rw [List.getElem?_map] at e1 e2
  cases e : ns[i]? with
  | none => rw [e] at e1; cases e1
  | some z => rw [e] at e1 e2; cases e1; cases e2; exact .int z⟩
/-! ### what is owned -/
inductive Ow (K : KC) (ps : Addr → Prop) (H : Hp) : V → D → (Addr → Prop) → Prop
  | fz {v : V} {d : D} {S : Addr → Prop} : Dt K ps H v d → (∀ b, ¬ S b) → Ow K ps H v d S
  | mls {a : Addr} {xs : List V} {ds : List D} {S : Addr → Prop} : H a = some (.lst xs) → DtA K ps H xs ds → (∀ b, S b ↔ b = a) → Ow K ps H (.ref a) (.mls ds) S
  | mdc {a : Addr} {ks : List Key} {xs : List V} {ds : List D} {S : Addr → Prop} : H a = some (.dK (ks.zip xs)) → ks.length = ds.length → DtA K ps H xs ds → (∀ b, S b ↔ b = a) → Ow K ps H (.ref a) (.mdc ks ds) S
  | mdt {a : Addr} {ks : List (List Key)} {xs : List V} {ds : List D} {S : Addr → Prop} : H a = some (.dT (ks.zip xs)) → ks.length = ds.length → DtA K ps H xs ds → (∀ b, S b ↔ b = a) → Ow K ps H (.ref a) (.mdt ks ds) S
  | mob {a C dx : Addr} {c : Nat} {fs : List Str} {xs : List V} {ds : List D} {S : Addr → Prop} : H a = some (.ins C dx (fs.zip xs)) → K.cv c = .ref C → fs.length = ds.length → DtA K ps H xs ds → (∀ b, S b ↔ b = a) → Ow K ps H (.ref a) (.mob c fs ds) S
theorem Ow.move {S : Addr → Prop} (h : Ow K ps H v d S) (k : Kp ps H H1) (hq : ∀ a, qs a → ps a ∨ H a = none) (hs : ∀ a, S a → H1 a = H a) : Ow K qs H1 v d S := by
  cases h with
  | fz h n => exact .fz (h.move k hq) n
  | mls h1 h2 h3 => exact .mls (by rw [hs _ ((h3 _).mpr rfl)]; exact h1) (h2.move k hq) h3
  | mdc h1 h4 h2 h3 => exact .mdc (by rw [hs _ ((h3 _).mpr rfl)]; exact h1) h4 (h2.move k hq) h3
  | mdt h1 h4 h2 h3 => exact .mdt (by rw [hs _ ((h3 _).mpr rfl)]; exact h1) h4 (h2.move k hq) h3
  | mob h1 h5 h4 h2 h3 => exact .mob (by rw [hs _ ((h3 _).mpr rfl)]; exact h1) h5 h4 (h2.move k hq) h3
theorem Ow.trk {S : Addr → Prop} (h : Ow K ps H v d S) (hb : S a) : H a ≠ none := by
  cases h with
  | fz h n => exact absurd hb (n _)
  | mls h1 h2 h3 => rw [(h3 _).mp hb, h1]; simp
  | mdc h1 h4 h2 h3 => rw [(h3 _).mp hb, h1]; simp
  | mdt h1 h4 h2 h3 => rw [(h3 _).mp hb, h1]; simp
  | mob h1 h5 h4 h2 h3 => rw [(h3 _).mp hb, h1]; simp
def isFz : D → Bool | .mls _ => false | .mdc _ _ => false | .mdt _ _ => false | .mob _ _ _ => false | .al _ => false | _ => true
def isAl : D → Bool | .al _ => true | _ => false
def frz : D → D | .mls ds => .lst ds | .mdc ks ds => .dct ks ds | .mdt ks ds => .dtt ks ds | .mob c fs ds => .obj c fs ds | d => d
theorem Ow.noAl {S : Addr → Prop} (h : Ow K ps H v d S) : isAl d = false := by
  cases h with
  | fz h n => cases h <;> rfl
  | mls _ _ _ => rfl
  | mdc _ _ _ _ => rfl
  | mdt _ _ _ _ => rfl
  | mob _ _ _ _ _ => rfl
theorem Ow.dt {S : Addr → Prop} (h : Ow K ps H v d S) (f : isFz d = true) : Dt K ps H v d := by
  cases h with
  | fz h n => exact h
  | mls _ _ _ => cases f
  | mdc _ _ _ _ => cases f
  | mdt _ _ _ _ => cases f
  | mob _ _ _ _ _ => cases f
theorem Ow.emp {S : Addr → Prop} (h : Ow K ps H v d S) (f : isFz d = true) : ∀ b, ¬ S b := by
  cases h with
  | fz h n => exact n
  | mls _ _ _ => cases f
  | mdc _ _ _ _ => cases f
  | mdt _ _ _ _ => cases f
  | mob _ _ _ _ _ => cases f
/-- given up, it is data for all that keep off -/
theorem Ow.frz {S : Addr → Prop} (h : Ow K ps H v d S) (hq : ∀ a, qs a → ps a ∧ ¬ S a) : Dt K qs H v (frz d) := by
  cases h with
  | fz h n =>
    have : Q.frz d = d := by cases h <;> rfl
    rw [this]
    exact h.move .refl fun a z => .inl (hq a z).1
  | mls h1 h2 h3 => exact .lstA h1 (fun z => (hq _ z).2 ((h3 _).mpr rfl)) (h2.move .refl fun a z => .inl (hq a z).1)
  | mdc h1 h4 h2 h3 => exact .dct (.inl h1) (fun z => (hq _ z).2 ((h3 _).mpr rfl)) h4 h2.1 (h2.move .refl fun a z => .inl (hq a z).1).2
  | mdt h1 h4 h2 h3 => exact .dtt (.inl h1) (fun z => (hq _ z).2 ((h3 _).mpr rfl)) h4 h2.1 (h2.move .refl fun a z => .inl (hq a z).1).2
  | mob h1 h5 h4 h2 h3 => exact .obj h1 (fun z => (hq _ z).2 ((h3 _).mpr rfl)) h5 h4 h2.1 (h2.move .refl fun a z => .inl (hq a z).1).2
theorem Ow.iff {S T : Addr → Prop} (h : Ow K ps H v d S) (e : ∀ b, T b ↔ S b) : Ow K ps H v d T := by
  cases h with
  | fz h n => exact .fz h fun b z => n b ((e b).mp z)
  | mls h1 h2 h3 => exact .mls h1 h2 fun b => (e b).trans (h3 b)
  | mdc h1 h4 h2 h3 => exact .mdc h1 h4 h2 fun b => (e b).trans (h3 b)
  | mdt h1 h4 h2 h3 => exact .mdt h1 h4 h2 fun b => (e b).trans (h3 b)
  | mob h1 h5 h4 h2 h3 => exact .mob h1 h5 h4 h2 fun b => (e b).trans (h3 b)
end
/-! ### the state -/
abbrev Env := List (Option D)
/-- where a def stands: what is owned elsewhere (ps0), the heap at the entry, what it was lent -/
structure Bs where
  ps0 : Addr → Prop
  H0 : Hp
  S0 : Addr → Prop
structure Cn where
  K : KC
  W : WX
  A : Nat → Bool
  held : List (V × D)
  fx : St → Prop
abbrev Ix := Sum Nat Nat
def pset (B : Bs) (S : Ix → Addr → Prop) : Addr → Prop := fun a => B.ps0 a ∨ ∃ i, S i a
structure Good (C : Cn) (B : Bs) (σ0 : St) (H : Hp) (σ : St) (env : Env) (ts : List (V × D)) (S : Ix → Addr → Prop) : Prop where
  kp : Kp B.S0 B.H0 H
  fr : ∀ a, B.ps0 a → B.H0 a ≠ none ∧ ¬ B.S0 a
  sub : ∀ i a, S i a → (B.S0 a ∨ B.H0 a = none) ∧ ¬ B.ps0 a
  trk : ∀ i a, S i a → H a ≠ none
  dis : ∀ i j a, S i a → S j a → i = j
  len : σ.length = env.length
  keep : (∀ j, C.A j = false → σ[j]? = σ0[j]?) ∧ σ.length = σ0.length
  slot : ∀ (i : Nat) d, env[i]? = some (some d) → ∃ v, σ[i]? = some (some v) ∧ Ow C.K (pset B S) H v d (S (.inl i))
  tmp : ∀ (j : Nat) v d, ts[j]? = some (v, d) → (∃ k, d = .al k ∧ σ[k]? = some (some v)) ∨ Ow C.K (pset B S) H v d (S (.inr j))
  hld : ∀ p ∈ C.held, Dt C.K (pset B S) H p.1 p.2
  fx : C.fx σ0
def Rep (C : Cn) (B : Bs) (σ0 : St) (H : Hp) (σ : St) (env : Env) (ts : List (V × D)) : Prop := ∃ S, Good C B σ0 H σ env ts S
def su (S : Ix → Addr → Prop) (k : Ix) (s : Addr → Prop) : Ix → Addr → Prop := fun i a => (i = k ∧ s a) ∨ (i ≠ k ∧ S i a)
theorem su_same {S : Ix → Addr → Prop} {k : Ix} {s : Addr → Prop} {a : Addr} : su S k s k a ↔ s a := by simp [su]
theorem su_ne {S : Ix → Addr → Prop} {k i : Ix} {s : Addr → Prop} {a : Addr} (h : i ≠ k) : su S k s i a ↔ S i a := by simp [su, h]
section
variable {C : Cn} {B : Bs} {σ0 σ : St} {H H1 : Hp} {env env1 : Env} {ts ts1 : List (V × D)} {S : Ix → Addr → Prop} {v : V} {d : D}
theorem Good.ptrk (g : Good C B σ0 H σ env ts S) {a : Addr} (h : pset B S a) : H a ≠ none := by
  rcases h with h | ⟨i, h⟩
  · exact fun z => (g.fr a h).1 (g.kp.dom a z)
  · exact g.trk i a h
/-- cells at k are taken by s' : s' among those at k or new; all others stay -/
theorem Good.upd (g : Good C B σ0 H σ env ts S) (k : Ix) (s' : Addr → Prop) (hk : Kp (S k) H H1) (hs : ∀ a, s' a → (S k a ∨ H a = none) ∧ H1 a ≠ none) :
    Kp B.S0 B.H0 H1 ∧ (∀ i a, su S k s' i a → (B.S0 a ∨ B.H0 a = none) ∧ ¬ B.ps0 a) ∧ (∀ i a, su S k s' i a → H1 a ≠ none) ∧ (∀ i j a, su S k s' i a → su S k s' j a → i = j) ∧
    (∀ a, pset B (su S k s') a → pset B S a ∨ H a = none) ∧ Kp (pset B S) H H1 ∧ ∀ i v d, i ≠ k → Ow C.K (pset B S) H v d (S i) → Ow C.K (pset B (su S k s')) H1 v d (su S k s' i) := by
  have hp : ∀ a, pset B (su S k s') a → pset B S a ∨ H a = none := by
    rintro a (h | ⟨i, ⟨rfl, h⟩ | ⟨_, h⟩⟩)
    · exact .inl (.inl h)
    · rcases (hs a h).1 with h | h
      · exact .inl (.inr ⟨_, h⟩)
      · exact .inr h
    · exact .inl (.inr ⟨_, h⟩)
  have hkp : Kp (pset B S) H H1 := hk.more fun x z => .inr ⟨_, z⟩
  refine ⟨?_, ?_, ?_, ?_, hp, hkp, ?_⟩
  · refine ⟨fun b o n e => ?_, fun b e => g.kp.dom b (hk.dom b e)⟩
    have e1 := g.kp.get b o n e
    refine hk.get b o (fun z => ?_) e1
    rcases (g.sub k b z).1 with z | z
    · exact n z
    · rw [z] at e; cases e
  · rintro i a (⟨rfl, h⟩ | ⟨_, h⟩)
    · rcases (hs a h).1 with z | z
      · exact g.sub _ a z
      · exact ⟨.inr (g.kp.dom a z), fun w => (g.fr a w).1 (g.kp.dom a z)⟩
    · exact g.sub i a h
  · rintro i a (⟨rfl, h⟩ | ⟨hi, h⟩)
    · exact (hs a h).2
    · intro z
      exact g.trk i a h (hk.dom a z)
  · rintro i j a (⟨rfl, h⟩ | ⟨hi, h⟩) (⟨rfl, h'⟩ | ⟨hj, h'⟩)
    · rfl
    · rcases (hs a h).1 with z | z
      · exact g.dis _ _ a z h'
      · exact absurd z (g.trk j a h')
    · rcases (hs a h').1 with z | z
      · exact g.dis _ _ a h z
      · exact absurd z (g.trk i a h)
    · exact g.dis i j a h h'
  · intro i v d hi h
    refine (h.move hkp hp fun a z => ?_).iff fun b => su_ne hi
    have hn : ¬ S k a := fun w => hi (g.dis _ _ a z w)
    cases e : H a with
    | none => exact absurd e (g.trk i a z)
    | some o => exact hk.get a o hn e
/-- a temporary is set down at place n (all above it go) -/
theorem Good.push (g : Good C B σ0 H σ env ts S) (n : Nat) (hn : n ≤ ts.length) (s' : Addr → Prop) (hk : Kp (S (.inr n)) H H1) (hs : ∀ a, s' a → (S (.inr n) a ∨ H a = none) ∧ H1 a ≠ none)
    (ho : Ow C.K (pset B (su S (.inr n) s')) H1 v d s') : Good C B σ0 H1 σ env (ts.take n ++ [(v, d)]) (su S (.inr n) s') := by
  obtain ⟨a1, a2, a3, a4, a5, a6, a7⟩ := g.upd (.inr n) s' hk hs
  refine ⟨a1, g.fr, a2, a3, a4, g.len, g.keep, fun i d' e => ?_, fun j v' d' e => ?_, fun p hp => (g.hld p hp).move a6 a5, g.fx⟩
  · obtain ⟨v', h1, h2⟩ := g.slot i d' e
    exact ⟨v', h1, a7 (.inl i) v' d' (by simp) h2⟩
  · by_cases hj : j < n
    · rw [List.getElem?_append_left (by rw [List.length_take]; omega), List.getElem?_take, if_pos hj] at e
      rcases g.tmp j v' d' e with h | h
      · exact .inl h
      · exact .inr (a7 (.inr j) v' d' (by simp; omega) h)
    · have hl : (ts.take n).length = n := by rw [List.length_take]; omega
      rw [List.getElem?_append_right (by omega), hl] at e
      by_cases hj2 : j = n
      · subst hj2
        simp at e
        obtain ⟨rfl, rfl⟩ := e
        exact .inr (ho.iff fun b => su_same)
      · obtain ⟨m, hm⟩ : ∃ m, j - n = m + 1 := ⟨j - n - 1, by omega⟩
        rw [hm] at e
        simp at e
/-- slot k's own thing changes: s' among its cells or new -/
theorem Good.put (g : Good C B σ0 H σ env ts S) {k : Nat} {d0 : D} (he : env[k]? = some (some d0)) (hv : σ[k]? = some (some v)) (s' : Addr → Prop) (hk : Kp (S (.inl k)) H H1) (hs : ∀ a, s' a → (S (.inl k) a ∨ H a = none) ∧ H1 a ≠ none)
    (ho : Ow C.K (pset B (su S (.inl k) s')) H1 v d s') : Good C B σ0 H1 σ (env.set k (some d)) ts (su S (.inl k) s') := by
  obtain ⟨a1, a2, a3, a4, a5, a6, a7⟩ := g.upd (.inl k) s' hk hs
  have hkl : k < env.length := (List.getElem?_eq_some_iff.mp he).1
  refine ⟨a1, g.fr, a2, a3, a4, by rw [List.length_set]; exact g.len, g.keep, fun i d' e => ?_, fun j v' d' e => ?_, fun p hp => (g.hld p hp).move a6 a5, g.fx⟩
  · by_cases hi : i = k
    · subst hi
      rw [List.getElem?_set_self hkl] at e
      cases e
      exact ⟨v, hv, ho.iff fun b => su_same⟩
    · rw [List.getElem?_set_ne (Ne.symm hi)] at e
      obtain ⟨v', h1, h2⟩ := g.slot i d' e
      exact ⟨v', h1, a7 (.inl i) v' d' (by simp [hi]) h2⟩
  · rcases g.tmp j v' d' e with h | h
    · exact .inl h
    · exact .inr (a7 (.inr j) v' d' (by simp) h)
/-- temporaries above n go -/
theorem Rep.pop (r : Rep C B σ0 H σ env (ts ++ ts1)) : Rep C B σ0 H σ env ts := by
  obtain ⟨S, g⟩ := r
  refine ⟨S, g.kp, g.fr, g.sub, g.trk, g.dis, g.len, g.keep, g.slot, fun j v d e => g.tmp j v d ?_, g.hld, g.fx⟩
  have hj : j < ts.length := (List.getElem?_eq_some_iff.mp e).1
  rw [List.getElem?_append_left hj]; exact e
/-- what may be looked at -/
def Peek (K : KC) (ps : Addr → Prop) (H : Hp) (v : V) (d : D) : Prop := ∃ S, Ow K ps H v d S ∧ ∀ a, S a → ps a
def res (e : Env) : D → Option D
  | .al k => match e[k]? with
    | some (some d) => some d
    | _ => none
  | d => some d
theorem Good.look (g : Good C B σ0 H σ env ts S) {j : Nat} {v : V} {d d' : D} (e : ts[j]? = some (v, d)) (hr : res env d = some d') : Peek C.K (pset B S) H v d' := by
  rcases g.tmp j v d e with ⟨k, rfl, h2⟩ | h
  · simp only [res] at hr
    split at hr
    · rename_i d'' h3
      cases hr
      obtain ⟨v', e1, e2⟩ := g.slot k _ h3
      rw [h2] at e1; cases e1
      exact ⟨_, e2, fun a z => .inr ⟨_, z⟩⟩
    · cases hr
  · have hn := h.noAl
    have : res env d = some d := by cases d <;> first | rfl | cases hn
    rw [this] at hr; cases hr
    exact ⟨_, h, fun a z => .inr ⟨_, z⟩⟩
end
end Q


namespace Q
open PySem L2
/-! ### results -/
inductive Rs (α : Type) where
  | ok (a : α) (e : Env)
  | ex (x : Xc) (e : Env)
abbrev M (α : Type) := Env → Option (Rs α)
abbrev ME := M D
abbrev MA := M (List D)
abbrev MT := M Bool
def bnd {α β : Type} (r : Option (Rs α)) (f : α → Env → Option (Rs β)) : Option (Rs β) :=
  match r with
  | none => none
  | some (.ex x e) => some (.ex x e)
  | some (.ok a e) => f a e
theorem bnd_ok {α β : Type} {a : α} {e : Env} {f : α → Env → Option (Rs β)} : bnd (some (.ok a e)) f = f a e := rfl
theorem bnd_ex {α β : Type} {x : Xc} {e : Env} {f : α → Env → Option (Rs β)} : bnd (some (.ex x e)) f = some (.ex x e) := rfl
theorem bnd_none {α β : Type} {f : α → Env → Option (Rs β)} : bnd none f = none := rfl
theorem bnd_inv {α β : Type} {r : Option (Rs α)} {f : α → Env → Option (Rs β)} {z : Rs β} (h : bnd r f = some z) : (∃ x e, r = some (.ex x e) ∧ z = .ex x e) ∨ ∃ a e, r = some (.ok a e) ∧ f a e = some z := by
  unfold bnd at h
  split at h
  · cases h
  · cases h; exact .inl ⟨_, _, rfl, rfl⟩
  · exact .inr ⟨_, _, rfl, h⟩
/-- an exception's class and fields -/
def XOk (C : Cn) (ps : Addr → Prop) (H : Hp) (x : Xc) (c : Value) (o : Option Addr) : Prop :=
  c = C.K.cv x.cls ∧ ((o = none ∧ x.fs = []) ∨ ∃ d, o = some d ∧ Dt C.K ps H (.ref d) (.xdt x.fs x.ds))
def RepX (C : Cn) (B : Bs) (σ0 : St) (H : Hp) (σ : St) (env : Env) (ts : List (V × D)) (x : Xc) (c : Value) (o : Option Addr) : Prop := ∃ S, Good C B σ0 H σ env ts S ∧ XOk C (pset B S) H x c o
def XW (C : Cn) (B : Bs) (σ0 σ : St) (ts : List (V × D)) (x : Xc) (e : Env) : Prop := ∀ c o H', RepX C B σ0 H' σ e ts x c o → C.W c o σ H'
section
variable {C : Cn} {B : Bs} {σ0 σ : St} {H H1 : Hp} {env env1 : Env} {ts ts1 : List (V × D)} {S : Ix → Addr → Prop} {v : V} {d : D} {x : Xc} {c : Value} {o : Option Addr}
theorem Good.pop (g : Good C B σ0 H σ env (ts ++ ts1) S) : Good C B σ0 H σ env ts S :=
  ⟨g.kp, g.fr, g.sub, g.trk, g.dis, g.len, g.keep, g.slot, fun j v d e => g.tmp j v d (by
    have hj : j < ts.length := (List.getElem?_eq_some_iff.mp e).1
    rw [List.getElem?_append_left hj]; exact e), g.hld, g.fx⟩
theorem RepX.pop (r : RepX C B σ0 H σ env (ts ++ ts1) x c o) : RepX C B σ0 H σ env ts x c o := by
  obtain ⟨S, g, h⟩ := r
  exact ⟨S, g.pop, h⟩
theorem XW.push {e : Env} (h : XW C B σ0 σ ts x e) : XW C B σ0 σ (ts ++ ts1) x e := fun c o H' r => h c o H' r.pop
end
def EOk (C : Cn) (B : Bs) (σ0 σ : St) (ts : List (V × D)) (Q : VK) : Rs D → Prop
  | .ok d e => ∀ v H', Rep C B σ0 H' σ e (ts ++ [(v, d)]) → Q v H'
  | .ex x e => XW C B σ0 σ ts x e
def AOk (C : Cn) (B : Bs) (σ0 σ : St) (ts : List (V × D)) (R : List V → Hp → Prop) : Rs (List D) → Prop
  | .ok ds e => ∀ vs H', vs.length = ds.length → Rep C B σ0 H' σ e (ts ++ vs.zip ds) → R vs H'
  | .ex x e => XW C B σ0 σ ts x e
def TOk (C : Cn) (B : Bs) (σ0 σ : St) (ts : List (V × D)) (R : Bool → Hp → Prop) : Rs Bool → Prop
  | .ok b e => ∀ H', Rep C B σ0 H' σ e ts → R b H'
  | .ex x e => XW C B σ0 σ ts x e
def SE (C : Cn) (te : TE) (m : ME) : Prop := ∀ B σ0 σ H env ts, Rep C B σ0 H σ env ts → ∀ r, m env = some r → ∀ Q, EOk C B σ0 σ ts Q r → te σ H Q
def SA (C : Cn) (ta : TA) (m : MA) : Prop := ∀ B σ0 σ H env ts, Rep C B σ0 H σ env ts → ∀ r, m env = some r → ∀ R, AOk C B σ0 σ ts R r → ta σ H R
def ST (C : Cn) (tt : TT) (m : MT) : Prop := ∀ B σ0 σ H env ts, Rep C B σ0 H σ env ts → ∀ r, m env = some r → ∀ R, TOk C B σ0 σ ts R r → tt σ H R
/-! ### what an operation makes -/
def Post (K : KC) (ps : Addr → Prop) (H H' : Hp) (v : V) (d : D) : Prop :=
  Kp (fun _ => False) H H' ∧ ∃ s', (∀ a, s' a → H a = none ∧ H' a ≠ none) ∧ Ow K (fun a => ps a ∨ s' a) H' v d s'
section
variable {K : KC} {ps : Addr → Prop} {H H1 : Hp} {v : V} {d : D} {p : Addr} {xs : List V} {ds : List D}
theorem Post.dt (h : Dt K ps H v d) : Post K ps H H v d := ⟨.refl, fun _ => False, fun _ h => h.elim, .fz (h.move .refl fun a z => .inl (z.resolve_right id)) fun _ h => h⟩
theorem Post.lst (hp : H p = none) (h : DtA K ps H xs ds) : Post K ps H (upd H p (.lst xs)) (.ref p) (.mls ds) :=
  ⟨.new hp, fun a => a = p, fun a e => by subst e; exact ⟨hp, by rw [upd_same]; simp⟩, .mls upd_same (h.move (.new hp) fun a z => z.elim .inl fun e => .inr (by rw [e]; exact hp)) fun _ => Iff.rfl⟩
theorem Post.tup (ht : ∀ a, ps a → H a ≠ none) (hp : H p = none) (h : DtA K ps H xs ds) : Post K ps H (upd H p (.tup xs)) (.ref p) (.tup ds) :=
  ⟨.new hp, fun _ => False, fun _ h => h.elim, .fz (.tupA upd_same (fun z => ht p (z.resolve_right id) hp) (h.move (.new hp) fun a z => .inl (z.resolve_right id))) fun _ h => h⟩
end
section
variable {C : Cn} {B : Bs} {σ0 σ : St} {H H1 : Hp} {env env1 : Env} {ts ts1 : List (V × D)} {S : Ix → Addr → Prop} {v : V} {d : D}
theorem Good.prim (g : Good C B σ0 H σ env (ts ++ ts1) S) (p : Post C.K (pset B S) H H1 v d) : Rep C B σ0 H1 σ env (ts ++ [(v, d)]) := by
  obtain ⟨k, s', hs, ho⟩ := p
  have h := g.push (H1 := H1) (v := v) (d := d) ts.length (by simp) s' (k.more fun _ z => z.elim) (fun a z => ⟨.inr (hs a z).1, (hs a z).2⟩) (ho.move .refl (fun a z => ?_) fun _ _ => rfl)
  · rw [List.take_left] at h
    exact ⟨_, h⟩
  · rcases z with z | ⟨i, ⟨_, z⟩ | ⟨_, z⟩⟩
    · exact .inl (.inl (.inl z))
    · exact .inl (.inr z)
    · exact .inl (.inl (.inr ⟨i, z⟩))
theorem Good.pushAl (g : Good C B σ0 H σ env ts S) {k : Nat} (h1 : σ[k]? = some (some v)) : Rep C B σ0 H σ env (ts ++ [(v, .al k)]) := by
  refine ⟨S, g.kp, g.fr, g.sub, g.trk, g.dis, g.len, g.keep, g.slot, fun j v' d e => ?_, g.hld, g.fx⟩
  by_cases hj : j < ts.length
  · rw [List.getElem?_append_left hj] at e; exact g.tmp j v' d e
  · rw [List.getElem?_append_right (by omega)] at e
    obtain ⟨m, hm⟩ : ∃ m, j - ts.length = m := ⟨_, rfl⟩
    rw [hm] at e
    cases m with
    | zero => simp at e; obtain ⟨rfl, rfl⟩ := e; exact .inl ⟨k, rfl, h1⟩
    | succ m => simp at e
end
/-! ### expressions -/
def mVar (i : Nat) : ME := fun e => match e[i]? with
  | some (some d) => if isFz d = true then some (.ok d e) else some (.ok (.al i) e)
  | _ => none
theorem se_var {C : Cn} (i : Nat) : SE C (tVar i) (mVar i) := by
  rintro B σ0 σ H env ts ⟨S, g⟩ r hm Q hq
  unfold mVar at hm
  split at hm
  · rename_i d hd
    obtain ⟨v, hv, ho⟩ := g.slot i d hd
    split at hm
    · rename_i hf
      cases hm
      exact ⟨v, hv, hq v H (Good.prim (ts1 := []) (by rw [List.append_nil]; exact g) (Post.dt (ho.dt hf)))⟩
    · cases hm
      exact ⟨v, hv, hq v H (g.pushAl hv)⟩
  · cases hm
def mC (d : D) : ME := fun e => some (.ok d e)
/-- a value that is data by itself -/
def litD : V → D
  | .non => .non | .bl b => .bl b | .int i => .int i | .str s => .str s | v => .cst v
theorem litD_dt {K : KC} {ps : Addr → Prop} {H : Hp} (v : V) : Dt K ps H v (litD v) := by
  cases v <;> first | exact .non | exact .bl _ | exact .int _ | exact .str _ | exact .cst _
theorem se_c {C : Cn} (v : V) : SE C (tC v) (mC (litD v)) := by
  rintro B σ0 σ H env ts ⟨S, g⟩ r hm Q hq
  cases hm
  exact hq v H (Good.prim (ts1 := []) (by rw [List.append_nil]; exact g) (Post.dt (litD_dt v)))
/-- a written tuple of the top -/
theorem se_k {C : Cn} {a : Addr} {d : D} (h : ∀ ps H, Dt C.K ps H (.ref a) d) : SE C (tC (.ref a)) (mC d) := by
  rintro B σ0 σ H env ts ⟨S, g⟩ r hm Q hq
  cases hm
  exact hq _ H (Good.prim (ts1 := []) (by rw [List.append_nil]; exact g) (Post.dt (h _ _)))
def ap1 (f : D → Option D) (x : D) (e : Env) : Option (Rs D) := match res e x with
  | some x' => (match f x' with | some d => some (.ok d e) | none => none)
  | none => none
def ap2 (f : D → D → Option D) (x y : D) (e : Env) : Option (Rs D) := match res e x with
  | some x' => (match res e y with
    | some y' => (match f x' y' with | some d => some (.ok d e) | none => none)
    | none => none)
  | none => none
def lend : List D → Env → Option (List D)
  | [], _ => some []
  | x :: xs, e => match res e x with
    | some d => (match lend xs e with | some ds => some (d :: ds) | none => none)
    | none => none
def apN (f : List D → Option D) (xs : List D) (e : Env) : Option (Rs D) := match lend xs e with
  | some ds => (match f ds with | some d => some (.ok d e) | none => none)
  | none => none
def P1 (K : KC) (r : V → Hp → VK → Prop) (f : D → Option D) : Prop := ∀ ps H x d e Q, (∀ a, ps a → H a ≠ none) → Peek K ps H x d → f d = some e → (∀ v H', Post K ps H H' v e → Q v H') → r x H Q
def P2 (K : KC) (r : R2) (f : D → D → Option D) : Prop := ∀ ps H x y d d' e Q, (∀ a, ps a → H a ≠ none) → Peek K ps H x d → Peek K ps H y d' → f d d' = some e → (∀ v H', Post K ps H H' v e → Q v H') → r x y H Q
inductive PeekA (K : KC) (ps : Addr → Prop) (H : Hp) : List V → List D → Prop
  | nil : PeekA K ps H [] []
  | cons {v : V} {d : D} {vs : List V} {ds : List D} : Peek K ps H v d → PeekA K ps H vs ds → PeekA K ps H (v :: vs) (d :: ds)
def PN (K : KC) (r : List V → Hp → VK → Prop) (f : List D → Option D) : Prop := ∀ ps H xs ds e Q, (∀ a, ps a → H a ≠ none) → PeekA K ps H xs ds → f ds = some e → (∀ v H', Post K ps H H' v e → Q v H') → r xs H Q
def mUn (f : D → Option D) (a : ME) : ME := fun e => bnd (a e) fun x e1 => ap1 f x e1
def mOp (f : D → D → Option D) (a b : ME) : ME := fun e => bnd (a e) fun x e1 => bnd (b e1) fun y e2 => ap2 f x y e2
def mCB (f : List D → Option D) (a : MA) : ME := fun e => bnd (a e) fun xs e1 => apN f xs e1
section
variable {C : Cn} {te ta tb tc : TE} {ma mb mc : ME} {tt tu : TT} {mt mu : MT} {tr : TA} {mr : MA}
theorem se_un {r : V → Hp → VK → Prop} {f : D → Option D} (p : P1 C.K r f) (ha : SE C ta ma) : SE C (tUn r ta) (mUn f ma) := by
  intro B σ0 σ H env ts R z hm Q hq
  rcases bnd_inv hm with ⟨x, e, h1, rfl⟩ | ⟨x, e1, h1, h2⟩
  · exact ha B σ0 σ H env ts R _ h1 _ hq
  · refine ha B σ0 σ H env ts R _ h1 _ fun v H1 ⟨S, g⟩ => ?_
    unfold ap1 at h2
    split at h2
    · rename_i x' hx
      split at h2
      · rename_i d hd
        cases h2
        exact p _ _ _ _ _ _ (fun a z => g.ptrk z) (g.look (j := ts.length) (by simp) hx) hd fun w H2 pp => hq w H2 (g.prim pp)
      · cases h2
    · cases h2
theorem se_op {r : R2} {f : D → D → Option D} (p : P2 C.K r f) (ha : SE C ta ma) (hb : SE C tb mb) : SE C (tOp r ta tb) (mOp f ma mb) := by
  intro B σ0 σ H env ts R z hm Q hq
  rcases bnd_inv hm with ⟨x, e, h1, rfl⟩ | ⟨x, e1, h1, h2⟩
  · exact ha B σ0 σ H env ts R _ h1 _ hq
  · refine ha B σ0 σ H env ts R _ h1 _ fun v H1 R1 => ?_
    rcases bnd_inv h2 with ⟨x2, e, h3, rfl⟩ | ⟨y, e2, h3, h4⟩
    · exact hb B σ0 σ H1 e1 _ R1 _ h3 _ (XW.push hq)
    · refine hb B σ0 σ H1 e1 _ R1 _ h3 _ fun w H2 ⟨S, g⟩ => ?_
      rw [List.append_assoc] at g
      unfold ap2 at h4
      split at h4
      · rename_i x' hx
        split at h4
        · rename_i y' hy
          split at h4
          · rename_i d hd
            cases h4
            exact p _ _ _ _ _ _ _ _ (fun a z => g.ptrk z) (g.look (j := ts.length) (by simp) hx) (g.look (j := ts.length + 1) (by simp) hy) hd fun w H2 pp => hq w H2 (g.prim pp)
          · cases h4
        · cases h4
      · cases h4
theorem lend_peek {B : Bs} {σ0 σ : St} {H : Hp} {env : Env} {ts : List (V × D)} {S : Ix → Addr → Prop} : ∀ {vs : List V} {xs ds : List D} {n : Nat}, Good C B σ0 H σ env ts S → (∀ (j : Nat) v d, (vs.zip xs)[j]? = some (v, d) → ts[n + j]? = some (v, d)) → vs.length = xs.length → lend xs env = some ds → PeekA C.K (pset B S) H vs ds
  | [], [], ds, n, g, h, hl, hd => by cases hd; exact .nil
  | [], _ :: _, ds, n, g, h, hl, hd => by simp at hl
  | _ :: _, [], ds, n, g, h, hl, hd => by simp at hl
  | v :: vs, x :: xs, ds, n, g, h, hl, hd => by
    unfold lend at hd
    split at hd
    · rename_i d h1
      split at hd
      · rename_i ds' h2
        cases hd
        refine .cons (g.look (j := n) (h 0 v x rfl) h1) (lend_peek (n := n + 1) g (fun j v' d' e => ?_) (by simpa using hl) h2)
        have := h (j + 1) v' d' (by simpa using e)
        rw [Nat.add_assoc, Nat.add_comm 1 j]; exact this
      · cases hd
    · cases hd
theorem se_cb {r : List V → Hp → VK → Prop} {f : List D → Option D} (p : PN C.K r f) (ha : SA C tr mr) : SE C (tCB r tr) (mCB f mr) := by
  intro B σ0 σ H env ts R z hm Q hq
  rcases bnd_inv hm with ⟨x, e, h1, rfl⟩ | ⟨x, e1, h1, h2⟩
  · exact ha B σ0 σ H env ts R _ h1 _ hq
  · refine ha B σ0 σ H env ts R _ h1 _ fun vs H1 hl ⟨S, g⟩ => ?_
    unfold apN at h2
    split at h2
    · rename_i ds hds
      split at h2
      · rename_i d hd
        cases h2
        exact p _ _ _ _ _ _ (fun a z => g.ptrk z) (lend_peek (n := ts.length) g (fun j v d e => by rw [List.getElem?_append_right (by omega)]; simpa using e) hl hds) hd fun w H2 pp => hq w H2 (g.prim pp)
      · cases h2
    · cases h2
def mNil : MA := fun e => some (.ok [] e)
def mCons (a : ME) (b : MA) : MA := fun e => bnd (a e) fun x e1 => bnd (b e1) fun xs e2 => some (.ok (x :: xs) e2)
theorem sa_nil : SA C tNil mNil := by
  intro B σ0 σ H env ts R z hm Q hq
  cases hm
  exact hq [] H rfl (by simpa using R)
theorem sa_cons (ha : SE C ta ma) (hb : SA C tr mr) : SA C (tCons ta tr) (mCons ma mr) := by
  intro B σ0 σ H env ts R z hm Q hq
  rcases bnd_inv hm with ⟨x, e, h1, rfl⟩ | ⟨x, e1, h1, h2⟩
  · exact ha B σ0 σ H env ts R _ h1 _ hq
  · refine ha B σ0 σ H env ts R _ h1 _ fun v H1 R1 => ?_
    rcases bnd_inv h2 with ⟨x2, e, h3, rfl⟩ | ⟨ys, e2, h3, h4⟩
    · exact hb B σ0 σ H1 e1 _ R1 _ h3 _ (XW.push hq)
    · refine hb B σ0 σ H1 e1 _ R1 _ h3 _ fun vs H2 hl R2 => ?_
      cases h4
      exact hq (v :: vs) H2 (by simp [hl]) (by simpa using R2)
/-! tests, choices -/
def mTest (a : ME) : MT := fun e => bnd (a e) fun x e1 => match x with
  | .bl b => some (.ok b e1)
  | _ => none
theorem tmp_bl {B : Bs} {σ0 σ : St} {H : Hp} {env : Env} {ts : List (V × D)} {v : V} {b : Bool} (R : Rep C B σ0 H σ env (ts ++ [(v, .bl b)])) : v = .bl b ∧ Rep C B σ0 H σ env ts := by
  refine ⟨?_, R.pop⟩
  obtain ⟨S, g⟩ := R
  rcases g.tmp ts.length v (.bl b) (by simp) with ⟨k, e, _⟩ | h
  · cases e
  · exact (h.dt rfl).inv_bl
theorem st_test (ha : SE C ta ma) : ST C (tTest ta) (mTest ma) := by
  intro B σ0 σ H env ts R z hm Q hq
  rcases bnd_inv hm with ⟨x, e, h1, rfl⟩ | ⟨x, e1, h1, h2⟩
  · exact ha B σ0 σ H env ts R _ h1 _ hq
  · refine ha B σ0 σ H env ts R _ h1 _ fun v H1 R1 => ?_
    split at h2
    · cases h2
      obtain ⟨rfl, R2⟩ := tmp_bl R1
      exact ⟨_, rfl, hq _ R2⟩
    · cases h2
theorem st_tB (ha : SE C ta ma) : ST C (tB ta) (mTest ma) := st_test ha
def truD : D → Option Bool
  | .non => some false
  | .bl b => some b
  | .int i => some (i != 0)
  | .str s => if s.length ≤ 16777216 then some ((s.length : Int) != 0) else none
  | .tup ds => some (!ds.isEmpty)
  | .lst ds => some (!ds.isEmpty)
  | .rol ds => some (!ds.isEmpty)
  | .mls ds => some (!ds.isEmpty)
  | _ => none
def mTru (a : ME) : MT := fun e => bnd (a e) fun x e1 => match res e1 x with
  | some d => (match truD d with | some b => some (.ok b e1) | none => none)
  | none => none
/-- as a sequence -/
inductive SqP (K : KC) (ps : Addr → Prop) (H : Hp) (a : Addr) (ds : List D) : Prop
  | lst {xs : List V} : SqL K H a xs → DtA K ps H xs ds → SqP K ps H a ds
  | tup {xs : List V} : SqT K H a xs → DtA K ps H xs ds → SqP K ps H a ds
theorem Peek.lst {K : KC} {ps : Addr → Prop} {H : Hp} {v : V} {ds : List D} (p : Peek K ps H v (.lst ds)) : ∃ a xs, v = .ref a ∧ H a = some (.lst xs) ∧ DtA K ps H xs ds := by
  obtain ⟨S, h, _⟩ := p
  obtain ⟨a, xs, e, h1, _, h2⟩ := (h.dt rfl).inv_lst
  exact ⟨a, xs, e, h1, h2⟩
theorem Peek.mls {K : KC} {ps : Addr → Prop} {H : Hp} {v : V} {ds : List D} (p : Peek K ps H v (.mls ds)) : ∃ a xs, v = .ref a ∧ H a = some (.lst xs) ∧ DtA K ps H xs ds := by
  obtain ⟨S, h, _⟩ := p
  cases h with
  | fz h _ => cases h
  | mls h1 h2 h3 => exact ⟨_, _, rfl, h1, h2⟩
theorem Peek.dct {K : KC} {ps : Addr → Prop} {H : Hp} {v : V} {ks : List Key} {ds : List D} (p : Peek K ps H v (.dct ks ds)) : ∃ a xs, v = .ref a ∧ Rd H a (.dK (ks.zip xs)) ∧ ks.length = ds.length ∧ DtA K ps H xs ds := by
  obtain ⟨S, h, _⟩ := p
  exact (h.dt rfl).inv_dct
theorem Peek.dtt {K : KC} {ps : Addr → Prop} {H : Hp} {v : V} {ks : List (List Key)} {ds : List D} (p : Peek K ps H v (.dtt ks ds)) : ∃ a xs, v = .ref a ∧ Rd H a (.dT (ks.zip xs)) ∧ ks.length = ds.length ∧ DtA K ps H xs ds := by
  obtain ⟨S, h, _⟩ := p
  exact (h.dt rfl).inv_dtt
theorem Peek.mdc {K : KC} {ps : Addr → Prop} {H : Hp} {v : V} {ks : List Key} {ds : List D} (p : Peek K ps H v (.mdc ks ds)) : ∃ a xs, v = .ref a ∧ H a = some (.dK (ks.zip xs)) ∧ ks.length = ds.length ∧ DtA K ps H xs ds := by
  obtain ⟨S, h, _⟩ := p
  cases h with
  | fz h _ => cases h
  | mdc h1 h4 h2 h3 => exact ⟨_, _, rfl, h1, h4, h2⟩
theorem Peek.mdt {K : KC} {ps : Addr → Prop} {H : Hp} {v : V} {ks : List (List Key)} {ds : List D} (p : Peek K ps H v (.mdt ks ds)) : ∃ a xs, v = .ref a ∧ H a = some (.dT (ks.zip xs)) ∧ ks.length = ds.length ∧ DtA K ps H xs ds := by
  obtain ⟨S, h, _⟩ := p
  cases h with
  | fz h _ => cases h
  | mdt h1 h4 h2 h3 => exact ⟨_, _, rfl, h1, h4, h2⟩
theorem Peek.obj {K : KC} {ps : Addr → Prop} {H : Hp} {v : V} {c : Nat} {fs : List Str} {ds : List D} (p : Peek K ps H v (.obj c fs ds)) : ∃ a C dx xs, v = .ref a ∧ H a = some (.ins C dx (fs.zip xs)) ∧ K.cv c = .ref C ∧ fs.length = ds.length ∧ DtA K ps H xs ds := by
  obtain ⟨S, h, _⟩ := p
  exact (h.dt rfl).inv_obj
/-- a dict with int and text keys -/
def dctD : D → Option (List Key × List D)
  | .dct ks ds => some (ks, ds) | .mdc ks ds => some (ks, ds) | _ => none
theorem Peek.dk {K : KC} {ps : Addr → Prop} {H : Hp} {v : V} {d : D} {ks : List Key} {ds : List D} (p : Peek K ps H v d) (e : dctD d = some (ks, ds)) : ∃ a xs, v = .ref a ∧ Rd H a (.dK (ks.zip xs)) ∧ ks.length = ds.length ∧ DtA K ps H xs ds := by
  cases d <;> cases e
  · exact p.dct
  · obtain ⟨a, xs, e, h1, h2⟩ := p.mdc; exact ⟨a, xs, e, .inl h1, h2⟩
/-- a dict with tuples as keys -/
def dttD : D → Option (List (List Key) × List D)
  | .dtt ks ds => some (ks, ds) | .mdt ks ds => some (ks, ds) | _ => none
theorem Peek.tk {K : KC} {ps : Addr → Prop} {H : Hp} {v : V} {d : D} {ks : List (List Key)} {ds : List D} (p : Peek K ps H v d) (e : dttD d = some (ks, ds)) : ∃ a xs, v = .ref a ∧ Rd H a (.dT (ks.zip xs)) ∧ ks.length = ds.length ∧ DtA K ps H xs ds := by
  cases d <;> cases e
  · exact p.dtt
  · obtain ⟨a, xs, e, h1, h2⟩ := p.mdt; exact ⟨a, xs, e, .inl h1, h2⟩
theorem Peek.rol {K : KC} {ps : Addr → Prop} {H : Hp} {v : V} {ds : List D} (p : Peek K ps H v (.rol ds)) : ∃ a xs, v = .ref a ∧ SqL K H a xs ∧ DtA K ps H xs ds := by
  obtain ⟨S, h, _⟩ := p
  obtain ⟨a, xs, e, h1, h2⟩ := (h.dt rfl).inv_rol
  exact ⟨a, xs, e, h1.sq, h2⟩
theorem Peek.tup {K : KC} {ps : Addr → Prop} {H : Hp} {v : V} {ds : List D} (p : Peek K ps H v (.tup ds)) : ∃ a xs, v = .ref a ∧ SqT K H a xs ∧ DtA K ps H xs ds := by
  obtain ⟨S, h, _⟩ := p
  obtain ⟨a, xs, e, h1, h2⟩ := (h.dt rfl).inv_tup
  exact ⟨a, xs, e, h1.sq, h2⟩
theorem Peek.int {K : KC} {ps : Addr → Prop} {H : Hp} {v : V} {i : Int} (p : Peek K ps H v (.int i)) : v = .int i := by obtain ⟨S, h, _⟩ := p; exact (h.dt rfl).inv_int
theorem Peek.str {K : KC} {ps : Addr → Prop} {H : Hp} {v : V} {i : Str} (p : Peek K ps H v (.str i)) : v = .str i := by obtain ⟨S, h, _⟩ := p; exact (h.dt rfl).inv_str
theorem Peek.bl {K : KC} {ps : Addr → Prop} {H : Hp} {v : V} {i : Bool} (p : Peek K ps H v (.bl i)) : v = .bl i := by obtain ⟨S, h, _⟩ := p; exact (h.dt rfl).inv_bl
theorem Peek.non {K : KC} {ps : Addr → Prop} {H : Hp} {v : V} (p : Peek K ps H v .non) : v = .non := by obtain ⟨S, h, _⟩ := p; exact (h.dt rfl).inv_non
theorem Peek.cst {K : KC} {ps : Addr → Prop} {H : Hp} {v c : V} (p : Peek K ps H v (.cst c)) : v = c := by obtain ⟨S, h, _⟩ := p; exact (h.dt rfl).inv_cst
theorem Peek.no_al {K : KC} {ps : Addr → Prop} {H : Hp} {v : V} {k : Nat} (p : Peek K ps H v (.al k)) : False := by
  obtain ⟨S, h, _⟩ := p
  exact Bool.noConfusion h.noAl
/-- the items of a list or tuple -/
def seqD : D → Option (List D)
  | .tup ds => some ds | .lst ds => some ds | .rol ds => some ds | .mls ds => some ds | _ => none
theorem Peek.seq {K : KC} {ps : Addr → Prop} {H : Hp} {v : V} {d : D} {ds : List D} (p : Peek K ps H v d) (e : seqD d = some ds) : ∃ a xs, v = .ref a ∧ (SqL K H a xs ∨ SqT K H a xs) ∧ DtA K ps H xs ds := by
  cases d <;> cases e
  · obtain ⟨a, xs, e, h1, h2⟩ := p.tup; exact ⟨a, xs, e, .inr h1, h2⟩
  · obtain ⟨a, xs, e, h1, h2⟩ := p.lst; exact ⟨a, xs, e, .inl (SqL.of h1), h2⟩
  · obtain ⟨a, xs, e, h1, h2⟩ := p.rol; exact ⟨a, xs, e, .inl h1, h2⟩
  · obtain ⟨a, xs, e, h1, h2⟩ := p.mls; exact ⟨a, xs, e, .inl (SqL.of h1), h2⟩
end
end Q


namespace Q
open PySem L2
section
variable {C : Cn} {te ta tb tc : TE} {ma mb mc : ME} {tt tu : TT} {mt mu : MT} {tr : TA} {mr : MA}
theorem isEmpty_dt {K : KC} {ps : Addr → Prop} {H : Hp} {xs : List V} {ds : List D} (h : DtA K ps H xs ds) : (!xs.isEmpty) = !ds.isEmpty := by
  have := h.1
  cases xs <;> cases ds <;> simp_all
theorem tru_of {K : KC} {ps : Addr → Prop} {H : Hp} {v : V} {d : D} {b : Bool} (p : Peek K ps H v d) (h : truD d = some b) : TruV K v H b := by
  cases d with
  | non => cases h; rw [p.non]; rfl
  | bl b' => cases h; rw [p.bl]; rfl
  | int i => cases h; rw [p.int]; rfl
  | str s =>
    simp only [truD] at h
    split at h
    · rename_i hs
      cases h; rw [p.str]; exact ⟨by rw [sizeLine_eq]; exact hs, rfl⟩
    · cases h
  | tup ds => cases h; obtain ⟨a, xs, rfl, h1, h2⟩ := p.tup; exact .inr (.inl ⟨xs, h1, (isEmpty_dt h2).symm⟩)
  | lst ds => cases h; obtain ⟨a, xs, rfl, h1, h2⟩ := p.lst; exact .inl ⟨xs, SqL.of h1, (isEmpty_dt h2).symm⟩
  | rol ds => cases h; obtain ⟨a, xs, rfl, h1, h2⟩ := p.rol; exact .inl ⟨xs, h1, (isEmpty_dt h2).symm⟩
  | mls ds => cases h; obtain ⟨a, xs, rfl, h1, h2⟩ := p.mls; exact .inl ⟨xs, SqL.of h1, (isEmpty_dt h2).symm⟩
  | _ => cases h
theorem st_tru (ha : SE C ta ma) : ST C (tTru C.K ta) (mTru ma) := by
  intro B σ0 σ H env ts R z hm Q hq
  rcases bnd_inv hm with ⟨x, e, h1, rfl⟩ | ⟨x, e1, h1, h2⟩
  · exact ha B σ0 σ H env ts R _ h1 _ hq
  · refine ha B σ0 σ H env ts R _ h1 _ fun v H1 ⟨S, g⟩ => ?_
    split at h2
    · rename_i d hd
      split at h2
      · rename_i b hb
        cases h2
        exact ⟨b, tru_of (g.look (j := ts.length) (by simp) hd) hb, hq _ ⟨S, g.pop⟩⟩
      · cases h2
    · cases h2
def mAnd (a b : MT) : MT := fun e => bnd (a e) fun c e1 => if c = true then b e1 else some (.ok false e1)
def mOr (a b : MT) : MT := fun e => bnd (a e) fun c e1 => if c = true then some (.ok true e1) else b e1
def mNot (a : MT) : MT := fun e => bnd (a e) fun c e1 => some (.ok (!c) e1)
theorem st_and (ha : ST C tt mt) (hb : ST C tu mu) : ST C (tAnd tt tu) (mAnd mt mu) := by
  intro B σ0 σ H env ts R z hm Q hq
  rcases bnd_inv hm with ⟨x, e, h1, rfl⟩ | ⟨c, e1, h1, h2⟩
  · exact ha B σ0 σ H env ts R _ h1 _ hq
  · refine ha B σ0 σ H env ts R _ h1 _ fun H1 R1 => ?_
    cases c with
    | true => rw [if_pos rfl] at h2 ⊢; exact hb B σ0 σ H1 e1 ts R1 _ h2 _ hq
    | false => rw [if_neg Bool.false_ne_true] at h2 ⊢; cases h2; exact hq _ R1
theorem st_or (ha : ST C tt mt) (hb : ST C tu mu) : ST C (tOr tt tu) (mOr mt mu) := by
  intro B σ0 σ H env ts R z hm Q hq
  rcases bnd_inv hm with ⟨x, e, h1, rfl⟩ | ⟨c, e1, h1, h2⟩
  · exact ha B σ0 σ H env ts R _ h1 _ hq
  · refine ha B σ0 σ H env ts R _ h1 _ fun H1 R1 => ?_
    cases c with
    | true => rw [if_pos rfl] at h2 ⊢; cases h2; exact hq _ R1
    | false => rw [if_neg Bool.false_ne_true] at h2 ⊢; exact hb B σ0 σ H1 e1 ts R1 _ h2 _ hq
theorem st_not (ha : ST C tt mt) : ST C (tNot tt) (mNot mt) := by
  intro B σ0 σ H env ts R z hm Q hq
  rcases bnd_inv hm with ⟨x, e, h1, rfl⟩ | ⟨c, e1, h1, h2⟩
  · exact ha B σ0 σ H env ts R _ h1 _ hq
  · cases h2
    exact ha B σ0 σ H env ts R _ h1 _ fun H1 R1 => hq _ R1
theorem st_yes : ST C tYes (fun e => some (.ok true e)) := by
  intro B σ0 σ H env ts R z hm Q hq
  cases hm
  exact hq _ R
def mIfE (t : MT) (a b : ME) : ME := fun e => bnd (t e) fun c e1 => if c = true then a e1 else b e1
theorem se_if (ht : ST C tt mt) (ha : SE C ta ma) (hb : SE C tb mb) : SE C (tIf tt ta tb) (mIfE mt ma mb) := by
  intro B σ0 σ H env ts R z hm Q hq
  rcases bnd_inv hm with ⟨x, e, h1, rfl⟩ | ⟨c, e1, h1, h2⟩
  · exact ht B σ0 σ H env ts R _ h1 _ hq
  · refine ht B σ0 σ H env ts R _ h1 _ fun H1 R1 => ?_
    cases c with
    | true => rw [if_pos rfl] at h2 ⊢; exact ha B σ0 σ H1 e1 ts R1 _ h2 _ hq
    | false => rw [if_neg Bool.false_ne_true] at h2 ⊢; exact hb B σ0 σ H1 e1 ts R1 _ h2 _ hq
theorem push_bl {B : Bs} {σ0 σ : St} {H : Hp} {env : Env} {ts : List (V × D)} (b : Bool) (R : Rep C B σ0 H σ env ts) : Rep C B σ0 H σ env (ts ++ [(.bl b, .bl b)]) := by
  obtain ⟨S, g⟩ := R
  exact Good.prim (ts1 := []) (by rw [List.append_nil]; exact g) (Post.dt (.bl b))
def mAndV (a b : ME) : ME := fun e => bnd (a e) fun x e1 => match x with
  | .bl true => b e1
  | .bl false => some (.ok (.bl false) e1)
  | _ => none
def mOrV (a b : ME) : ME := fun e => bnd (a e) fun x e1 => match x with
  | .bl true => some (.ok (.bl true) e1)
  | .bl false => b e1
  | _ => none
def mNotV (a : ME) : ME := fun e => bnd (a e) fun x e1 => match x with
  | .bl b => some (.ok (.bl (!b)) e1)
  | _ => none
theorem se_andV (ha : SE C ta ma) (hb : SE C tb mb) : SE C (tAndV ta tb) (mAndV ma mb) := by
  intro B σ0 σ H env ts R z hm Q hq
  rcases bnd_inv hm with ⟨x, e, h1, rfl⟩ | ⟨x, e1, h1, h2⟩
  · exact ha B σ0 σ H env ts R _ h1 _ hq
  · refine ha B σ0 σ H env ts R _ h1 _ fun v H1 R1 => ?_
    split at h2
    · obtain ⟨rfl, R2⟩ := tmp_bl R1
      exact ⟨true, rfl, by rw [if_pos rfl]; exact hb B σ0 σ H1 e1 ts R2 _ h2 _ hq⟩
    · cases h2
      obtain ⟨rfl, R2⟩ := tmp_bl R1
      exact ⟨false, rfl, by rw [if_neg Bool.false_ne_true]; exact hq _ _ R1⟩
    · cases h2
theorem se_orV (ha : SE C ta ma) (hb : SE C tb mb) : SE C (tOrV ta tb) (mOrV ma mb) := by
  intro B σ0 σ H env ts R z hm Q hq
  rcases bnd_inv hm with ⟨x, e, h1, rfl⟩ | ⟨x, e1, h1, h2⟩
  · exact ha B σ0 σ H env ts R _ h1 _ hq
  · refine ha B σ0 σ H env ts R _ h1 _ fun v H1 R1 => ?_
    split at h2
    · cases h2
      obtain ⟨rfl, R2⟩ := tmp_bl R1
      exact ⟨true, rfl, by rw [if_pos rfl]; exact hq _ _ R1⟩
    · obtain ⟨rfl, R2⟩ := tmp_bl R1
      exact ⟨false, rfl, by rw [if_neg Bool.false_ne_true]; exact hb B σ0 σ H1 e1 ts R2 _ h2 _ hq⟩
    · cases h2
theorem se_notV (ha : SE C ta ma) : SE C (tNotV ta) (mNotV ma) := by
  intro B σ0 σ H env ts R z hm Q hq
  rcases bnd_inv hm with ⟨x, e, h1, rfl⟩ | ⟨x, e1, h1, h2⟩
  · exact ha B σ0 σ H env ts R _ h1 _ hq
  · refine ha B σ0 σ H env ts R _ h1 _ fun v H1 R1 => ?_
    split at h2
    · cases h2
      obtain ⟨rfl, R2⟩ := tmp_bl R1
      exact ⟨_, rfl, hq _ _ (push_bl _ R2)⟩
    · cases h2
/-! taking what an alias names -/
def tk (x : D) (e : Env) : Option (D × Env) := match x with
  | .al k => (match e[k]? with
    | some (some d) => some (frz d, e.set k (some (frz d)))
    | _ => none)
  | d => some (d, e)
/-- taken into a container -/
def tkf (x : D) (e : Env) : Option (D × Env) := match tk x e with
  | some (d, e1) => some (frz d, e1)
  | none => none
theorem frz_fz {K : KC} {ps : Addr → Prop} {H : Hp} {v : V} {d : D} (h : Dt K ps H v d) : frz d = d := by cases h <;> rfl
section
variable {B : Bs} {σ0 σ : St} {H H1 : Hp} {env env1 : Env} {ts ts1 : List (V × D)} {S : Ix → Addr → Prop} {v : V} {d : D}
theorem nsub {s : Ix → Addr → Prop} {k : Ix} {a : Addr} (g : Good C B σ0 H σ env ts S) (z : pset B (su S k fun _ => False) a) : pset B S a ∧ ¬ S k a := by
  rcases z with z | ⟨i, ⟨_, z⟩ | ⟨hi, z⟩⟩
  · exact ⟨.inl z, fun w => (g.sub k a w).2 z⟩
  · exact z.elim
  · exact ⟨.inr ⟨i, z⟩, fun w => hi (g.dis _ _ a z w)⟩
/-- slot k is given up for all -/
theorem Good.freeze (g : Good C B σ0 H σ env ts S) {k : Nat} (he : env[k]? = some (some d)) : Good C B σ0 H σ (env.set k (some (frz d))) ts (su S (.inl k) fun _ => False) := by
  obtain ⟨v, hv, ho⟩ := g.slot k d he
  exact g.put he hv _ .refl (fun a z => z.elim) (.fz (ho.frz fun a z => nsub (s := S) g z) fun _ z => z)
/-- the alias on top is taken -/
theorem Good.taken (g : Good C B σ0 H σ env (ts ++ (v, d) :: ts1) S) {d' : D} (h : tk d env = some (d', env1)) : ∃ S1, Good C B σ0 H σ env1 (ts ++ (v, d') :: ts1) S1 ∧ Ow C.K (pset B S1) H v d' (S1 (.inr ts.length)) := by
  have e : (ts ++ (v, d) :: ts1)[ts.length]? = some (v, d) := by simp
  rcases g.tmp _ v d e with ⟨k, rfl, h2⟩ | ho
  · simp only [tk] at h
    split at h
    case h_2 => cases h
    rename_i d0 h3
    cases h
    obtain ⟨v', hv', ho⟩ := g.slot k d0 h3
    rw [h2] at hv'; cases hv'
    have hdt : Dt C.K (pset B (su S (.inl k) fun _ => False)) H v (frz d0) := ho.frz fun a z => nsub (s := S) g z
    have g1 := g.freeze h3
    obtain ⟨a1, a2, a3, a4, a5, a6, a7⟩ := g1.upd (.inr ts.length) (fun _ => False) .refl (fun a z => z.elim)
    have hdt2 : Dt C.K (pset B (su (su S (.inl k) fun _ => False) (.inr ts.length) fun _ => False)) H v (frz d0) := hdt.move .refl fun a z => (a5 a z)
    have how : Ow C.K (pset B (su (su S (.inl k) fun _ => False) (.inr ts.length) fun _ => False)) H v (frz d0) (su (su S (.inl k) fun _ => False) (.inr ts.length) (fun _ => False) (.inr ts.length)) := .fz hdt2 fun b z => su_same.mp z
    refine ⟨_, ⟨a1, g.fr, a2, a3, a4, g1.len, g1.keep, fun i d' e => ?_, fun j v' d' e => ?_, fun p hp => (g1.hld p hp).move a6 a5, g1.fx⟩, how⟩
    · obtain ⟨w, h1, h2⟩ := g1.slot i d' e
      exact ⟨w, h1, a7 (.inl i) w d' (by simp) h2⟩
    · by_cases hj : j = ts.length
      · subst hj
        simp at e
        obtain ⟨rfl, rfl⟩ := e
        exact .inr how
      · have e2 : (ts ++ (v, D.al k) :: ts1)[j]? = some (v', d') := by
          by_cases hj2 : j < ts.length
          · rw [List.getElem?_append_left hj2] at e ⊢; exact e
          · rw [List.getElem?_append_right (by omega)] at e ⊢
            obtain ⟨m, hm⟩ : ∃ m, j - ts.length = m + 1 := ⟨j - ts.length - 1, by omega⟩
            rw [hm] at e ⊢
            simpa using e
        rcases g1.tmp j v' d' e2 with h | h
        · exact .inl h
        · exact .inr (a7 (.inr j) v' d' (by simp [hj]) h)
  · have hn := ho.noAl
    have : tk d env = some (d, env) := by cases d <;> first | rfl | cases hn
    rw [this] at h; cases h
    exact ⟨S, g, ho⟩
/-- and given up -/
theorem Good.takenF (g : Good C B σ0 H σ env (ts ++ (v, d) :: ts1) S) {d' : D} (h : tkf d env = some (d', env1)) : ∃ S1, Good C B σ0 H σ env1 (ts ++ (v, d') :: ts1) S1 ∧ Dt C.K (pset B S1) H v d' := by
  unfold tkf at h
  split at h
  · rename_i d0 e1 h0
    cases h
    obtain ⟨S1, g1, ho⟩ := g.taken h0
    obtain ⟨a1, a2, a3, a4, a5, a6, a7⟩ := g1.upd (.inr ts.length) (fun _ => False) .refl (fun a z => z.elim)
    have hdt : Dt C.K (pset B (su S1 (.inr ts.length) fun _ => False)) H v (frz d0) := ho.frz fun a z => nsub (s := S1) g1 z
    refine ⟨_, ⟨a1, g1.fr, a2, a3, a4, g1.len, g1.keep, fun i d' e => ?_, fun j v' d' e => ?_, fun p hp => (g1.hld p hp).move a6 a5, g1.fx⟩, hdt⟩
    · obtain ⟨w, h1, h2⟩ := g1.slot i d' e
      exact ⟨w, h1, a7 (.inl i) w d' (by simp) h2⟩
    · by_cases hj : j = ts.length
      · subst hj
        simp at e
        obtain ⟨rfl, rfl⟩ := e
        exact .inr (.fz hdt fun b z => su_same.mp z)
      · have e2 : (ts ++ (v, d0) :: ts1)[j]? = some (v', d') := by
          by_cases hj2 : j < ts.length
          · rw [List.getElem?_append_left hj2] at e ⊢; exact e
          · rw [List.getElem?_append_right (by omega)] at e ⊢
            obtain ⟨m, hm⟩ : ∃ m, j - ts.length = m + 1 := ⟨j - ts.length - 1, by omega⟩
            rw [hm] at e ⊢
            simpa using e
        rcases g1.tmp j v' d' e2 with h | h
        · exact .inl h
        · exact .inr (a7 (.inr j) v' d' (by simp [hj]) h)
  · cases h
def tkfA : List D → Env → Option (List D × Env)
  | [], e => some ([], e)
  | x :: xs, e => match tkf x e with
    | some (y, e1) => (match tkfA xs e1 with
      | some (ys, e2) => some (y :: ys, e2)
      | none => none)
    | none => none
theorem Good.takenA : ∀ {vs : List V} {xs ys : List D} {ts : List (V × D)} {env env1 : Env} {S : Ix → Addr → Prop}, Good C B σ0 H σ env (ts ++ vs.zip xs) S → vs.length = xs.length → tkfA xs env = some (ys, env1) → ∃ S1, Good C B σ0 H σ env1 (ts ++ vs.zip ys) S1 ∧ vs.length = ys.length ∧ ∀ (i : Nat) v d, vs[i]? = some v → ys[i]? = some d → isFz d = true
  | [], [], ys, ts, env, env1, S, g, hl, h => by
    cases h
    exact ⟨S, g, rfl, fun i v d e => by simp at e⟩
  | [], _ :: _, ys, ts, env, env1, S, g, hl, h => by simp at hl
  | _ :: _, [], ys, ts, env, env1, S, g, hl, h => by simp at hl
  | v :: vs, x :: xs, ys, ts, env, env1, S, g, hl, h => by
    unfold tkfA at h
    split at h
    · rename_i y e1 h1
      split at h
      · rename_i ys' e2 h2
        cases h
        obtain ⟨S1, g1, hd⟩ := Good.takenF (ts1 := vs.zip xs) (by simpa using g) h1
        obtain ⟨S2, g2, hl2, hf⟩ := Good.takenA (ts := ts ++ [(v, y)]) (vs := vs) (xs := xs) (by simpa using g1) (by simpa using hl) h2
        refine ⟨S2, by simpa using g2, by simp [hl2], fun i v' d' e1 e2 => ?_⟩
        cases i with
        | zero =>
          simp at e1 e2
          subst e1 e2
          cases hd <;> rfl
        | succ i => exact hf i v' d' (by simpa using e1) (by simpa using e2)
      · cases h
    · cases h
theorem Good.dtA {vs : List V} {ys : List D} (g : Good C B σ0 H σ env (ts ++ vs.zip ys) S) (hl : vs.length = ys.length) (hf : ∀ (i : Nat) v d, vs[i]? = some v → ys[i]? = some d → isFz d = true) : DtA C.K (pset B S) H vs ys := by
  refine ⟨hl, fun i v d e1 e2 => ?_⟩
  have e : (ts ++ vs.zip ys)[ts.length + i]? = some (v, d) := by
    rw [List.getElem?_append_right (by omega), Nat.add_sub_cancel_left, List.getElem?_zip_eq_some]
    exact ⟨e1, e2⟩
  rcases g.tmp _ v d e with ⟨k, rfl, _⟩ | ho
  · have := hf i v _ e1 e2
    cases this
  · exact ho.dt (hf i v d e1 e2)
end
def mLst (a : MA) : ME := fun e => bnd (a e) fun xs e1 => match tkfA xs e1 with
  | some (ys, e2) => if ys.length ≤ 16777216 then some (.ok (.mls ys) e2) else none
  | none => none
def mTup (a : MA) : ME := fun e => bnd (a e) fun xs e1 => match tkfA xs e1 with
  | some (ys, e2) => if ys.length ≤ 16777216 then some (.ok (.tup ys) e2) else none
  | none => none
theorem se_lst (ha : SA C tr mr) : SE C (tLst tr) (mLst mr) := by
  intro B σ0 σ H env ts R z hm Q hq
  rcases bnd_inv hm with ⟨x, e, h1, rfl⟩ | ⟨x, e1, h1, h2⟩
  · exact ha B σ0 σ H env ts R _ h1 _ hq
  · refine ha B σ0 σ H env ts R _ h1 _ fun vs H1 hl ⟨S, g⟩ => ?_
    split at h2
    · rename_i ys e2 h3
      split at h2
      · rename_i hsz
        cases h2
        obtain ⟨S1, g1, hl1, hf⟩ := g.takenA hl h3
        refine ⟨by rw [hl1, sizeLine_eq]; exact hsz, fun p hp => hq _ _ (g1.prim (Post.lst hp (g1.dtA hl1 hf)))⟩
      · cases h2
    · cases h2
theorem se_tup (ha : SA C tr mr) : SE C (tTup tr) (mTup mr) := by
  intro B σ0 σ H env ts R z hm Q hq
  rcases bnd_inv hm with ⟨x, e, h1, rfl⟩ | ⟨x, e1, h1, h2⟩
  · exact ha B σ0 σ H env ts R _ h1 _ hq
  · refine ha B σ0 σ H env ts R _ h1 _ fun vs H1 hl ⟨S, g⟩ => ?_
    split at h2
    · rename_i ys e2 h3
      split at h2
      · rename_i hsz
        cases h2
        obtain ⟨S1, g1, hl1, hf⟩ := g.takenA hl h3
        refine ⟨by rw [hl1, sizeLine_eq]; exact hsz, fun p hp => hq _ _ (g1.prim (Post.tup (fun a z => g1.ptrk z) hp (g1.dtA hl1 hf)))⟩
      · cases h2
    · cases h2
end
end Q


namespace Q
open PySem L2
theorem res_self {e : Env} {d : D} (h : isAl d = false) : res e d = some d := by cases d <;> first | rfl | cases h
/-! ### statements -/
inductive Fl where
  | nx | bk | ct
  | rt (d : D)
abbrev MS := M Fl
def NoAl (ts : List (V × D)) : Prop := ∀ p ∈ ts, isAl p.2 = false
def SOk (C : Cn) (B : Bs) (σ0 : St) (ts : List (V × D)) (E : Ends) : Rs Fl → Prop
  | .ok .nx e => ∀ σ' H', Rep C B σ0 H' σ' e ts → E.nx σ' H'
  | .ok .bk e => ∀ σ' H', Rep C B σ0 H' σ' e ts → E.bk σ' H'
  | .ok .ct e => ∀ σ' H', Rep C B σ0 H' σ' e ts → E.ct σ' H'
  | .ok (.rt d) e => ∀ v σ' H', isAl d = false → Rep C B σ0 H' σ' e (ts ++ [(v, d)]) → E.rt v H'
  | .ex x e => ∀ σ', XW C B σ0 σ' ts x e
def SS (C : Cn) (t : TS) (m : MS) : Prop := ∀ B σ0 σ H env ts, Rep C B σ0 H σ env ts → NoAl ts → ∀ r, m env = some r → ∀ E, SOk C B σ0 ts E r → t E σ H
/-- what is done with a value: a target -/
abbrev MG := D → Env → Option Env
def SG (C : Cn) (g : TG) (m : MG) : Prop := ∀ B σ0 σ H env ts v d e', Rep C B σ0 H σ env (ts ++ [(v, d)]) → isAl d = false → NoAl ts → m d env = some e' → ∀ N, (∀ σ' H', Rep C B σ0 H' σ' e' ts → N σ' H') → g v σ H N
abbrev MGs := List D → Env → Option Env
def SGs (C : Cn) (g : TGs) (m : MGs) : Prop := ∀ B σ0 σ H env ts vs ds e', Rep C B σ0 H σ env (ts ++ vs.zip ds) → vs.length = ds.length → (∀ d ∈ ds, isFz d = true) → NoAl ts → m ds env = some e' → ∀ N, (∀ σ' H', Rep C B σ0 H' σ' e' ts → N σ' H') → g vs σ H N
section
variable {C : Cn} {B : Bs} {σ0 σ : St} {H H1 : Hp} {env env1 : Env} {ts ts1 : List (V × D)} {S : Ix → Addr → Prop} {v : V} {d : D}
/-- the temporary on top goes into slot n -/
theorem Good.asg (g : Good C B σ0 H σ env (ts ++ (v, d) :: ts1) S) (hd : isAl d = false) (ht : NoAl ts) (ht1 : NoAl ts1) (n : Nat) (hA : C.A n = true) : Good C B σ0 H (σ.set n (some v)) (env.set n (some d)) (ts ++ (.non, .non) :: ts1) (su (su S (.inr ts.length) fun _ => False) (.inl n) (S (.inr ts.length))) := by
  have ho : Ow C.K (pset B S) H v d (S (.inr ts.length)) := by
    rcases g.tmp ts.length v d (by simp) with ⟨k, rfl, _⟩ | h
    · cases hd
    · exact h
  have hsub : ∀ i a, su (su S (.inr ts.length) fun _ => False) (.inl n) (S (.inr ts.length)) i a → ∃ j, S j a ∧ (i ≠ .inl n → j = i ∧ i ≠ .inr ts.length) ∧ (i = .inl n → j = .inr ts.length) := by
    rintro i a (⟨rfl, h⟩ | ⟨hi, ⟨rfl, h⟩ | ⟨hi2, h⟩⟩)
    · exact ⟨_, h, fun z => absurd rfl z, fun _ => rfl⟩
    · exact h.elim
    · exact ⟨i, h, fun _ => ⟨rfl, hi2⟩, fun z => absurd z hi⟩
  have hp : ∀ a, pset B (su (su S (.inr ts.length) fun _ => False) (.inl n) (S (.inr ts.length))) a → pset B S a := by
    rintro a (h | ⟨i, h⟩)
    · exact .inl h
    · obtain ⟨j, hj, _⟩ := hsub i a h; exact .inr ⟨j, hj⟩
  have mv : ∀ {v d s}, Ow C.K (pset B S) H v d s → Ow C.K (pset B (su (su S (.inr ts.length) fun _ => False) (.inl n) (S (.inr ts.length)))) H v d s := fun h => h.move .refl (fun a z => .inl (hp a z)) fun _ _ => rfl
  refine ⟨g.kp, g.fr, fun i a h => ?_, fun i a h => ?_, fun i j a h1 h2 => ?_, by rw [List.length_set, List.length_set]; exact g.len, ⟨fun j hj => ?_, by rw [List.length_set]; exact g.keep.2⟩, fun i d' e => ?_, fun j v' d' e => ?_, fun p hq => (g.hld p hq).move .refl fun a z => .inl (hp a z), g.fx⟩
  · obtain ⟨j, hj, _⟩ := hsub i a h; exact g.sub j a hj
  · obtain ⟨j, hj, _⟩ := hsub i a h; exact g.trk j a hj
  · obtain ⟨k1, q1, p1, r1⟩ := hsub i a h1
    obtain ⟨k2, q2, p2, r2⟩ := hsub j a h2
    have e := g.dis _ _ a q1 q2
    by_cases e1 : i = .inl n
    · by_cases e2 : j = .inl n
      · rw [e1, e2]
      · have := r1 e1; have := p2 e2; exact absurd (by rw [← this.1, ← e, r1 e1]) (p2 e2).2
    · by_cases e2 : j = .inl n
      · exact absurd (by rw [← (p1 e1).1, e, r2 e2]) (p1 e1).2
      · rw [← (p1 e1).1, ← (p2 e2).1]; exact e
  · rw [List.getElem?_set_ne (fun z => by subst z; rw [hA] at hj; cases hj)]; exact g.keep.1 j hj
  · by_cases hi : i = n
    · subst hi
      have hl : i < env.length := by
        have := (List.getElem?_eq_some_iff.mp e).1
        simpa using this
      rw [List.getElem?_set_self hl] at e
      cases e
      exact ⟨v, by rw [List.getElem?_set_self (by rw [g.len]; exact hl)], (mv ho).iff fun b => su_same⟩
    · rw [List.getElem?_set_ne (Ne.symm hi)] at e
      obtain ⟨w, h1, h2⟩ := g.slot i d' e
      refine ⟨w, by rw [List.getElem?_set_ne (Ne.symm hi)]; exact h1, (mv h2).iff fun b => ?_⟩
      rw [su_ne (by simp [hi]), su_ne (by simp)]
  · by_cases hj : j = ts.length
    · subst hj
      simp at e
      obtain ⟨rfl, rfl⟩ := e
      refine .inr (.fz .non fun b z => ?_)
      rw [su_ne (by simp)] at z
      exact su_same.mp z
    · have e2 : (ts ++ (v, d) :: ts1)[j]? = some (v', d') := by
        by_cases hj2 : j < ts.length
        · rw [List.getElem?_append_left hj2] at e ⊢; exact e
        · rw [List.getElem?_append_right (by omega)] at e ⊢
          obtain ⟨m, hm⟩ : ∃ m, j - ts.length = m + 1 := ⟨j - ts.length - 1, by omega⟩
          rw [hm] at e ⊢
          simpa using e
      have hna : isAl d' = false := by
        by_cases hj2 : j < ts.length
        · rw [List.getElem?_append_left hj2] at e
          exact ht _ (List.mem_of_getElem? e)
        · rw [List.getElem?_append_right (by omega)] at e
          obtain ⟨m, hm⟩ : ∃ m, j - ts.length = m + 1 := ⟨j - ts.length - 1, by omega⟩
          rw [hm] at e
          exact ht1 _ (List.mem_of_getElem? (by simpa using e))
      rcases g.tmp j v' d' e2 with ⟨k, rfl, _⟩ | h
      · cases hna
      · refine .inr ((mv h).iff fun b => ?_)
        rw [su_ne (by simp), su_ne (by simp [hj])]
theorem NoAl.snoc (h : NoAl ts) (hd : isAl d = false) : NoAl (ts ++ [(v, d)]) := fun p hp => by
  rcases List.mem_append.mp hp with hp | hp
  · exact h p hp
  · simp at hp; subst hp; exact hd
end
def gNm (n : Nat) : MG := fun d e => some (e.set n (some d))
theorem sg_name {C : Cn} {n : Nat} (hA : C.A n = true) : SG C (gName n) (gNm n) := by
  rintro B σ0 σ H env ts v d e' ⟨S, g⟩ hd ht hm N hN
  cases hm
  exact hN _ _ ⟨_, (g.asg (ts1 := []) hd ht (fun p hp => by simp at hp) n hA).pop⟩
def gsNil : MGs := fun ds e => match ds with | [] => some e | _ => none
def gsCons (g : MG) (r : MGs) : MGs := fun ds e => match ds with
  | d :: ds => (match g d e with | some e1 => r ds e1 | none => none)
  | [] => none
theorem sgs_nil {C : Cn} : SGs C gNil gsNil := by
  rintro B σ0 σ H env ts vs ds e' R hl hf ht hm N hN
  cases ds with
  | nil =>
    cases hm
    have : vs = [] := List.eq_nil_of_length_eq_zero (by simpa using hl)
    subst this
    exact ⟨rfl, hN _ _ (by simpa using R)⟩
  | cons d ds => cases hm
/-- a name takes the first of several -/
theorem sgs_name {C : Cn} {n : Nat} {t : TGs} {m : MGs} (hA : C.A n = true) (h : SGs C t m) : SGs C (gCons (gName n) t) (gsCons (gNm n) m) := by
  rintro B σ0 σ H env ts vs ds e' R hl hf ht hm N hN
  cases ds with
  | nil => cases hm
  | cons d ds =>
    cases vs with
    | nil => simp at hl
    | cons v vs =>
      refine ⟨v, vs, rfl, ?_⟩
      obtain ⟨S, g⟩ := R
      have hz : NoAl (vs.zip ds) := fun p hp => by
        obtain ⟨x, y⟩ := p
        have := hf y (List.mem_cons_of_mem _ (List.of_mem_zip hp).2)
        cases y <;> first | rfl | cases this
      have hd : isAl d = false := by
        have := hf d (by simp)
        cases d <;> first | rfl | cases this
      have g1 := Good.asg (ts1 := vs.zip ds) (by simpa using g) hd ht hz n hA
      refine h B σ0 _ H _ (ts ++ [(.non, .non)]) vs ds e' ⟨_, by simpa using g1⟩ (by simpa using hl) (fun d' hd' => hf d' (by simp [hd'])) (ht.snoc rfl) hm N fun σ' H' R' => hN σ' H' R'.pop
/-- a, b = .. -/
def gUn (n : Nat) (m : MGs) : MG := fun d e => match seqD d with
  | some ds => if ds.length = n then m ds e else none
  | none => none
section
variable {C : Cn} {te ta tb tc : TE} {ma mb mc : ME} {tt tu : TT} {mt mu : MT} {tr : TA} {mr : MA} {t u : TS} {ms mv : MS}
theorem pushA {B : Bs} {σ0 σ : St} {H : Hp} {env : Env} : ∀ {vs : List V} {ds : List D} {ts : List (V × D)} {S : Ix → Addr → Prop}, Good C B σ0 H σ env ts S → DtA C.K (pset B S) H vs ds → (∀ d ∈ ds, isFz d = true) ∧ Rep C B σ0 H σ env (ts ++ vs.zip ds)
  | [], [], ts, S, g, h => ⟨fun d hd => by simp at hd, by simp only [List.zip_nil_left, List.append_nil]; exact ⟨S, g⟩⟩
  | [], _ :: _, ts, S, g, h => by have := h.1; simp at this
  | _ :: _, [], ts, S, g, h => by have := h.1; simp at this
  | v :: vs, d :: ds, ts, S, g, h => by
    have hd : Dt C.K (pset B S) H v d := h.2 0 v d rfl rfl
    have ht : DtA C.K (pset B S) H vs ds := ⟨by simpa using h.1, fun i x y e1 e2 => h.2 (i + 1) x y (by simpa using e1) (by simpa using e2)⟩
    have g1 := g.push (H1 := H) (v := v) (d := d) ts.length (Nat.le_refl _) (fun _ => False) .refl (fun a z => z.elim) (.fz (hd.move .refl fun a z => .inl (nsub (s := S) g z).1) fun _ z => z)
    rw [List.take_length] at g1
    obtain ⟨h1, h2⟩ := pushA (vs := vs) (ds := ds) g1 (ht.move .refl fun a z => .inl (nsub (s := S) g z).1)
    refine ⟨fun d' hd' => ?_, by simpa using h2⟩
    rcases List.mem_cons.mp hd' with rfl | hd'
    · cases hd <;> rfl
    · exact h1 d' hd'
theorem sg_unp {n : Nat} {g : TGs} {m : MGs} (h : SGs C g m) : SG C (gUnp C.K n g) (gUn n m) := by
  rintro B σ0 σ H env ts v d e' ⟨S, gd⟩ hd ht hm N hN
  unfold gUn at hm
  split at hm
  · rename_i ds hs
    split at hm
    · rename_i hn
      have pk := gd.look (j := ts.length) (v := v) (d := d) (by simp) (res_self hd)
      obtain ⟨a, xs, rfl, hq, hA⟩ := pk.seq hs
      obtain ⟨hf, R⟩ := pushA gd.pop hA
      have go := h B σ0 σ H env ts xs ds e' R hA.1 hf ht hm N hN
      rcases hq with hq | hq
      · exact .inr ⟨a, xs, rfl, hq, by rw [hA.1]; exact hn, go⟩
      · exact .inl ⟨a, xs, rfl, hq, by rw [hA.1]; exact hn, go⟩
    · cases hm
  · cases hm
/-! statements -/
def mAsg (a : ME) (g : MG) : MS := fun e => bnd (a e) fun x e1 => match tk x e1 with
  | some (y, e2) => (match g y e2 with | some e3 => some (.ok .nx e3) | none => none)
  | none => none
theorem ss_asg {g : TG} {mg : MG} (ha : SE C ta ma) (hg : SG C g mg) : SS C (tAsg ta g) (mAsg ma mg) := by
  intro B σ0 σ H env ts R ht z hm E hE
  rcases bnd_inv hm with ⟨x, e, h1, rfl⟩ | ⟨x, e1, h1, h2⟩
  · exact ha B σ0 σ H env ts R _ h1 _ (hE σ)
  · refine ha B σ0 σ H env ts R _ h1 _ fun v H1 ⟨S, g1⟩ => ?_
    split at h2
    · rename_i y e2 h3
      split at h2
      · rename_i e3 h4
        cases h2
        obtain ⟨S1, g2, ho⟩ := g1.taken (ts1 := []) h3
        exact hg B σ0 σ H1 e2 ts v y e3 ⟨_, g2⟩ ho.noAl ht h4 _ hE
      · cases h2
    · cases h2
def mNext : MS := fun e => some (.ok .nx e)
theorem ss_next : SS C tNext mNext := by
  intro B σ0 σ H env ts R ht z hm E hE
  cases hm
  exact hE σ H R
def mBreak : MS := fun e => some (.ok .bk e)
def mCont : MS := fun e => some (.ok .ct e)
theorem ss_break : SS C tBreak mBreak := by
  intro B σ0 σ H env ts R ht z hm E hE
  cases hm
  exact hE σ H R
theorem ss_cont : SS C tCont mCont := by
  intro B σ0 σ H env ts R ht z hm E hE
  cases hm
  exact hE σ H R
def mSeq (a b : MS) : MS := fun e => bnd (a e) fun f e1 => match f with
  | .nx => b e1
  | f => some (.ok f e1)
theorem ss_seq (ha : SS C t ms) (hb : SS C u mv) : SS C (tSeq t u) (mSeq ms mv) := by
  intro B σ0 σ H env ts R ht z hm E hE
  rcases bnd_inv hm with ⟨x, e, h1, rfl⟩ | ⟨f, e1, h1, h2⟩
  · exact ha B σ0 σ H env ts R ht _ h1 _ hE
  · refine ha B σ0 σ H env ts R ht _ h1 _ ?_
    cases f with
    | nx => exact fun σ' H' R' => hb B σ0 σ' H' e1 ts R' ht _ h2 _ hE
    | bk => cases h2; exact hE
    | ct => cases h2; exact hE
    | rt d => cases h2; exact hE
def mDrop (a : ME) : MS := fun e => bnd (a e) fun _ e1 => some (.ok .nx e1)
theorem ss_drop (ha : SE C ta ma) : SS C (tDrop ta) (mDrop ma) := by
  intro B σ0 σ H env ts R ht z hm E hE
  rcases bnd_inv hm with ⟨x, e, h1, rfl⟩ | ⟨x, e1, h1, h2⟩
  · exact ha B σ0 σ H env ts R _ h1 _ (hE σ)
  · cases h2
    exact ha B σ0 σ H env ts R _ h1 _ fun v H1 R1 => hE σ H1 R1.pop
def mIfS (c : MT) (a b : MS) : MS := fun e => bnd (c e) fun x e1 => if x = true then a e1 else b e1
theorem ss_if (hc : ST C tt mt) (ha : SS C t ms) (hb : SS C u mv) : SS C (tIfS tt t u) (mIfS mt ms mv) := by
  intro B σ0 σ H env ts R ht z hm E hE
  rcases bnd_inv hm with ⟨x, e, h1, rfl⟩ | ⟨c, e1, h1, h2⟩
  · exact hc B σ0 σ H env ts R _ h1 _ (hE σ)
  · refine hc B σ0 σ H env ts R _ h1 _ fun H1 R1 => ?_
    cases c with
    | true => rw [if_pos rfl] at h2 ⊢; exact ha B σ0 σ H1 e1 ts R1 ht _ h2 _ hE
    | false => rw [if_neg Bool.false_ne_true] at h2 ⊢; exact hb B σ0 σ H1 e1 ts R1 ht _ h2 _ hE
/-- return e: what slot k (no parameter) has goes out -/
def out (np : Nat) (x : D) (e : Env) : Option (D × Env) := match x with
  | .al k => if k < np then tk x e else (match e[k]? with
    | some (some d) => some (d, e.set k none)
    | _ => none)
  | d => some (d, e)
def mRet (np : Nat) (a : ME) : MS := fun e => bnd (a e) fun x e1 => match out np x e1 with
  | some (y, e2) => some (.ok (.rt y) e2)
  | none => none
theorem Good.outs {B : Bs} {σ0 σ : St} {H : Hp} {env env1 : Env} {ts : List (V × D)} {S : Ix → Addr → Prop} {v : V} {d d' : D} {np : Nat} (g : Good C B σ0 H σ env (ts ++ [(v, d)]) S) (ht : NoAl ts) (h : out np d env = some (d', env1)) : isAl d' = false ∧ Rep C B σ0 H σ env1 (ts ++ [(v, d')]) := by
  by_cases ha : ∃ k, d = .al k ∧ ¬ k < np
  · obtain ⟨k, rfl, hk⟩ := ha
    simp only [out, if_neg hk] at h
    rcases g.tmp ts.length v (.al k) (by simp) with ⟨k', e, h2⟩ | ho
    · cases e
      split at h
      case h_2 => cases h
      rename_i h3
      cases h
      obtain ⟨v', hv', ho⟩ := g.slot k d' h3
      rw [h2] at hv'; cases hv'
      refine ⟨ho.noAl, ?_⟩
      have hsub : ∀ i a, su (su S (.inl k) fun _ => False) (.inr ts.length) (S (.inl k)) i a → ∃ j, S j a ∧ (i ≠ .inr ts.length → j = i ∧ i ≠ .inl k) ∧ (i = .inr ts.length → j = .inl k) := by
        rintro i a (⟨rfl, h⟩ | ⟨hi, ⟨rfl, h⟩ | ⟨hi2, h⟩⟩)
        · exact ⟨_, h, fun z => absurd rfl z, fun _ => rfl⟩
        · exact h.elim
        · exact ⟨i, h, fun _ => ⟨rfl, hi2⟩, fun z => absurd z hi⟩
      have hp : ∀ a, pset B (su (su S (.inl k) fun _ => False) (.inr ts.length) (S (.inl k))) a → pset B S a := by
        rintro a (h | ⟨i, h⟩)
        · exact .inl h
        · obtain ⟨j, hj, _⟩ := hsub i a h; exact .inr ⟨j, hj⟩
      have mv : ∀ {v d s}, Ow C.K (pset B S) H v d s → Ow C.K (pset B (su (su S (.inl k) fun _ => False) (.inr ts.length) (S (.inl k)))) H v d s := fun h => h.move .refl (fun a z => .inl (hp a z)) fun _ _ => rfl
      refine ⟨su (su S (.inl k) fun _ => False) (.inr ts.length) (S (.inl k)), g.kp, g.fr, fun i a h => ?_, fun i a h => ?_, fun i j a h1 h2 => ?_, by rw [List.length_set]; exact g.len, g.keep, fun i d1 e => ?_, fun j v1 d1 e => ?_, fun p hq => (g.hld p hq).move .refl fun a z => .inl (hp a z), g.fx⟩
      · obtain ⟨j, hj, _⟩ := hsub i a h; exact g.sub j a hj
      · obtain ⟨j, hj, _⟩ := hsub i a h; exact g.trk j a hj
      · obtain ⟨k1, q1, p1, r1⟩ := hsub i a h1
        obtain ⟨k2, q2, p2, r2⟩ := hsub j a h2
        have e := g.dis _ _ a q1 q2
        by_cases e1 : i = .inr ts.length
        · by_cases e2 : j = .inr ts.length
          · rw [e1, e2]
          · exact absurd (by rw [← (p2 e2).1, ← e, r1 e1]) (p2 e2).2
        · by_cases e2 : j = .inr ts.length
          · exact absurd (by rw [← (p1 e1).1, e, r2 e2]) (p1 e1).2
          · rw [← (p1 e1).1, ← (p2 e2).1]; exact e
      · have hik : i ≠ k := fun z => by
          subst z
          rw [List.getElem?_set_self (List.getElem?_eq_some_iff.mp h3).1] at e
          cases e
        rw [List.getElem?_set_ne (Ne.symm hik)] at e
        obtain ⟨w, h1, h2⟩ := g.slot i d1 e
        refine ⟨w, h1, (mv h2).iff fun b => ?_⟩
        rw [su_ne (by simp), su_ne (by simp [hik])]
      · by_cases hj : j = ts.length
        · subst hj
          simp at e
          obtain ⟨rfl, rfl⟩ := e
          exact .inr ((mv ho).iff fun b => su_same)
        · have hj2 : j < ts.length := by
            have := (List.getElem?_eq_some_iff.mp e).1
            simp at this
            omega
          rw [List.getElem?_append_left hj2] at e
          have hna := ht _ (List.mem_of_getElem? e)
          rcases g.tmp j v1 d1 (by rw [List.getElem?_append_left hj2]; exact e) with ⟨k2, rfl, _⟩ | h
          · cases hna
          · refine .inr ((mv h).iff fun b => ?_)
            rw [su_ne (by simp [hj]), su_ne (by simp)]
    · exact absurd ho.noAl (by simp [isAl])
  · have h' : tk d env = some (d', env1) := by
      cases d with
      | al k =>
        have hk : k < np := Decidable.byContradiction fun z => ha ⟨k, rfl, z⟩
        simp only [out, if_pos hk] at h
        exact h
      | _ => exact h
    obtain ⟨S1, g1, ho⟩ := g.taken (ts1 := []) h'
    exact ⟨ho.noAl, _, g1⟩
theorem ss_ret {np : Nat} (ha : SE C ta ma) : SS C (tRet ta) (mRet np ma) := by
  intro B σ0 σ H env ts R ht z hm E hE
  rcases bnd_inv hm with ⟨x, e, h1, rfl⟩ | ⟨x, e1, h1, h2⟩
  · exact ha B σ0 σ H env ts R _ h1 _ (hE σ)
  · refine ha B σ0 σ H env ts R _ h1 _ fun v H1 ⟨S, g1⟩ => ?_
    split at h2
    · rename_i y e2 h3
      cases h2
      obtain ⟨ha, R2⟩ := g1.outs ht h3
      exact hE v σ H1 ha R2
    · cases h2
def mRetN : MS := fun e => some (.ok (.rt .non) e)
theorem ss_retN : SS C tRetN mRetN := by
  rintro B σ0 σ H env ts ⟨S, g⟩ ht z hm E hE
  cases hm
  exact hE _ σ H rfl (Good.prim (ts1 := []) (by rw [List.append_nil]; exact g) (Post.dt .non))
/-- x += e -/
def mAug (n : Nat) (f : D → D → Option D) (a : ME) : MS := fun e => match e[n]? with
  | some (some x) => if isFz x = true then bnd (a e) fun y e1 => (match res e1 y with
    | some y' => (match f x y' with | some d => some (.ok .nx (e1.set n (some d))) | none => none)
    | none => none) else none
  | _ => none
theorem ss_aug {n : Nat} {r : TIp} {f : D → D → Option D} (hA : C.A n = true) (p : P2 C.K r f) (ha : SE C ta ma) : SS C (tAug n ta r) (mAug n f ma) := by
  rintro B σ0 σ H env ts ⟨S, g⟩ ht z hm E hE
  unfold mAug at hm
  split at hm
  · rename_i x hx
    split at hm
    · rename_i hfz
      obtain ⟨v, hv, ho⟩ := g.slot n x hx
      refine ⟨v, hv, ?_⟩
      have R0 : Rep C B σ0 H σ env (ts ++ [(v, x)]) := Good.prim (ts1 := []) (by rw [List.append_nil]; exact g) (Post.dt (ho.dt hfz))
      have hxa : isAl x = false := ho.noAl
      rcases bnd_inv hm with ⟨xx, e, h1, rfl⟩ | ⟨y, e1, h1, h2⟩
      · exact ha B σ0 σ H env _ R0 _ h1 _ (XW.push (hE σ))
      · refine ha B σ0 σ H env _ R0 _ h1 _ fun w H1 ⟨S1, g1⟩ => ?_
        rw [List.append_assoc] at g1
        split at h2
        · rename_i y' hy
          split at h2
          · rename_i d hd
            cases h2
            refine p _ _ _ _ _ _ _ _ (fun a z => g1.ptrk z) (g1.look (j := ts.length) (v := v) (d := x) (by simp) (res_self hxa)) (g1.look (j := ts.length + 1) (by simp) hy) hd fun u H2 pp => ?_
            obtain ⟨S2, g2⟩ := g1.prim pp
            have hda : isAl d = false := by
              obtain ⟨_, s', _, o⟩ := pp
              exact o.noAl
            exact hE _ _ ⟨_, (g2.asg (ts1 := []) hda ht (fun p hp => by simp at hp) n hA).pop⟩
          · cases h2
        · cases h2
    · cases hm
  · cases hm
end
end Q


namespace Q
open PySem L2
section
variable {C : Cn} {B : Bs} {σ0 σ : St} {H H1 : Hp} {env env1 : Env} {ts ts1 fr : List (V × D)} {S : Ix → Addr → Prop} {v : V} {d : D}
theorem XOk.less {ps qs : Addr → Prop} {x : Xc} {c : Value} {o : Option Addr} (h : XOk C ps H x c o) (hq : ∀ a, qs a → ps a) : XOk C qs H x c o := by
  refine ⟨h.1, ?_⟩
  rcases h.2 with h | ⟨d, h1, h2⟩
  · exact .inl h
  · exact .inr ⟨d, h1, h2.move .refl fun a z => .inl (hq a z)⟩
/-- what is held stands aside -/
theorem Rep.aside (r : Rep C B σ0 H σ env ts) : ∃ B' : Bs, Rep C B' σ0 H σ env [] ∧ ∀ H' e' ts' S', Good C B' σ0 H' σ e' ts' S' → ∃ U, Good C B σ0 H' σ e' (ts ++ ts') U ∧ ∀ a, pset B U a → pset B' S' a := by
  obtain ⟨S, g⟩ := r
  obtain ⟨T, hT⟩ : ∃ T : Ix → Addr → Prop, ∀ i a, T i a ↔ ∃ k, i = .inl k ∧ S i a := ⟨fun i a => ∃ k, i = .inl k ∧ S i a, fun _ _ => Iff.rfl⟩
  let B' : Bs := ⟨fun a => B.ps0 a ∨ ∃ j, S (.inr j) a, H, fun a => ∃ i, S (.inl i) a⟩
  have hps : ∀ a, pset B' T a → pset B S a := by
    rintro a ((h | ⟨j, h⟩) | ⟨i, h⟩)
    · exact .inl h
    · exact .inr ⟨_, h⟩
    · exact .inr ⟨_, ((hT i a).mp h).choose_spec.2⟩
  refine ⟨B', ⟨T, .refl, fun a h => ?_, fun i a h => ?_, fun i a h => ?_, fun i j a h1 h2 => ?_, g.len, g.keep, fun i d e => ?_, fun j v d e => by simp at e, fun p hp => (g.hld p hp).move .refl fun a z => .inl (hps a z), g.fx⟩, ?_⟩
  · rcases h with h | ⟨j, h⟩
    · exact ⟨g.ptrk (.inl h), fun ⟨i, z⟩ => (g.sub _ a z).2 h⟩
    · exact ⟨g.trk _ a h, fun ⟨i, z⟩ => by have := g.dis _ _ a h z; cases this⟩
  · obtain ⟨k, rfl, h⟩ := (hT i a).mp h
    refine ⟨.inl ⟨k, h⟩, ?_⟩
    rintro (z | ⟨j, z⟩)
    · exact (g.sub _ a h).2 z
    · have := g.dis _ _ a h z; cases this
  · exact g.trk i a ((hT i a).mp h).choose_spec.2
  · exact g.dis i j a ((hT i a).mp h1).choose_spec.2 ((hT j a).mp h2).choose_spec.2
  · obtain ⟨w, h1, h2⟩ := g.slot i d e
    exact ⟨w, h1, (h2.move .refl (fun a z => .inl (hps a z)) fun _ _ => rfl).iff fun b => (hT _ b).trans ⟨fun ⟨_, _, z⟩ => z, fun z => ⟨i, rfl, z⟩⟩⟩
  intro H' e' ts' S' g'
  let U : Ix → Addr → Prop := fun i a => match i with
    | .inl i => S' (.inl i) a
    | .inr j => if j < ts.length then S (.inr j) a else S' (.inr (j - ts.length)) a
  have hU : ∀ i a, U i a → (∃ k, S' k a ∧ ((∃ n, i = .inl n ∧ k = .inl n) ∨ ∃ n, i = .inr (ts.length + n) ∧ k = .inr n)) ∨ ∃ j, j < ts.length ∧ i = .inr j ∧ S (.inr j) a := by
    intro i a h
    cases i with
    | inl n => exact .inl ⟨.inl n, h, .inl ⟨n, rfl, rfl⟩⟩
    | inr j =>
      by_cases hj : j < ts.length
      · exact .inr ⟨j, hj, rfl, by simpa [U, hj] using h⟩
      · exact .inl ⟨.inr (j - ts.length), by simpa [U, hj] using h, .inr ⟨j - ts.length, by congr 1; omega, rfl⟩⟩
  have hB : ∀ a, (∃ i, S (.inl i) a) ∨ H a = none → (B.S0 a ∨ B.H0 a = none) := by
    rintro a (⟨i, h⟩ | h)
    · exact (g.sub _ a h).1
    · exact .inr (g.kp.dom a h)
  have hUp : ∀ a, pset B U a → pset B' S' a := by
    rintro a (h | ⟨i, h⟩)
    · exact .inl (.inl h)
    · rcases hU i a h with ⟨k, h, _⟩ | ⟨j, _, _, h⟩
      · exact .inr ⟨k, h⟩
      · exact .inl (.inr ⟨j, h⟩)
  have hkS : Kp (pset B S) H H' := g'.kp.more fun a ⟨i, z⟩ => .inr ⟨_, z⟩
  have hqS : ∀ a, pset B U a → pset B S a ∨ H a = none := by
    rintro a (h | ⟨i, h⟩)
    · exact .inl (.inl h)
    · rcases hU i a h with ⟨k, h, _⟩ | ⟨j, _, _, h⟩
      · rcases (g'.sub k a h).1 with ⟨i, z⟩ | z
        · exact .inl (.inr ⟨_, z⟩)
        · exact .inr z
      · exact .inl (.inr ⟨_, h⟩)
  refine ⟨U, ⟨⟨fun b o n e => ?_, fun b e => g.kp.dom b (g'.kp.dom b e)⟩, g.fr, fun i a h => ?_, fun i a h => ?_, fun i j a h1 h2 => ?_, g'.len, g'.keep, fun i d e => ?_, fun j v d e => ?_, fun p hp => (g.hld p hp).move hkS hqS, g.fx⟩, hUp⟩
  · refine g'.kp.get b o (fun ⟨i, z⟩ => ?_) (g.kp.get b o n e)
    rcases (g.sub _ b z).1 with z | z
    · exact n z
    · rw [z] at e; cases e
  · rcases hU i a h with ⟨k, h, _⟩ | ⟨j, _, _, h⟩
    · have := g'.sub k a h
      exact ⟨hB a this.1, fun z => this.2 (.inl z)⟩
    · exact g.sub _ a h
  · rcases hU i a h with ⟨k, h, _⟩ | ⟨j, _, _, h⟩
    · exact g'.trk k a h
    · exact fun z => g.trk _ a h (g'.kp.dom a z)
  · rcases hU i a h1 with ⟨k, h1, e1⟩ | ⟨j1, l1, rfl, h1'⟩
    · rcases hU j a h2 with ⟨k2, h2, e2⟩ | ⟨j2, l2, rfl, h2'⟩
      · have e := g'.dis _ _ a h1 h2
        subst e
        rcases e1 with ⟨n, rfl, rfl⟩ | ⟨n, rfl, rfl⟩
        · rcases e2 with ⟨n2, rfl, e2⟩ | ⟨n2, rfl, e2⟩
          · cases e2; rfl
          · cases e2
        · rcases e2 with ⟨n2, rfl, e2⟩ | ⟨n2, rfl, e2⟩
          · cases e2
          · cases e2; rfl
      · exact absurd (.inr ⟨_, h2'⟩) (g'.sub k a h1).2
    · rcases hU j a h2 with ⟨k2, h2, e2⟩ | ⟨j2, l2, rfl, h2'⟩
      · exact absurd (.inr ⟨_, h1'⟩) (g'.sub k2 a h2).2
      · exact g.dis _ _ a h1' h2'
  · obtain ⟨w, h1, h2⟩ := g'.slot i d e
    exact ⟨w, h1, h2.move .refl (fun a z => .inl (hUp a z)) fun _ _ => rfl⟩
  · by_cases hj : j < ts.length
    · rw [List.getElem?_append_left hj] at e
      rcases g.tmp j v d e with h | h
      · exact .inl h
      · refine .inr ((h.move hkS hqS fun a z => ?_).iff fun b => by simp [U, hj])
        have hn : ¬ B'.S0 a := fun ⟨i, w⟩ => by have := g.dis _ _ a z w; cases this
        cases e : H a with
        | none => exact absurd e (g.trk _ a z)
        | some o => exact g'.kp.get a o hn e
    · rw [List.getElem?_append_right (by omega)] at e
      rcases g'.tmp _ v d e with h | h
      · exact .inl h
      · exact .inr ((h.move .refl (fun a z => .inl (hUp a z)) fun _ _ => rfl).iff fun b => by simp [U, hj])
/-- what stands between goes -/
theorem Rep.mid (r : Rep C B σ0 H σ env (ts ++ fr ++ [(v, d)])) (hd : isAl d = false) : Rep C B σ0 H σ env (ts ++ [(v, d)]) := by
  obtain ⟨S, g⟩ := r
  have ho : Ow C.K (pset B S) H v d (S (.inr (ts ++ fr).length)) := by
    rcases g.tmp (ts ++ fr).length v d (by simp) with ⟨k, rfl, _⟩ | h
    · cases hd
    · exact h
  let U : Ix → Addr → Prop := fun i a => match i with
    | .inl i => S (.inl i) a
    | .inr j => if j < ts.length then S (.inr j) a else j = ts.length ∧ S (.inr (ts ++ fr).length) a
  have hU : ∀ i a, U i a → ∃ k, S k a ∧ ((i = k ∧ k ≠ .inr (ts ++ fr).length) ∨ (i = .inr ts.length ∧ k = .inr (ts ++ fr).length)) := by
    intro i a h
    cases i with
    | inl n => exact ⟨.inl n, h, .inl ⟨rfl, by simp⟩⟩
    | inr j =>
      by_cases hj : j < ts.length
      · exact ⟨.inr j, by simpa [U, hj] using h, .inl ⟨rfl, by simp; omega⟩⟩
      · have h' : j = ts.length ∧ S (.inr (ts ++ fr).length) a := by simpa [U, hj] using h
        exact ⟨_, h'.2, .inr ⟨by rw [h'.1], rfl⟩⟩
  have hp : ∀ a, pset B U a → pset B S a := by
    rintro a (h | ⟨i, h⟩)
    · exact .inl h
    · obtain ⟨k, h, _⟩ := hU i a h; exact .inr ⟨k, h⟩
  have mv : ∀ {v d s}, Ow C.K (pset B S) H v d s → Ow C.K (pset B U) H v d s := fun h => h.move .refl (fun a z => .inl (hp a z)) fun _ _ => rfl
  refine ⟨U, g.kp, g.fr, fun i a h => ?_, fun i a h => ?_, fun i j a h1 h2 => ?_, g.len, g.keep, fun i d e => ?_, fun j v' d' e => ?_, fun p hq => (g.hld p hq).move .refl fun a z => .inl (hp a z), g.fx⟩
  · obtain ⟨k, h, _⟩ := hU i a h; exact g.sub k a h
  · obtain ⟨k, h, _⟩ := hU i a h; exact g.trk k a h
  · obtain ⟨k1, h1, e1⟩ := hU i a h1
    obtain ⟨k2, h2, e2⟩ := hU j a h2
    have e := g.dis _ _ a h1 h2
    subst e
    rcases e1 with ⟨rfl, n1⟩ | ⟨rfl, q1⟩
    · rcases e2 with ⟨rfl, n2⟩ | ⟨rfl, q2⟩
      · rfl
      · exact absurd q2 n1
    · rcases e2 with ⟨rfl, n2⟩ | ⟨rfl, q2⟩
      · exact absurd q1 n2
      · rfl
  · obtain ⟨w, h1, h2⟩ := g.slot i d e
    exact ⟨w, h1, mv h2⟩
  · by_cases hj : j < ts.length
    · rw [List.getElem?_append_left hj] at e
      rcases g.tmp j v' d' (by rw [List.append_assoc, List.getElem?_append_left hj]; exact e) with h | h
      · exact .inl h
      · exact .inr ((mv h).iff fun b => by simp [U, hj])
    · rw [List.getElem?_append_right (by omega)] at e
      obtain ⟨m, hm⟩ : ∃ m, j - ts.length = m := ⟨_, rfl⟩
      rw [hm] at e
      cases m with
      | zero =>
        simp at e
        obtain ⟨rfl, rfl⟩ := e
        have : j = ts.length := by omega
        subst this
        exact .inr ((mv ho).iff fun b => by simp [U])
      | succ m => simp at e
theorem Good.mut (g : Good C B σ0 H σ env ts S) {n : Nat} {ds ds' : List D} {a : Addr} {xs xs' : List V} (he : env[n]? = some (some (.mls ds))) (hv : σ[n]? = some (some (.ref a))) (ha : H a = some (.lst xs)) (h' : DtA C.K (pset B S) H xs' ds') :
    Rep C B σ0 (L2.upd H a (.lst xs')) σ (env.set n (some (.mls ds'))) ts := by
  obtain ⟨v, hv', ho⟩ := g.slot n _ he
  rw [hv] at hv'; cases hv'
  cases ho with
  | fz h _ => cases h
  | mls h1 h2 h3 =>
    refine ⟨_, g.put he hv (S (.inl n)) (.mut ((h3 a).mpr rfl)) (fun b z => ⟨.inl z, ?_⟩) (.mls upd_same (h'.move (.mut (.inr ⟨_, (h3 a).mpr rfl⟩)) fun b z => ?_) h3)⟩
    · rw [(h3 b).mp z, upd_same]; simp
    · rcases z with z | ⟨i, ⟨rfl, z⟩ | ⟨_, z⟩⟩
      · exact .inl (.inl z)
      · exact .inl (.inr ⟨_, z⟩)
      · exact .inl (.inr ⟨_, z⟩)
end
/-! ### lists that change -/
def mApp (n : Nat) (a : ME) : ME := fun e => match e[n]? with
  | some (some (.mls _)) => bnd (a e) fun x e1 => (match tkf x e1 with
    | some (y, e2) => (match e2[n]? with
      | some (some (.mls ds)) => if ds.length < 16777216 then some (.ok .non (e2.set n (some (.mls (ds ++ [y]))))) else none
      | _ => none)
    | none => none)
  | _ => none
section
variable {C : Cn} {te ta tb tc : TE} {ma mb mc : ME} {tt tu : TT} {mt mu : MT} {tr : TA} {mr : MA} {t u : TS} {ms mv : MS}
theorem Good.mlsAt {B : Bs} {σ0 σ : St} {H : Hp} {env : Env} {ts : List (V × D)} {S : Ix → Addr → Prop} {n : Nat} {ds : List D} (g : Good C B σ0 H σ env ts S) (he : env[n]? = some (some (.mls ds))) : ∃ a xs, σ[n]? = some (some (.ref a)) ∧ H a = some (.lst xs) ∧ DtA C.K (pset B S) H xs ds := by
  obtain ⟨v, hv, ho⟩ := g.slot n _ he
  cases ho with
  | fz h _ => cases h
  | mls h1 h2 h3 => exact ⟨_, _, hv, h1, h2⟩
theorem se_app {n : Nat} (ha : SE C ta ma) : SE C (tBM C.K "list" rAppend (tVar n) (tCons ta tNil)) (mApp n ma) := by
  intro B σ0 σ H env ts R z hm Q hq
  obtain ⟨S, g⟩ := R
  unfold mApp at hm
  split at hm
  · rename_i ds0 he0
    obtain ⟨a, xs0, hv, ha0, _⟩ := g.mlsAt he0
    refine ⟨_, hv, tyL ha0, ?_⟩
    rcases bnd_inv hm with ⟨x, e, h1, rfl⟩ | ⟨x, e1, h1, h2⟩
    · exact ha B σ0 σ H env ts ⟨S, g⟩ _ h1 _ hq
    · refine ha B σ0 σ H env ts ⟨S, g⟩ _ h1 _ fun v H1 ⟨S1, g1⟩ => ?_
      split at h2
      · rename_i y e2 h3
        split at h2
        · rename_i ds h4
          split at h2
          · rename_i hsz
            cases h2
            obtain ⟨S2, g2, hy⟩ := g1.takenF (ts1 := []) h3
            obtain ⟨a', xs, hv', ha', hA⟩ := g2.mlsAt h4
            rw [hv] at hv'; cases hv'
            refine ⟨a, xs, v, rfl, rfl, ha', by rw [sizeLine_eq, hA.1]; exact hsz, ?_⟩
            have R3 := g2.pop.mut h4 hv ha' (hA.snoc hy)
            obtain ⟨S3, g3⟩ := R3
            exact hq _ _ (Good.prim (ts1 := []) (by rw [List.append_nil]; exact g3) (Post.dt .non))
          · cases h2
        · cases h2
      · cases h2
  · cases hm
def mExt (n : Nat) (a : ME) : ME := fun e => match e[n]? with
  | some (some (.mls _)) => bnd (a e) fun x e1 => (match res e1 x with
    | some y => (match e1[n]? with
      | some (some (.mls ds)) => (match y with
        | .lst es => if ds.length + es.length ≤ 16777216 then some (.ok .non (e1.set n (some (.mls (ds ++ es))))) else none
        | .mls es => if ds.length + es.length ≤ 16777216 then some (.ok .non (e1.set n (some (.mls (ds ++ es))))) else none
        | .tup es => if ds.length + es.length ≤ 16777216 then some (.ok .non (e1.set n (some (.mls (ds ++ es))))) else none
        | _ => none)
      | _ => none)
    | none => none)
  | _ => none
theorem se_ext {n : Nat} (ha : SE C ta ma) : SE C (tBM C.K "list" (rExtendD C.K) (tVar n) (tCons ta tNil)) (mExt n ma) := by
  intro B σ0 σ H env ts R z hm Q hq
  obtain ⟨S, g⟩ := R
  unfold mExt at hm
  split at hm
  · rename_i ds0 he0
    obtain ⟨a, xs0, hv, ha0, _⟩ := g.mlsAt he0
    refine ⟨_, hv, tyL ha0, ?_⟩
    rcases bnd_inv hm with ⟨x, e, h1, rfl⟩ | ⟨x, e1, h1, h2⟩
    · exact ha B σ0 σ H env ts ⟨S, g⟩ _ h1 _ hq
    · refine ha B σ0 σ H env ts ⟨S, g⟩ _ h1 _ fun v H1 ⟨S1, g1⟩ => ?_
      split at h2
      · rename_i y h3
        split at h2
        · rename_i ds h4
          have pk := g1.look (j := ts.length) (v := v) (d := x) (by simp) h3
          obtain ⟨a', xs, hv', ha', hA⟩ := g1.mlsAt h4
          rw [hv] at hv'; cases hv'
          have fin : ∀ {ys : List V} {es : List D}, DtA C.K (pset B S1) H1 ys es → some (Rs.ok D.non (e1.set n (some (.mls (ds ++ es))))) = some z → Q .non (upd H1 a (.lst (xs ++ ys))) := fun hE hz => by
            cases hz
            obtain ⟨S3, g3⟩ := g1.pop.mut h4 hv ha' (hA.append hE)
            exact hq _ _ (Good.prim (ts1 := []) (by rw [List.append_nil]; exact g3) (Post.dt .non))
          split at h2
          · split at h2
            · rename_i es hsz
              obtain ⟨b, ys, rfl, hb, hE⟩ := pk.lst
              exact .inl ⟨a, b, xs, ys, rfl, rfl, ha', hb, by rw [hA.1, hE.1, sizeLine_eq]; exact hsz, fin hE h2⟩
            · cases h2
          · split at h2
            · rename_i es hsz
              obtain ⟨b, ys, rfl, hb, hE⟩ := pk.mls
              exact .inl ⟨a, b, xs, ys, rfl, rfl, ha', hb, by rw [hA.1, hE.1, sizeLine_eq]; exact hsz, fin hE h2⟩
            · cases h2
          · split at h2
            · rename_i es hsz
              obtain ⟨b, ys, rfl, hb, hE⟩ := pk.tup
              exact .inr ⟨a, b, xs, ys, rfl, rfl, ha', hb, by rw [hA.1, hE.1, sizeLine_eq]; exact hsz, fin hE h2⟩
            · cases h2
          · cases h2
        · cases h2
      · cases h2
  · cases hm
/-- x[i] = v -/
def gIx (n : Nat) (a : ME) : MG := fun d e => match e[n]? with
  | some (some _) => (match a e with
    | some (.ok (.int i) e1) => (match e1[n]? with
      | some (some (.mls ds)) => (match ixN ds.length i with
        | some k => if isFz d = true then some (e1.set n (some (.mls (ds.set k d)))) else none
        | none => none)
      | _ => none)
    | _ => none)
  | _ => none
theorem sg_ix {n : Nat} (ha : SE C ta ma) : SG C (gSub (tVar n) ta rSetD) (gIx n ma) := by
  rintro B σ0 σ H env ts v d e' ⟨S, g⟩ hd ht hm N hN
  unfold gIx at hm
  split at hm
  case h_2 => cases hm
  rename_i d9 h9
  obtain ⟨w, hw, _⟩ := g.slot n _ h9
  split at hm
  · rename_i i e1 h1
    split at hm
    · rename_i ds h4
      split at hm
      · rename_i k hk
        split at hm
        · rename_i hfz
          cases hm
          refine ⟨w, hw, ha B σ0 σ H env _ ⟨S, g⟩ _ h1 _ fun u H1 ⟨S1, g1⟩ => ?_⟩
          obtain ⟨a, xs, hv, ha', hA⟩ := g1.mlsAt h4
          rw [hw] at hv; cases hv
          have hi : u = .int i := by
            rcases g1.tmp (ts ++ [(v, d)]).length u (.int i) (by simp) with ⟨k, e, _⟩ | h
            · cases e
            · exact (h.dt rfl).inv_int
          subst hi
          have hdv : Dt C.K (pset B S1) H1 v d := by
            rcases g1.tmp ts.length v d (by simp) with ⟨k, rfl, _⟩ | h
            · cases hd
            · exact h.dt hfz
          refine .inl ⟨a, xs, i, k, rfl, rfl, ha', by rw [hA.1]; exact hk, ?_⟩
          obtain ⟨S3, g3⟩ := g1.pop.mut h4 hw ha' (hA.set hdv k)
          exact hN _ _ ⟨S3, g3.pop⟩
        · cases hm
      · cases hm
    · cases hm
  · cases hm
end
end Q


namespace Q
open PySem L2
/-! ### slices, chains -/
abbrev MO := M (Option Int)
def OOk (C : Cn) (B : Bs) (σ0 σ : St) (ts : List (V × D)) (R : Option Int → Hp → Prop) : Rs (Option Int) → Prop
  | .ok b e => ∀ H', Rep C B σ0 H' σ e ts → R b H'
  | .ex x e => XW C B σ0 σ ts x e
def SO (C : Cn) (t : TO) (m : MO) : Prop := ∀ B σ0 σ H env ts, Rep C B σ0 H σ env ts → ∀ r, m env = some r → ∀ R, OOk C B σ0 σ ts R r → t σ H R
section
variable {C : Cn} {te ta tb tc : TE} {ma mb mc : ME} {tt tu : TT} {mt mu : MT} {tr : TA} {mr : MA} {t u : TS} {ms mv : MS}
def mNoPart : MO := fun e => some (.ok none e)
def mPart (a : ME) : MO := fun e => bnd (a e) fun x e1 => match x with
  | .int i => some (.ok (some i) e1)
  | _ => none
theorem so_none : SO C tNoPart mNoPart := by
  intro B σ0 σ H env ts R z hm Q hq
  cases hm
  exact hq H R
theorem tmp_int {B : Bs} {σ0 σ : St} {H : Hp} {env : Env} {ts : List (V × D)} {v : V} {b : Int} (R : Rep C B σ0 H σ env (ts ++ [(v, .int b)])) : v = .int b ∧ Rep C B σ0 H σ env ts := by
  refine ⟨?_, R.pop⟩
  obtain ⟨S, g⟩ := R
  rcases g.tmp ts.length v (.int b) (by simp) with ⟨k, e, _⟩ | h
  · cases e
  · exact (h.dt rfl).inv_int
theorem so_part (ha : SE C ta ma) : SO C (tPart ta) (mPart ma) := by
  intro B σ0 σ H env ts R z hm Q hq
  rcases bnd_inv hm with ⟨x, e, h1, rfl⟩ | ⟨x, e1, h1, h2⟩
  · exact ha B σ0 σ H env ts R _ h1 _ hq
  · refine ha B σ0 σ H env ts R _ h1 _ fun v H1 R1 => ?_
    split at h2
    · cases h2
      obtain ⟨rfl, R2⟩ := tmp_int R1
      exact ⟨_, rfl, hq _ R2⟩
    · cases h2
def PSl (K : KC) (r : V → Option Int → Option Int → Hp → VK → Prop) (f : D → Option Int → Option Int → Option D) : Prop := ∀ ps H x d lo hi e Q, (∀ a, ps a → H a ≠ none) → Peek K ps H x d → f d lo hi = some e → (∀ v H', Post K ps H H' v e → Q v H') → r x lo hi H Q
def mSl (f : D → Option Int → Option Int → Option D) (a : ME) (l h : MO) : ME := fun e => bnd (a e) fun x e1 => bnd (l e1) fun lo e2 => bnd (h e2) fun hi e3 => match res e3 x with
  | some x' => (match f x' lo hi with | some d => some (.ok d e3) | none => none)
  | none => none
theorem se_sl {r : V → Option Int → Option Int → Hp → VK → Prop} {f : D → Option Int → Option Int → Option D} {tl th : TO} {ml mh : MO} (p : PSl C.K r f) (ha : SE C ta ma) (hl : SO C tl ml) (hh : SO C th mh) : SE C (tSl r ta tl th) (mSl f ma ml mh) := by
  intro B σ0 σ H env ts R z hm Q hq
  rcases bnd_inv hm with ⟨x, e, h1, rfl⟩ | ⟨x, e1, h1, h2⟩
  · exact ha B σ0 σ H env ts R _ h1 _ hq
  · refine ha B σ0 σ H env ts R _ h1 _ fun v H1 R1 => ?_
    rcases bnd_inv h2 with ⟨x2, e, h3, rfl⟩ | ⟨lo, e2, h3, h4⟩
    · exact hl B σ0 σ H1 e1 _ R1 _ h3 _ (XW.push hq)
    · refine hl B σ0 σ H1 e1 _ R1 _ h3 _ fun H2 R2 => ?_
      rcases bnd_inv h4 with ⟨x2, e, h5, rfl⟩ | ⟨hi, e3, h5, h6⟩
      · exact hh B σ0 σ H2 e2 _ R2 _ h5 _ (XW.push hq)
      · refine hh B σ0 σ H2 e2 _ R2 _ h5 _ fun H3 ⟨S, g⟩ => ?_
        split at h6
        · rename_i x' hx
          split at h6
          · rename_i d hd
            cases h6
            exact p _ _ _ _ _ _ _ _ (fun a z => g.ptrk z) (g.look (j := ts.length) (by simp) hx) hd fun w H2 pp => hq w H2 (g.prim pp)
          · cases h6
        · cases h6
/-- a < b < c -/
def mChain (f f' : D → D → Option D) (a b c : ME) : ME := fun e => bnd (a e) fun x e1 => bnd (b e1) fun y e2 => bnd (ap2 f x y e2) fun k e3 => match k with
  | .bl true => bnd (c e3) fun w e4 => ap2 f' y w e4
  | .bl false => some (.ok (.bl false) e3)
  | _ => none
theorem se_chain {r r' : R2} {f f' : D → D → Option D} (p : P2 C.K r f) (p' : P2 C.K r' f') (ha : SE C ta ma) (hb : SE C tb mb) (hc : SE C tc mc) : SE C (tChain r r' ta tb tc) (mChain f f' ma mb mc) := by
  intro B σ0 σ H env ts R z hm Q hq
  rcases bnd_inv hm with ⟨x, e, h1, rfl⟩ | ⟨x, e1, h1, h2⟩
  · exact ha B σ0 σ H env ts R _ h1 _ hq
  · refine ha B σ0 σ H env ts R _ h1 _ fun v H1 R1 => ?_
    rcases bnd_inv h2 with ⟨x2, e, h3, rfl⟩ | ⟨y, e2, h3, h4⟩
    · exact hb B σ0 σ H1 e1 _ R1 _ h3 _ (XW.push hq)
    · refine hb B σ0 σ H1 e1 _ R1 _ h3 _ fun w H2 ⟨S, g⟩ => ?_
      rw [List.append_assoc] at g
      rcases bnd_inv h4 with ⟨x2, e, h5, rfl⟩ | ⟨k, e3, h5, h6⟩
      · unfold ap2 at h5; split at h5 <;> (try split at h5) <;> (try split at h5) <;> cases h5
      · unfold ap2 at h5
        split at h5
        · rename_i x' hx
          split at h5
          · rename_i y' hy
            split at h5
            · rename_i d hd
              obtain ⟨rfl, rfl⟩ : d = k ∧ e2 = e3 := by cases h5; exact ⟨rfl, rfl⟩
              refine p _ _ _ _ _ _ _ _ (fun a z => g.ptrk z) (g.look (j := ts.length) (by simp) hx) (g.look (j := ts.length + 1) (by simp) hy) hd fun b H3 pp => ?_
              have R3 : Rep C B σ0 H3 σ e2 (ts ++ [(v, x), (w, y)] ++ [(b, d)]) := Good.prim (ts1 := []) (by rw [List.append_nil]; exact g) pp
              split at h6
              · obtain ⟨rfl, R4⟩ := tmp_bl R3
                refine ⟨true, rfl, ?_⟩
                rw [if_pos rfl]
                rcases bnd_inv h6 with ⟨x2, e, h7, rfl⟩ | ⟨u, e4, h7, h8⟩
                · exact hc B σ0 σ H3 e2 _ R4 _ h7 _ (XW.push hq)
                · refine hc B σ0 σ H3 e2 _ R4 _ h7 _ fun w' H4 ⟨S4, g4⟩ => ?_
                  rw [List.append_assoc] at g4
                  unfold ap2 at h8
                  split at h8
                  · rename_i y2 hy2
                    split at h8
                    · rename_i u2 hu2
                      split at h8
                      · rename_i d2 hd2
                        cases h8
                        exact p' _ _ _ _ _ _ _ _ (fun a z => g4.ptrk z) (g4.look (j := ts.length + 1) (by simp) hy2) (g4.look (j := ts.length + 2) (by simp) hu2) hd2 fun w H2 pp => hq w H2 (g4.prim pp)
                      · cases h8
                    · cases h8
                  · cases h8
              · cases h6
                obtain ⟨rfl, R4⟩ := tmp_bl R3
                exact ⟨false, rfl, by rw [if_neg Bool.false_ne_true]; exact hq _ _ (push_bl _ R4.pop)⟩
              · cases h6
            · cases h5
          · cases h5
        · cases h5
end
/-! ### loops -/
abbrev MI := M (List D)
def Yd (K : KC) (J : It) (fr : List (V × D)) (xs : List D) : Prop := ∀ ps H, (∀ a, ps a → H a ≠ none) → (∀ p ∈ fr, Dt K ps H p.1 p.2) → ∀ i, (∀ d, xs[i]? = some d → J.go i H ∧ ∀ v H', J.yld i H v H' → Kp (fun _ => False) H H' ∧ Dt K ps H' v d) ∧ (xs.length ≤ i → J.stop i H)
def IOk (C : Cn) (B : Bs) (σ0 σ : St) (ts : List (V × D)) (R : It → Hp → Prop) : Rs (List D) → Prop
  | .ok xs e => ∀ J H' fr, Yd C.K J fr xs → (∀ p ∈ fr, isFz p.2 = true) → Rep C B σ0 H' σ e (ts ++ fr) → R J H'
  | .ex x e => XW C B σ0 σ ts x e
def SI (C : Cn) (w : TI) (m : MI) : Prop := ∀ B σ0 σ H env ts, Rep C B σ0 H σ env ts → ∀ r, m env = some r → ∀ R, IOk C B σ0 σ ts R r → w σ H R
def rngD (lo : Int) (n : Nat) : List D := (List.range n).map fun k => .int (lo + (k : Nat))
def rngC (lo : Int) (n : Nat) : List D := (List.range n).map fun k => .int (lo - (k : Nat))
theorem rngD_get {lo : Int} {n i : Nat} {d : D} (h : (rngD lo n)[i]? = some d) : i < n ∧ d = .int (lo + i) := by
  unfold rngD at h
  rw [List.getElem?_map] at h
  have hi : i < n := by
    rcases Nat.lt_or_ge i n with h1 | h1
    · exact h1
    · rw [List.getElem?_eq_none (by simpa using h1)] at h; cases h
  rw [List.getElem?_range hi] at h
  cases h
  exact ⟨hi, rfl⟩
theorem rngC_get {lo : Int} {n i : Nat} {d : D} (h : (rngC lo n)[i]? = some d) : i < n ∧ d = .int (lo - i) := by
  unfold rngC at h
  rw [List.getElem?_map] at h
  have hi : i < n := by
    rcases Nat.lt_or_ge i n with h1 | h1
    · exact h1
    · rw [List.getElem?_eq_none (by simpa using h1)] at h; cases h
  rw [List.getElem?_range hi] at h
  cases h
  exact ⟨hi, rfl⟩
section
variable {C : Cn} {te ta tb tc : TE} {ma mb mc : ME} {tt tu : TT} {mt mu : MT} {tr : TA} {mr : MA} {t u : TS} {ms mv : MS}
def mSeqI (a : ME) : MI := fun e => bnd (a e) fun x e1 => match tkf x e1 with
  | some (y, e2) => (match seqD y with | some ds => some (.ok ds e2) | none => none)
  | none => none
theorem yd_lst {K : KC} {a : Addr} {ds : List D} : Yd K (Itl K a) [(.ref a, .lst ds)] ds := by
  intro ps H _ h i
  obtain ⟨a', xs, e, ha, _, hA⟩ := (h (.ref a, .lst ds) (by simp) : Dt K ps H (.ref a) (.lst ds)).inv_lst
  cases e
  refine ⟨fun d hd => ?_, fun hi => ⟨xs, SqL.of ha, by rw [hA.1]; exact hi⟩⟩
  obtain ⟨x, hx, hdx⟩ := hA.get hd
  refine ⟨⟨xs, x, SqL.of ha, hx⟩, fun v H' y => ?_⟩
  obtain ⟨rfl, y⟩ := y
  have := y xs (SqL.of ha)
  rw [hx] at this; cases this
  exact ⟨.refl, hdx⟩
theorem yd_rol {K : KC} {a : Addr} {ds : List D} : Yd K (Itl K a) [(.ref a, .rol ds)] ds := by
  intro ps H _ h i
  obtain ⟨a', xs, e, ha, hA⟩ := (h (.ref a, .rol ds) (by simp) : Dt K ps H (.ref a) (.rol ds)).inv_rol
  cases e
  refine ⟨fun d hd => ?_, fun hi => ⟨xs, ha.sq, by rw [hA.1]; exact hi⟩⟩
  obtain ⟨x, hx, hdx⟩ := hA.get hd
  refine ⟨⟨xs, x, ha.sq, hx⟩, fun v H' y => ?_⟩
  obtain ⟨rfl, y⟩ := y
  have := y xs ha.sq
  rw [hx] at this; cases this
  exact ⟨.refl, hdx⟩
theorem yd_tup {K : KC} {a : Addr} {ds : List D} : Yd K (Itt K a) [(.ref a, .tup ds)] ds := by
  intro ps H _ h i
  obtain ⟨a', xs, e, ha, hA⟩ := (h (.ref a, .tup ds) (by simp) : Dt K ps H (.ref a) (.tup ds)).inv_tup
  cases e
  refine ⟨fun d hd => ?_, fun hi => ⟨xs, ha.sq, by rw [hA.1]; exact hi⟩⟩
  obtain ⟨x, hx, hdx⟩ := hA.get hd
  refine ⟨⟨xs, x, ha.sq, hx⟩, fun v H' y => ?_⟩
  obtain ⟨rfl, y⟩ := y
  have := y xs ha.sq
  rw [hx] at this; cases this
  exact ⟨.refl, hdx⟩
theorem si_seq (ha : SE C ta ma) : SI C (iSeq C.K ta) (mSeqI ma) := by
  intro B σ0 σ H env ts R z hm Q hq
  rcases bnd_inv hm with ⟨x, e, h1, rfl⟩ | ⟨x, e1, h1, h2⟩
  · exact ha B σ0 σ H env ts R _ h1 _ hq
  · refine ha B σ0 σ H env ts R _ h1 _ fun v H1 ⟨S, g⟩ => ?_
    split at h2
    · rename_i y e2 h3
      split at h2
      · rename_i ds hds
        cases h2
        obtain ⟨S1, g1, hy⟩ := g.takenF (ts1 := []) h3
        cases y <;> cases hds
        · obtain ⟨a, xs, rfl, h4, hA⟩ := hy.inv_tup
          exact ⟨a, rfl, .inr ⟨⟨xs, h4.sq⟩, hq _ _ _ yd_tup (by simp [isFz]) ⟨_, g1⟩⟩⟩
        · obtain ⟨a, xs, rfl, h4, h5, hA⟩ := hy.inv_lst
          exact ⟨a, rfl, .inl ⟨⟨xs, SqL.of h4⟩, hq _ _ _ yd_lst (by simp [isFz]) ⟨_, g1⟩⟩⟩
        · obtain ⟨a, xs, rfl, h4, hA⟩ := hy.inv_rol
          exact ⟨a, rfl, .inl ⟨⟨xs, h4.sq⟩, hq _ _ _ yd_rol (by simp [isFz]) ⟨_, g1⟩⟩⟩
        · cases hy
      · cases h2
    · cases h2
def mRng1 (a : MA) : MI := fun e => bnd (a e) fun xs e1 => match xs with
  | [.int j] => if -4611686018427387904 ≤ j ∧ j < 4611686018427387904 then some (.ok (rngD 0 j.toNat) e1) else none
  | _ => none
def mRng2 (a : MA) : MI := fun e => bnd (a e) fun xs e1 => match xs with
  | [.int i, .int j] => if (-4611686018427387904 ≤ i ∧ i < 4611686018427387904) ∧ -4611686018427387904 ≤ j ∧ j < 4611686018427387904 then some (.ok (rngD i (j - i).toNat) e1) else none
  | _ => none
theorem yd_rng {K : KC} {lo : Int} {n : Nat} : Yd K (Itr lo n) [] (rngD lo n) := by
  intro ps H _ _ i
  refine ⟨fun d hd => ?_, fun hi => by simp [rngD] at hi; exact hi⟩
  obtain ⟨h1, rfl⟩ := rngD_get hd
  refine ⟨h1, fun v H' y => ?_⟩
  obtain ⟨rfl, rfl⟩ := y
  exact ⟨.refl, .int _⟩
theorem yd_rngC {K : KC} {lo : Int} {n : Nat} : Yd K (Itc lo (-1) n) [] (rngC lo n) := by
  intro ps H _ _ i
  refine ⟨fun d hd => ?_, fun hi => by simp [rngC] at hi; exact hi⟩
  obtain ⟨h1, rfl⟩ := rngC_get hd
  refine ⟨h1, fun v H' y => ?_⟩
  obtain ⟨rfl, rfl⟩ := y
  have e : lo + (i : Int) * (-1) = lo - i := by omega
  rw [e]
  exact ⟨.refl, .int _⟩
theorem si_rng1 (ha : SA C tr mr) : SI C (iRng1 tr) (mRng1 mr) := by
  intro B σ0 σ H env ts R z hm Q hq
  rcases bnd_inv hm with ⟨x, e, h1, rfl⟩ | ⟨x, e1, h1, h2⟩
  · exact ha B σ0 σ H env ts R _ h1 _ hq
  · refine ha B σ0 σ H env ts R _ h1 _ fun vs H1 hl R1 => ?_
    split at h2
    · split at h2
      · rename_i j hj
        cases h2
        match vs, hl with
        | [v], _ =>
          obtain ⟨rfl, R2⟩ := tmp_int (ts := ts) R1
          exact ⟨j, rfl, by omega, by omega, hq _ _ [] yd_rng (by simp) (by simpa using R2)⟩
      · cases h2
    · cases h2
theorem si_rng2 (ha : SA C tr mr) : SI C (iRng2 tr) (mRng2 mr) := by
  intro B σ0 σ H env ts R z hm Q hq
  rcases bnd_inv hm with ⟨x, e, h1, rfl⟩ | ⟨x, e1, h1, h2⟩
  · exact ha B σ0 σ H env ts R _ h1 _ hq
  · refine ha B σ0 σ H env ts R _ h1 _ fun vs H1 hl R1 => ?_
    split at h2
    · split at h2
      · rename_i i j hj
        cases h2
        match vs, hl with
        | [v, w], _ =>
          obtain ⟨rfl, R2⟩ := tmp_int (ts := ts ++ [(v, .int i)]) (by simpa using R1)
          obtain ⟨rfl, R3⟩ := tmp_int R2
          exact ⟨i, j, rfl, by omega, hq _ _ [] yd_rng (by simp) (by simpa using R3)⟩
      · cases h2
    · cases h2
/-- reversed(range(n)) -/
def mRev1 (a : ME) : MI := fun e => bnd (a e) fun x e1 => match x with
  | .int j => if -4611686018427387904 ≤ j ∧ j < 4611686018427387904 then some (.ok (rngC (j.toNat - 1) j.toNat) e1) else none
  | _ => none
theorem si_rev1 (ha : SE C ta ma) : SI C (iRevR (tRg1 ta)) (mRev1 ma) := by
  intro B σ0 σ H env ts R z hm Q hq
  rcases bnd_inv hm with ⟨x, e, h1, rfl⟩ | ⟨x, e1, h1, h2⟩
  · exact ha B σ0 σ H env ts R _ h1 _ hq
  · refine ha B σ0 σ H env ts R _ h1 _ fun v H1 R1 => ?_
    split at h2
    · split at h2
      · rename_i j hj
        cases h2
        obtain ⟨rfl, R2⟩ := tmp_int R1
        refine ⟨j, rfl, by omega, by omega, by omega, by omega, hq _ _ [] ?_ (by simp) (by simpa using R2)⟩
        have e : (0 : Int) + (((j - 0).toNat : Nat) : Int) - 1 = (j.toNat : Int) - 1 := by rw [Int.sub_zero]; omega
        rw [e, Int.sub_zero]
        exact yd_rngC
      · cases h2
    · cases h2
def mLoop (g : MG) (b : MS) : List D → MS
  | [] => fun e => some (.ok .nx e)
  | x :: xs => fun e => match g x e with
    | some e1 => bnd (b e1) fun f e2 => (match f with
      | .nx => mLoop g b xs e2
      | .ct => mLoop g b xs e2
      | .bk => some (.ok .nx e2)
      | .rt d => some (.ok (.rt d) e2))
    | none => none
def mFor (i : MI) (g : MG) (b : MS) : MS := fun e => bnd (i e) fun xs e1 => mLoop g b xs e1
theorem NoAl.fz {ts fr : List (V × D)} (h : NoAl ts) (hf : ∀ p ∈ fr, isFz p.2 = true) : NoAl (ts ++ fr) := fun p hp => by
  rcases List.mem_append.mp hp with hp | hp
  · exact h p hp
  · have := hf p hp
    obtain ⟨v, d⟩ := p
    cases d <;> first | rfl | cases this
theorem Good.frDt {B : Bs} {σ0 σ : St} {H : Hp} {env : Env} {ts fr more : List (V × D)} {S : Ix → Addr → Prop} (g : Good C B σ0 H σ env (ts ++ fr ++ more) S) (hf : ∀ p ∈ fr, isFz p.2 = true) : ∀ p ∈ fr, Dt C.K (pset B S) H p.1 p.2 := by
  intro p hp
  obtain ⟨i, hi, e⟩ := List.mem_iff_getElem.mp hp
  have e2 : (ts ++ fr ++ more)[ts.length + i]? = some (p.1, p.2) := by
    rw [List.append_assoc, List.getElem?_append_right (by omega), Nat.add_sub_cancel_left, List.getElem?_append_left hi, List.getElem?_eq_getElem hi, e]
  have hfz := hf p hp
  rcases g.tmp _ _ _ e2 with ⟨k, e3, _⟩ | h
  · rw [e3] at hfz; cases hfz
  · exact h.dt hfz
theorem ss_for {wi : TI} {mi : MI} {g : TG} {mg : MG} (hi : SI C wi mi) (hg : SG C g mg) (hb : SS C t ms) : SS C (tFor wi g t) (mFor mi mg ms) := by
  intro B σ0 σ H env ts R ht z hm E hE
  rcases bnd_inv hm with ⟨x, e, h1, rfl⟩ | ⟨xs, e1, h1, h2⟩
  · exact hi B σ0 σ H env ts R _ h1 _ (hE σ)
  · refine hi B σ0 σ H env ts R _ h1 _ fun J H1 fr yd hfr R1 => ?_
    refine ⟨fun i m σ' H' => m = xs.length - i ∧ i ≤ xs.length ∧ ∃ e', Rep C B σ0 H' σ' e' (ts ++ fr) ∧ mLoop mg ms (xs.drop i) e' = some z, ⟨xs.length, rfl, Nat.zero_le _, e1, R1, h2⟩, ?_⟩
    rintro i m σ' H' ⟨rfl, hil, e', ⟨S, g'⟩, hz⟩
    have hdt := Good.frDt (more := []) (by rw [List.append_nil]; exact g') hfr
    obtain ⟨y1, y2⟩ := yd (pset B S) H' (fun a z => g'.ptrk z) hdt i
    by_cases hlt : i < xs.length
    · obtain ⟨d, hd⟩ : ∃ d, xs[i]? = some d := ⟨xs[i], by simp [hlt]⟩
      obtain ⟨hgo, hy⟩ := y1 d hd
      have hdr : xs.drop i = d :: xs.drop (i + 1) := by
        have := List.drop_eq_getElem_cons hlt
        rw [this]
        congr 1
        have e9 : xs[i]? = some xs[i] := by simp [hlt]
        rw [hd] at e9; cases e9; rfl
      rw [hdr] at hz
      simp only [mLoop] at hz
      split at hz
      · rename_i e2 h3
        refine .inr ⟨hgo, fun σ2 H2 => ∃ e3, Rep C B σ0 H2 σ2 e3 (ts ++ fr) ∧ mLoop mg ms (xs.drop (i + 1)) e3 = some z, fun σ2 H2 ⟨e3, q1, q2⟩ => ⟨xs.length - (i + 1), by omega, rfl, hlt, e3, q1, q2⟩, fun v H2 yy => ?_⟩
        obtain ⟨k2, d2⟩ := hy v H2 yy
        have R2 : Rep C B σ0 H2 σ' e' (ts ++ fr ++ [(v, d)]) := Good.prim (ts1 := []) (by rw [List.append_nil]; exact g') ⟨k2, fun _ => False, fun _ h => h.elim, .fz (d2.move .refl fun a z => .inl (z.resolve_right id)) fun _ h => h⟩
        have hda : isAl d = false := by cases d2 <;> rfl
        refine hg B σ0 σ' H2 e' (ts ++ fr) v d e2 R2 hda (ht.fz hfr) h3 _ fun σ3 H3 R3 => ?_
        rcases bnd_inv hz with ⟨x, e, h4, rfl⟩ | ⟨f, e3, h4, h5⟩
        · exact hb B σ0 σ3 H3 e2 (ts ++ fr) R3 (ht.fz hfr) _ h4 _ fun σ4 => XW.push (hE σ4)
        · refine hb B σ0 σ3 H3 e2 (ts ++ fr) R3 (ht.fz hfr) _ h4 _ ?_
          cases f with
          | nx => exact fun σ4 H4 R4 => ⟨e3, R4, h5⟩
          | ct => exact fun σ4 H4 R4 => ⟨e3, R4, h5⟩
          | bk => cases h5; exact fun σ4 H4 R4 => hE σ4 H4 R4.pop
          | rt d => cases h5; exact fun v σ4 H4 ha R4 => hE v σ4 H4 ha (R4.mid ha)
      · cases hz
    · have : i = xs.length := by omega
      subst this
      rw [List.drop_length] at hz
      cases hz
      exact .inl ⟨y2 (Nat.le_refl _), hE σ' H' ⟨S, g'.pop⟩⟩
/-! while, with so many turns at most -/
def mWh (t : MT) (b : MS) : Nat → MS
  | 0 => fun _ => none
  | n + 1 => fun e => bnd (t e) fun c e1 => if c = true then bnd (b e1) fun f e2 => (match f with
      | .nx => mWh t b n e2
      | .ct => mWh t b n e2
      | .bk => some (.ok .nx e2)
      | .rt d => some (.ok (.rt d) e2)) else some (.ok .nx e1)
theorem ss_while (n : Nat) (hc : ST C tt mt) (hb : SS C t ms) : SS C (tWhile tt t) (mWh mt ms n) := by
  intro B σ0 σ H env ts R ht z hm E hE
  refine ⟨fun m σ' H' => ∃ e', Rep C B σ0 H' σ' e' ts ∧ mWh mt ms m e' = some z, ⟨n, env, R, hm⟩, ?_⟩
  rintro m σ' H' ⟨e', R', hz⟩
  cases m with
  | zero => cases hz
  | succ m =>
    rcases bnd_inv hz with ⟨x, e, h1, rfl⟩ | ⟨c, e1, h1, h2⟩
    · exact hc B σ0 σ' H' e' ts R' _ h1 _ (hE σ')
    · refine hc B σ0 σ' H' e' ts R' _ h1 _ fun H1 R1 => ?_
      cases c with
      | false => rw [if_neg Bool.false_ne_true] at h2 ⊢; cases h2; exact hE σ' H1 R1
      | true =>
        rw [if_pos rfl] at h2 ⊢
        refine ⟨fun σ2 H2 => ∃ e3, Rep C B σ0 H2 σ2 e3 ts ∧ mWh mt ms m e3 = some z, fun σ2 H2 q => ⟨m, by omega, q⟩, ?_⟩
        rcases bnd_inv h2 with ⟨x, e, h4, rfl⟩ | ⟨f, e3, h4, h5⟩
        · exact hb B σ0 σ' H1 e1 ts R1 ht _ h4 _ hE
        · refine hb B σ0 σ' H1 e1 ts R1 ht _ h4 _ ?_
          cases f with
          | nx => exact fun σ4 H4 R4 => ⟨e3, R4, h5⟩
          | ct => exact fun σ4 H4 R4 => ⟨e3, R4, h5⟩
          | bk => cases h5; exact hE
          | rt d => cases h5; exact hE
end
end Q


namespace Q
open PySem L2
/-! ### calls -/
inductive Rf where
  | ok (d : D) (ds : List D)
  | ex (x : Xc) (ds : List D)
abbrev MF := List D → Option Rf
def fC (K : KC) : Cn := ⟨K, fun _ _ _ _ => False, fun _ => false, [], fun _ => True⟩
/-- a def's promise by its mirror -/
def spM (K : KC) (mf : MF) : Sp := fun vs H Q E => ∃ (B : Bs) (ds : List D) (r : Rf), B.H0 = H ∧ vs.length = ds.length ∧ mf ds = some r ∧ Rep (fC K) B (vs.map some) H (vs.map some) (ds.map some) [] ∧
  match r with
  | .ok d ds' => ∀ v H', isAl d = false → Rep (fC K) B (vs.map some) H' (vs.map some) (ds'.map some) [(v, d)] → Q v H'
  | .ex x ds' => ∀ c o H', RepX (fC K) B (vs.map some) H' (vs.map some) (ds'.map some) [] x c o → E c o H'
def isAlK (k : Nat) : D → Bool | .al j => j == k | _ => false
def alsOk : List D → Bool
  | [] => true
  | .al k :: xs => !xs.any (isAlK k) && alsOk xs
  | _ :: xs => alsOk xs
def back : List D → List D → Env → Env
  | .al k :: xs, d :: ds, e => back xs ds (e.set k (some d))
  | _ :: xs, _ :: ds, e => back xs ds e
  | _, _, e => e
def mCall (f : MF) (a : MA) : ME := fun e => bnd (a e) fun xs e1 => match lend xs e1 with
  | some ds => if alsOk xs = true then (match f ds with
    | some (.ok d ds') => if ds'.length = ds.length then some (.ok d (back xs ds' e1)) else none
    | some (.ex x ds') => if ds'.length = ds.length then some (.ex x (back xs ds' e1)) else none
    | none => none) else none
  | none => none
theorem lend_get : ∀ {xs ds : List D} {e : Env} {j : Nat} {x : D}, lend xs e = some ds → xs[j]? = some x → ∃ d, ds[j]? = some d ∧ res e x = some d
  | [], ds, e, j, x, h, hx => by simp at hx
  | y :: xs, ds, e, j, x, h, hx => by
    unfold lend at h
    split at h
    · rename_i d h1
      split at h
      · rename_i ds' h2
        cases h
        cases j with
        | zero => simp at hx; subst hx; exact ⟨d, rfl, h1⟩
        | succ j =>
          obtain ⟨d', q1, q2⟩ := lend_get (j := j) h2 (by simpa using hx)
          exact ⟨d', by simpa using q1, q2⟩
      · cases h
    · cases h
theorem lend_len : ∀ {xs ds : List D} {e : Env}, lend xs e = some ds → xs.length = ds.length
  | [], ds, e, h => by cases h; rfl
  | y :: xs, ds, e, h => by
    unfold lend at h
    split at h
    · split at h
      · rename_i ds' h2
        cases h
        simp [lend_len h2]
      · cases h
    · cases h
theorem alsOk_inj : ∀ {xs : List D} {i j k : Nat}, alsOk xs = true → xs[i]? = some (.al k) → xs[j]? = some (.al k) → i = j
  | [], i, j, k, h, h1, h2 => by simp at h1
  | x :: xs, i, j, k, h, h1, h2 => by
    have hx : alsOk xs = true := by
      cases x <;> first | exact h | (simp only [alsOk, Bool.and_eq_true] at h; exact h.2)
    have hno : x = .al k → ∀ m : Nat, xs[m]? ≠ some (D.al k) := by
      rintro rfl m e
      simp only [alsOk, Bool.and_eq_true, Bool.not_eq_true', List.any_eq_false] at h
      exact h.1 _ (List.mem_of_getElem? e) (by simp [isAlK])
    cases i with
    | zero =>
      cases j with
      | zero => rfl
      | succ j => simp at h1 h2; exact absurd h2 (hno h1 j)
    | succ i =>
      cases j with
      | zero => simp at h1 h2; exact absurd h1 (hno h2 i)
      | succ j => simp at h1 h2; rw [alsOk_inj hx h1 h2]
theorem back_length : ∀ {xs ds : List D} {e : Env}, (back xs ds e).length = e.length
  | [], ds, e => by cases ds <;> rfl
  | x :: xs, [], e => by cases x <;> rfl
  | x :: xs, d :: ds, e => by
    cases x <;> simp only [back] <;> first | exact back_length | (rw [back_length, List.length_set])
theorem back_get : ∀ {xs ds : List D} {e : Env} {k : Nat}, alsOk xs = true → xs.length = ds.length → (∀ j : Nat, xs[j]? ≠ some (D.al k)) → (back xs ds e)[k]? = e[k]?
  | [], ds, e, k, h, hl, hn => by cases ds <;> rfl
  | x :: xs, [], e, k, h, hl, hn => by simp at hl
  | x :: xs, d :: ds, e, k, h, hl, hn => by
    have hx : alsOk xs = true := by
      cases x <;> first | exact h | (simp only [alsOk, Bool.and_eq_true] at h; exact h.2)
    have hn' : ∀ j : Nat, xs[j]? ≠ some (D.al k) := fun j e => hn (j + 1) (by simpa using e)
    have hl' : xs.length = ds.length := by simpa using hl
    cases x with
    | al m =>
      have hmk : m ≠ k := fun z => hn 0 (by simp [z])
      simp only [back]
      rw [back_get hx hl' hn', List.getElem?_set_ne hmk]
    | _ => (show (back xs ds e)[k]? = e[k]?); exact back_get hx hl' hn'
theorem back_at : ∀ {xs ds : List D} {e : Env} {j k : Nat} {d : D}, alsOk xs = true → xs.length = ds.length → xs[j]? = some (.al k) → ds[j]? = some d → k < e.length → (back xs ds e)[k]? = some (some d)
  | [], ds, e, j, k, d, h, hl, hj, hd, hk => by simp at hj
  | x :: xs, [], e, j, k, d, h, hl, hj, hd, hk => by simp at hl
  | x :: xs, y :: ds, e, j, k, d, h, hl, hj, hd, hk => by
    have hx : alsOk xs = true := by
      cases x <;> first | exact h | (simp only [alsOk, Bool.and_eq_true] at h; exact h.2)
    have hl' : xs.length = ds.length := by simpa using hl
    cases j with
    | zero =>
      simp at hj hd
      subst hj hd
      simp only [back]
      rw [back_get hx hl' (fun m e => by
        have := alsOk_inj h (i := 0) (j := m + 1) (k := k) rfl (by simpa using e)
        cases this), List.getElem?_set_self hk]
    | succ j =>
      simp at hj hd
      cases x with
      | al m => simp only [back]; exact back_at hx hl' hj hd (by rw [List.length_set]; exact hk)
      | _ => (show (back xs ds e)[k]? = some (some d)); exact back_at hx hl' hj hd hk
section
variable {C : Cn} {te ta tb tc : TE} {ma mb mc : ME} {tt tu : TT} {mt mu : MT} {tr : TA} {mr : MA} {t u : TS} {ms mv : MS}
/-- a call: the arguments go over, come back -/
theorem Good.call {B : Bs} {σ0 σ : St} {H : Hp} {env : Env} {ts : List (V × D)} {S : Ix → Addr → Prop} {vs : List V} {xs ds : List D} (g : Good C B σ0 H σ env (ts ++ vs.zip xs) S) (hl : vs.length = xs.length) (hds : lend xs env = some ds) (hal : alsOk xs = true) :
    ∃ B' : Bs, B'.H0 = H ∧ Rep (fC C.K) B' (vs.map some) H (vs.map some) (ds.map some) [] ∧ ∀ H' ds' ts' S', ds'.length = ds.length → NoAl ts' → Good (fC C.K) B' (vs.map some) H' (vs.map some) (ds'.map some) ts' S' → ∃ U, Good C B σ0 H' σ (back xs ds' env) (ts ++ ts') U ∧ ∀ a, pset B U a → pset B' S' a := by
  have hld := lend_len hds
  -- where argument j is held
  let src : Nat → Ix := fun j => match xs[j]? with
    | some (.al k) => .inl k
    | _ => .inr (ts.length + j)
  have hsrcA : ∀ {j k}, xs[j]? = some (.al k) → src j = .inl k := fun h => by simp only [src, h]
  have hsrcN : ∀ {j x}, xs[j]? = some x → isAl x = false → src j = .inr (ts.length + j) := fun {j x} h hn => by
    simp only [src, h]
    cases x <;> first | rfl | cases hn
  have hinj : ∀ {i j}, i < xs.length → j < xs.length → src i = src j → i = j := by
    intro i j hi hj e
    obtain ⟨x, hx⟩ : ∃ x, xs[i]? = some x := ⟨xs[i], by simp [hi]⟩
    obtain ⟨y, hy⟩ : ∃ y, xs[j]? = some y := ⟨xs[j], by simp [hj]⟩
    by_cases hax : isAl x = true
    · obtain ⟨k, rfl⟩ : ∃ k, x = .al k := by cases x <;> first | exact ⟨_, rfl⟩ | cases hax
      rw [hsrcA hx] at e
      by_cases hay : isAl y = true
      · obtain ⟨k2, rfl⟩ : ∃ k, y = .al k := by cases y <;> first | exact ⟨_, rfl⟩ | cases hay
        rw [hsrcA hy] at e
        cases e
        exact alsOk_inj hal hx hy
      · rw [hsrcN hy (by simpa using hay)] at e; cases e
    · rw [hsrcN hx (by simpa using hax)] at e
      by_cases hay : isAl y = true
      · obtain ⟨k2, rfl⟩ : ∃ k, y = .al k := by cases y <;> first | exact ⟨_, rfl⟩ | cases hay
        rw [hsrcA hy] at e; cases e
      · rw [hsrcN hy (by simpa using hay)] at e
        injection e with e; omega
  -- what argument j is
  have harg : ∀ {j d}, ds[j]? = some d → ∃ v, vs[j]? = some v ∧ j < xs.length ∧ Ow C.K (pset B S) H v d (S (src j)) := by
    intro j d hd
    have hj : j < ds.length := (List.getElem?_eq_some_iff.mp hd).1
    have hjx : j < xs.length := by omega
    have hjv : j < vs.length := by omega
    obtain ⟨x, hx⟩ : ∃ x, xs[j]? = some x := ⟨xs[j], by simp [hjx]⟩
    obtain ⟨v, hv⟩ : ∃ v, vs[j]? = some v := ⟨vs[j], by simp [hjv]⟩
    obtain ⟨d', hd', hr⟩ := lend_get hds hx
    rw [hd] at hd'; cases hd'
    refine ⟨v, hv, hjx, ?_⟩
    have et : (ts ++ vs.zip xs)[ts.length + j]? = some (v, x) := by
      rw [List.getElem?_append_right (by omega), Nat.add_sub_cancel_left, List.getElem?_zip_eq_some]
      exact ⟨hv, hx⟩
    rcases g.tmp _ v x et with ⟨k, rfl, h2⟩ | h
    · simp only [res] at hr
      split at hr
      · rename_i d2 h3
        cases hr
        obtain ⟨v', e1, e2⟩ := g.slot k _ h3
        rw [h2] at e1; cases e1
        rw [hsrcA hx]; exact e2
      · cases hr
    · have hn := h.noAl
      rw [res_self hn] at hr; cases hr
      rw [hsrcN hx hn]; exact h
  let B' : Bs := ⟨fun a => pset B S a ∧ ∀ j, j < xs.length → ¬ S (src j) a, H, fun a => ∃ j, j < xs.length ∧ S (src j) a⟩
  let T : Ix → Addr → Prop := fun i a => match i with
    | .inl j => j < xs.length ∧ S (src j) a
    | .inr _ => False
  have hT : ∀ i a, T i a → ∃ j, i = .inl j ∧ j < xs.length ∧ S (src j) a := by
    intro i a h
    cases i with
    | inl j => exact ⟨j, rfl, h⟩
    | inr j => exact h.elim
  have hps : ∀ a, pset B' T a → pset B S a := by
    rintro a (h | ⟨i, h⟩)
    · exact h.1
    · obtain ⟨j, _, _, h⟩ := hT i a h; exact .inr ⟨_, h⟩
  refine ⟨B', rfl, ⟨T, .refl, fun a h => ⟨g.ptrk h.1, fun ⟨j, hj, z⟩ => h.2 j hj z⟩, fun i a h => ?_, fun i a h => ?_, fun i j a h1 h2 => ?_, by simp [hl, hld], ⟨fun _ _ => rfl, rfl⟩, fun i d e => ?_, fun j v d e => by simp at e, fun p hp => (nomatch hp), trivial⟩, ?_⟩
  · obtain ⟨j, _, hj, h⟩ := hT i a h
    exact ⟨.inl ⟨j, hj, h⟩, fun z => z.2 j hj h⟩
  · obtain ⟨j, _, hj, h⟩ := hT i a h; exact g.trk _ a h
  · obtain ⟨j1, rfl, l1, h1⟩ := hT i a h1
    obtain ⟨j2, rfl, l2, h2⟩ := hT j a h2
    rw [hinj l1 l2 (g.dis _ _ a h1 h2)]
  · rw [List.getElem?_map] at e
    cases hd : ds[i]? with
    | none => rw [hd] at e; cases e
    | some d' =>
      rw [hd] at e; cases e
      obtain ⟨v, hv, hi, ho⟩ := harg hd
      exact ⟨v, by rw [List.getElem?_map, hv]; rfl, (ho.move .refl (fun a z => .inl (hps a z)) fun _ _ => rfl).iff fun b => ⟨fun z => z.2, fun z => ⟨hi, z⟩⟩⟩
  intro H' ds' ts' S' hl' hna g'
  -- the caller's holdings behind
  let nsrc : Ix → Prop := fun i => (∀ j, j < xs.length → src j ≠ i) ∧ ∀ n, i = .inr n → n < ts.length
  let U : Ix → Addr → Prop := fun i a => (∃ n, i = .inr (ts.length + n) ∧ S' (.inr n) a) ∨ (∃ j k, xs[j]? = some (.al k) ∧ i = .inl k ∧ S' (.inl j) a) ∨ (nsrc i ∧ S i a)
  have hUp : ∀ a, pset B U a → pset B' S' a := by
    rintro a (h | ⟨i, ⟨n, _, h⟩ | ⟨j, k, _, _, h⟩ | ⟨hn, h⟩⟩)
    · exact .inl ⟨.inl h, fun j hj z => (g.sub _ a z).2 h⟩
    · exact .inr ⟨_, h⟩
    · exact .inr ⟨_, h⟩
    · exact .inl ⟨.inr ⟨_, h⟩, fun j hj z => hn.1 j hj (g.dis _ _ a z h)⟩
  have hS'sub : ∀ i a, S' i a → (B.S0 a ∨ B.H0 a = none) ∧ ¬ B.ps0 a := by
    intro i a h
    obtain ⟨h1, h2⟩ := g'.sub i a h
    rcases h1 with ⟨j, hj, z⟩ | z
    · exact g.sub _ a z
    · exact ⟨.inr (g.kp.dom a z), fun w => (g.fr a w).1 (g.kp.dom a z)⟩
  have hS'n : ∀ i a k, S' i a → nsrc k → S k a → False := by
    intro i a k h hk hs
    rcases (g'.sub i a h).1 with ⟨j, hj, z⟩ | z
    · exact hk.1 j hj (g.dis _ _ a z hs)
    · exact g.trk k a hs z
  have hkS : Kp (pset B S) H H' := g'.kp.more fun a ⟨j, hj, z⟩ => .inr ⟨_, z⟩
  have hqS : ∀ a, pset B U a → pset B S a ∨ H a = none := by
    have aux : ∀ i a, S' i a → pset B S a ∨ H a = none := fun i a h => by
      rcases (g'.sub i a h).1 with ⟨j, hj, z⟩ | z
      · exact .inl (.inr ⟨_, z⟩)
      · exact .inr z
    rintro a (h | ⟨i, ⟨n, _, h⟩ | ⟨j, k, _, _, h⟩ | ⟨hn, h⟩⟩)
    · exact .inl (.inl h)
    · exact aux _ a h
    · exact aux _ a h
    · exact .inl (.inr ⟨_, h⟩)
  have hkeep : ∀ k, nsrc k → ∀ a, S k a → H' a = H a := fun k hk a z => by
    have hn : ¬ B'.S0 a := fun ⟨j, hj, w⟩ => hk.1 j hj (g.dis _ _ a w z)
    cases e : H a with
    | none => exact absurd e (g.trk _ a z)
    | some o => exact g'.kp.get a o hn e
  refine ⟨U, ⟨⟨fun b o n e => ?_, fun b e => g.kp.dom b (g'.kp.dom b e)⟩, g.fr, fun i a h => ?_, fun i a h => ?_, fun i j a h1 h2 => ?_, by rw [back_length]; exact g.len, g.keep, fun i d e => ?_, fun j v d e => ?_, fun p hp => (g.hld p hp).move hkS hqS, g.fx⟩, hUp⟩
  · refine g'.kp.get b o (fun ⟨j, hj, z⟩ => ?_) (g.kp.get b o n e)
    rcases (g.sub _ b z).1 with z | z
    · exact n z
    · rw [z] at e; cases e
  · rcases h with ⟨n, _, h⟩ | ⟨j, k, _, _, h⟩ | ⟨hn, h⟩
    · exact hS'sub _ a h
    · exact hS'sub _ a h
    · exact g.sub i a h
  · rcases h with ⟨n, _, h⟩ | ⟨j, k, _, _, h⟩ | ⟨hn, h⟩
    · exact g'.trk _ a h
    · exact g'.trk _ a h
    · exact fun z => g.trk i a h (g'.kp.dom a z)
  · rcases h1 with ⟨n, rfl, h1⟩ | ⟨j1, k1, q1, rfl, h1⟩ | ⟨hn1, h1⟩
    · rcases h2 with ⟨n2, rfl, h2⟩ | ⟨j2, k2, q2, rfl, h2⟩ | ⟨hn2, h2⟩
      · have := g'.dis _ _ a h1 h2; cases this; rfl
      · have := g'.dis _ _ a h1 h2; cases this
      · exact (hS'n _ a _ h1 hn2 h2).elim
    · rcases h2 with ⟨n2, rfl, h2⟩ | ⟨j2, k2, q2, rfl, h2⟩ | ⟨hn2, h2⟩
      · have := g'.dis _ _ a h1 h2; cases this
      · have := g'.dis _ _ a h1 h2
        cases this
        rw [q1] at q2; cases q2; rfl
      · exact (hS'n _ a _ h1 hn2 h2).elim
    · rcases h2 with ⟨n2, rfl, h2⟩ | ⟨j2, k2, q2, rfl, h2⟩ | ⟨hn2, h2⟩
      · exact (hS'n _ a _ h2 hn1 h1).elim
      · exact (hS'n _ a _ h2 hn1 h1).elim
      · exact g.dis _ _ a h1 h2
  · have hil : i < env.length := by
      have := (List.getElem?_eq_some_iff.mp e).1
      rw [back_length] at this; exact this
    by_cases hx : ∃ j : Nat, xs[j]? = some (D.al i)
    · obtain ⟨j, hj⟩ := hx
      have hjl : j < xs.length := (List.getElem?_eq_some_iff.mp hj).1
      obtain ⟨d', hd'⟩ : ∃ d', ds'[j]? = some d' := ⟨ds'[j]'(by omega), List.getElem?_eq_getElem (by omega)⟩
      rw [back_at hal (by omega) hj hd' hil] at e
      cases e
      obtain ⟨v', e1, e2⟩ := g'.slot j d (by rw [List.getElem?_map, hd']; rfl)
      have et : ∃ v, (ts ++ vs.zip xs)[ts.length + j]? = some (v, .al i) ∧ vs[j]? = some v := by
        have hjv : j < vs.length := by omega
        refine ⟨vs[j], ?_, by simp [hjv]⟩
        rw [List.getElem?_append_right (by omega), Nat.add_sub_cancel_left, List.getElem?_zip_eq_some]
        exact ⟨by simp [hjv], hj⟩
      obtain ⟨v, et, hvj⟩ := et
      have hσ : σ[i]? = some (some v) := by
        rcases g.tmp _ v _ et with ⟨k, ek, h2⟩ | h
        · cases ek; exact h2
        · exact absurd h.noAl (by simp [isAl])
      rw [List.getElem?_map, hvj] at e1
      have ev : v = v' := by simpa using e1
      subst ev
      refine ⟨v, hσ, (e2.move .refl (fun a z => .inl (hUp a z)) fun _ _ => rfl).iff fun b => ⟨fun z => ?_, fun z => .inr (.inl ⟨j, i, hj, rfl, z⟩)⟩⟩
      rcases z with ⟨n, e, _⟩ | ⟨j2, k2, q2, e2, z⟩ | ⟨hn, z⟩
      · cases e
      · cases e2; rw [alsOk_inj hal hj q2]; exact z
      · exact absurd (hsrcA hj) (hn.1 j hjl)
    · have hn : ∀ j : Nat, xs[j]? ≠ some (D.al i) := fun j z => hx ⟨j, z⟩
      rw [back_get hal (by omega) hn] at e
      obtain ⟨v', e1, e2⟩ := g.slot i d e
      have hns : nsrc (.inl i) := by
        refine ⟨fun j hj z => ?_, fun n z => by cases z⟩
        obtain ⟨x, hxj⟩ : ∃ x, xs[j]? = some x := ⟨xs[j], by simp [hj]⟩
        by_cases hax : isAl x = true
        · obtain ⟨k, rfl⟩ : ∃ k, x = .al k := by cases x <;> first | exact ⟨_, rfl⟩ | cases hax
          rw [hsrcA hxj] at z; cases z
          exact hn j hxj
        · rw [hsrcN hxj (by simpa using hax)] at z; cases z
      refine ⟨v', e1, (e2.move hkS hqS (hkeep _ hns)).iff fun b => ⟨fun z => ?_, fun z => .inr (.inr ⟨hns, z⟩)⟩⟩
      rcases z with ⟨n, e, _⟩ | ⟨j2, k2, q2, e2, z⟩ | ⟨_, z⟩
      · cases e
      · cases e2; exact absurd q2 (hn j2)
      · exact z
  · by_cases hj : j < ts.length
    · rw [List.getElem?_append_left hj] at e
      rcases g.tmp j v d (by rw [List.getElem?_append_left hj]; exact e) with h | h
      · exact .inl h
      · have hns : nsrc (.inr j) := by
          refine ⟨fun i hi z => ?_, fun n z => by injection z with z; omega⟩
          obtain ⟨x, hxj⟩ : ∃ x, xs[i]? = some x := ⟨xs[i], by simp [hi]⟩
          by_cases hax : isAl x = true
          · obtain ⟨k, rfl⟩ : ∃ k, x = .al k := by cases x <;> first | exact ⟨_, rfl⟩ | cases hax
            rw [hsrcA hxj] at z; cases z
          · rw [hsrcN hxj (by simpa using hax)] at z; injection z with z; omega
        refine .inr ((h.move hkS hqS (hkeep _ hns)).iff fun b => ⟨fun z => ?_, fun z => .inr (.inr ⟨hns, z⟩)⟩)
        rcases z with ⟨n, e, _⟩ | ⟨j2, k2, q2, e2, z⟩ | ⟨_, z⟩
        · injection e with e; omega
        · cases e2
        · exact z
    · rw [List.getElem?_append_right (by omega)] at e
      have hnd := hna _ (List.mem_of_getElem? e)
      rcases g'.tmp _ v d e with ⟨k, rfl, _⟩ | h
      · cases hnd
      · refine .inr ((h.move .refl (fun a z => .inl (hUp a z)) fun _ _ => rfl).iff fun b => ⟨fun z => ?_, fun z => .inl ⟨j - ts.length, by congr 1; omega, z⟩⟩)
        rcases z with ⟨n, e, z⟩ | ⟨j2, k2, q2, e2, z⟩ | ⟨hn, z⟩
        · injection e with e; subst e; rw [Nat.add_sub_cancel_left]; exact z
        · cases e2
        · exact absurd (hn.2 j rfl) (by omega)
theorem se_callS {mf : MF} (ha : SA C tr mr) : SE C (tCallS (spM C.K mf) (fun σ c o H => C.W c o σ H) tr) (mCall mf mr) := by
  intro B σ0 σ H env ts R z hm Q hq
  rcases bnd_inv hm with ⟨x, e, h1, rfl⟩ | ⟨xs, e1, h1, h2⟩
  · exact ha B σ0 σ H env ts R _ h1 _ hq
  · refine ha B σ0 σ H env ts R _ h1 _ fun vs H1 hl ⟨S, g⟩ => ?_
    split at h2
    · rename_i ds hds
      split at h2
      · rename_i hal
        obtain ⟨B', hB, R', hback⟩ := g.call hl hds hal
        split at h2
        · rename_i d ds' hf
          split at h2
          · rename_i hl2
            cases h2
            refine ⟨B', ds, _, hB, by rw [hl, lend_len hds], hf, R', fun v H' hd ⟨S', g'⟩ => ?_⟩
            obtain ⟨U, gU, _⟩ := hback H' ds' _ S' hl2 (fun p hp => by simp at hp; subst hp; exact hd) g'
            exact hq _ _ ⟨U, gU⟩
          · cases h2
        · rename_i x ds' hf
          split at h2
          · rename_i hl2
            cases h2
            refine ⟨B', ds, _, hB, by rw [hl, lend_len hds], hf, R', fun c o H' ⟨S', g', hx⟩ => ?_⟩
            obtain ⟨U, gU, hU⟩ := hback H' ds' _ S' hl2 (fun p hp => by simp at hp) g'
            exact hq c o H' ⟨U, by simpa using gU, XOk.less (C := C) hx hU⟩
          · cases h2
        · cases h2
      · cases h2
    · cases h2
/-- where no exception leaves -/
theorem se_call0 {mf : MF} (hW : C.W = fun _ _ _ _ => False) (ha : SA C tr mr) : SE C (tCall (spM C.K mf) [] E0 tr) (mCall mf mr) := by
  intro B σ0 σ H env ts R z hm Q hq
  have := se_callS (mf := mf) ha B σ0 σ H env ts R z hm Q hq
  have e : (fun (vs : List V) (H1 : Hp) => spM C.K mf (vs ++ []) H1 Q E0) = fun vs H1 => spM C.K mf vs H1 Q fun c o H => C.W c o σ H := by
    funext vs H1
    rw [List.append_nil, hW]; first | done | rfl
  show tr σ H fun vs H1 => spM C.K mf (vs ++ []) H1 Q E0
  rw [e]
  exact this
end
end Q


namespace Q
open PySem L2
/-! ### comprehensions -/
def wipeE (e : Env) : List Nat → Env
  | [] => e
  | v :: vs => (wipeE e vs).set v none
def Cn.inner (C : Cn) (own : List Nat) : Cn := ⟨C.K, fun _ _ _ _ => False, fun j => own.contains j, C.held, fun _ => True⟩
theorem wipe_get {σ : St} : ∀ {vs : List Nat} {i : Nat}, (wipe σ vs)[i]? = if i ∈ vs then (if i < σ.length then some none else none) else σ[i]?
  | [], i => by simp [wipe]
  | v :: vs, i => by
    unfold wipe
    by_cases h : i = v
    · subst h
      by_cases hl : i < σ.length
      · rw [List.getElem?_set_self (by rw [wipe_length]; exact hl)]; simp [hl]
      · rw [List.getElem?_eq_none (by rw [List.length_set, wipe_length]; omega)]; simp [hl]
    · rw [List.getElem?_set_ne (Ne.symm h), wipe_get]
      simp [h]
theorem wipeE_length {e : Env} : ∀ {vs : List Nat}, (wipeE e vs).length = e.length
  | [] => rfl
  | v :: vs => by unfold wipeE; rw [List.length_set, wipeE_length]
theorem wipeE_get {σ : Env} : ∀ {vs : List Nat} {i : Nat}, (wipeE σ vs)[i]? = if i ∈ vs then (if i < σ.length then some none else none) else σ[i]?
  | [], i => by simp [wipeE]
  | v :: vs, i => by
    unfold wipeE
    by_cases h : i = v
    · subst h
      by_cases hl : i < σ.length
      · rw [List.getElem?_set_self (by rw [wipeE_length]; exact hl)]; simp [hl]
      · rw [List.getElem?_eq_none (by rw [List.length_set, wipeE_length]; omega)]; simp [hl]
    · rw [List.getElem?_set_ne (Ne.symm h), wipeE_get]
      simp [h]
section
variable {C C' : Cn} {B : Bs} {σ0 σ σ1 : St} {H H1 : Hp} {env env1 : Env} {ts ts1 fr : List (V × D)} {S : Ix → Addr → Prop} {v : V} {d : D} {vs : List Nat}
/-- other names are in charge -/
theorem Good.turn {σ0' σ' : St} {e' : Env} (g : Good C B σ0 H σ env ts S) (hK : C'.K = C.K) (hH : C'.held = C.held) (hX : C'.fx σ0') (hA : (∀ j, C'.A j = false → σ'[j]? = σ0'[j]?) ∧ σ'.length = σ0'.length) (ht : NoAl ts) (hl : σ'.length = e'.length)
    (hs : ∀ (i : Nat) d v, e'[i]? = some (some d) → env[i]? = some (some d) ∧ (σ[i]? = some (some v) → σ'[i]? = some (some v))) : Good C' B σ0' H σ' e' ts S :=
  ⟨g.kp, g.fr, g.sub, g.trk, g.dis, hl, hA, fun i d e => by
    obtain ⟨v, h1, h2⟩ := g.slot i d (hs i d .non e).1
    exact ⟨v, (hs i d v e).2 h1, by rw [hK]; exact h2⟩, fun j v d e => by
    have hn := ht _ (List.mem_of_getElem? e)
    rcases g.tmp j v d e with ⟨k, rfl, _⟩ | h
    · cases hn
    · rw [hK]; exact .inr h, fun p hp => by rw [hK]; exact g.hld p (hH ▸ hp), hX⟩
theorem Good.wipe (g : Good C B σ0 H σ env ts S) (hK : C'.K = C.K) (hH : C'.held = C.held) {σ0' : St} (hX : C'.fx σ0') (hA : (∀ j, C'.A j = false → (L2.wipe σ vs)[j]? = σ0'[j]?) ∧ (L2.wipe σ vs).length = σ0'.length) (ht : NoAl ts) : Good C' B σ0' H (L2.wipe σ vs) (wipeE env vs) ts S :=
  g.turn hK hH hX hA ht (by rw [wipe_length, wipeE_length]; exact g.len) fun i d v e => by
    rw [wipeE_get] at e
    split at e
    · split at e <;> cases e
    · rename_i hi
      exact ⟨e, fun h => by rw [wipe_get, if_neg hi]; exact h⟩
end
def mCl (g : MG) (t : MT) (el : ME) (own : List Nat) : List D → List D → Env → Option (List D × Env)
  | [], acc, e => some (acc, e)
  | x :: xs, acc, e => match g x e with
    | some e1 => (match t e1 with
      | some (.ok b e2) => if b = true then (match el e2 with
        | some (.ok y e3) => (match tkf y e3 with
          | some (y', e4) => if acc.length < 16777216 then mCl g t el own xs (acc ++ [y']) (wipeE e4 own) else none
          | none => none)
        | _ => none) else mCl g t el own xs acc (wipeE e2 own)
      | _ => none)
    | none => none
def mLc (i : MI) (g : MG) (t : MT) (el : ME) (own : List Nat) : ME := fun e => bnd (i e) fun xs e1 => match mCl g t el own xs [] (wipeE e1 own) with
  | some (ys, e2) => some (.ok (.mls ys) e2)
  | none => none
section
variable {C : Cn} {te ta tb tc : TE} {ma mb mc : ME} {tt tu : TT} {mt mu : MT} {tr : TA} {mr : MA} {t u : TS} {ms mv : MS}
theorem se_lc {wi : TI} {mi : MI} {g : TG} {mg : MG} {own : List Nat} (hi : SI C wi mi) (hg : SG (C.inner own) g mg) (ht : ST (C.inner own) tt mt) (he : SE (C.inner own) te ma) : SE C (tLc wi g tt te own) (mLc mi mg mt ma own) := by
  intro B σ0 σ H env ts R z hm Q hq
  obtain ⟨B', R', hback⟩ := R.aside
  rcases bnd_inv hm with ⟨x, e, h1, rfl⟩ | ⟨xs, e1, h1, h2⟩
  · refine hi B' σ0 σ H env [] R' _ h1 _ fun c o H' ⟨S', g', hx⟩ => ?_
    obtain ⟨U, gU, hU⟩ := hback H' _ _ S' g'
    exact hq c o H' ⟨U, by simpa using gU, hx.less hU⟩
  · split at h2
    case h_2 => cases h2
    rename_i ys e2 hz
    cases h2
    refine hi B' σ0 σ H env [] R' _ h1 _ fun J H1 fr yd hfr R1 => ?_
    intro E hE
    obtain ⟨S1, g1⟩ := R1
    rw [List.nil_append] at g1
    have hnf : NoAl fr := fun p hp => by
      have := hfr p hp
      obtain ⟨v, d⟩ := p
      cases d <;> first | rfl | cases this
    have gi : Good (C.inner own) B' (L2.wipe σ own) H1 (L2.wipe σ own) (wipeE e1 own) fr S1 := g1.wipe (C' := C.inner own) (vs := own) rfl rfl trivial ⟨fun _ _ => rfl, rfl⟩ hnf
    have R2 : Rep (C.inner own) B' (L2.wipe σ own) (L2.upd H1 E (.lst [])) (L2.wipe σ own) (wipeE e1 own) (fr ++ [(.ref E, .mls [])]) := Good.prim (ts1 := []) (by rw [List.append_nil]; exact gi) (Post.lst hE .nil)
    refine ⟨fun i m H' => m = xs.length - i ∧ i ≤ xs.length ∧ ∃ e' acc, Rep (C.inner own) B' (L2.wipe σ own) H' (L2.wipe σ own) e' (fr ++ [(.ref E, .mls acc)]) ∧ mCl mg mt ma own (xs.drop i) acc e' = some (ys, e2), ⟨xs.length, rfl, Nat.zero_le _, _, [], R2, hz⟩, ?_⟩
    rintro i m H' ⟨rfl, hil, e', acc, ⟨S, g'⟩, hz'⟩
    have hdt := Good.frDt (ts := []) (more := [(.ref E, .mls acc)]) (by rw [List.nil_append]; exact g') hfr
    obtain ⟨y1, y2⟩ := yd (pset B' S) H' (fun a z => g'.ptrk z) hdt i
    have hna : NoAl (fr ++ [(V.ref E, D.mls acc)]) := hnf.snoc rfl
    by_cases hlt : i < xs.length
    · obtain ⟨d, hd⟩ : ∃ d, xs[i]? = some d := ⟨xs[i], by simp [hlt]⟩
      obtain ⟨hgo, hy⟩ := y1 d hd
      have hdr : xs.drop i = d :: xs.drop (i + 1) := by
        have := List.drop_eq_getElem_cons hlt
        rw [this]
        congr 1
        have e9 : xs[i]? = some xs[i] := by simp [hlt]
        rw [hd] at e9; cases e9; rfl
      rw [hdr] at hz'
      simp only [mCl] at hz'
      split at hz'
      case h_2 => cases hz'
      rename_i e3 h3
      refine .inr ⟨hgo, fun H2 => ∃ e5 acc', Rep (C.inner own) B' (L2.wipe σ own) H2 (L2.wipe σ own) e5 (fr ++ [(.ref E, .mls acc')]) ∧ mCl mg mt ma own (xs.drop (i + 1)) acc' e5 = some (ys, e2), fun H2 q => ⟨xs.length - (i + 1), by omega, rfl, hlt, q⟩, fun v H2 yy => ?_⟩
      obtain ⟨k2, d2⟩ := hy v H2 yy
      have R3 : Rep (C.inner own) B' (L2.wipe σ own) H2 (L2.wipe σ own) e' (fr ++ [(V.ref E, D.mls acc)] ++ [(v, d)]) := Good.prim (ts1 := []) (by rw [List.append_nil]; exact g') ⟨k2, fun _ => False, fun _ h => h.elim, .fz (d2.move .refl fun a z => .inl (z.resolve_right id)) fun _ h => h⟩
      have hda : isAl d = false := by cases d2 <;> rfl
      refine hg B' _ _ H2 e' _ v d e3 R3 hda hna h3 _ fun σ2 H3 R4 => ?_
      have hσ2 : ∀ {H e ts}, Rep (C.inner own) B' (L2.wipe σ own) H σ2 e ts → L2.wipe σ2 own = L2.wipe σ own := by
        rintro H e ts ⟨S, g⟩
        apply List.ext_getElem?
        intro j
        rw [wipe_get, wipe_get]
        have hlen : σ2.length = σ.length := by rw [g.keep.2, wipe_length]
        by_cases hj : j ∈ own
        · rw [if_pos hj, if_pos hj, hlen]
        · rw [if_neg hj, if_neg hj, g.keep.1 j (by simp [Cn.inner, hj]), wipe_get, if_neg hj]
      have hw := hσ2 R4
      refine ⟨hw, ?_⟩
      have hA2 : (∀ j, (C.inner own).A j = false → (L2.wipe σ2 own)[j]? = (L2.wipe σ own)[j]?) ∧ (L2.wipe σ2 own).length = (L2.wipe σ own).length := ⟨fun _ _ => by rw [hw], by rw [hw]⟩
      split at hz'
      case h_2 => cases hz'
      rename_i b e4 h4
      refine ht B' _ σ2 H3 e3 _ R4 _ h4 _ fun H4 R5 => ?_
      cases b with
      | false =>
        rw [if_neg Bool.false_ne_true] at hz' ⊢
        obtain ⟨S5, g5⟩ := R5
        refine ⟨_, acc, ?_, hz'⟩
        have g6 := g5.wipe (C' := C.inner own) (vs := own) rfl rfl trivial hA2 hna
        rw [hw] at g6
        exact ⟨_, g6⟩
      | true =>
        rw [if_pos rfl] at hz' ⊢
        split at hz'
        case h_2 => cases hz'
        rename_i y e5 h5
        split at hz'
        case h_2 => cases hz'
        rename_i y' e6 h6
        split at hz'
        case isFalse => cases hz'
        rename_i hsz
        refine he B' _ σ2 H4 e4 _ R5 _ h5 _ fun w H5 ⟨S6, g6⟩ => ?_
        obtain ⟨S7, g7, hy'⟩ := g6.takenF (ts1 := []) h6
        have ho : Ow C.K (pset B' S7) H5 (.ref E) (.mls acc) (S7 (.inr fr.length)) := by
          rcases g7.tmp fr.length (.ref E) (.mls acc) (by simp) with ⟨k, e, _⟩ | h
          · cases e
          · exact h
        cases ho with
        | fz h _ => cases h
        | @mls a' xs' ds' S' hE' hA' hS' =>
          refine ⟨xs', hE', by rw [sizeLine_eq, hA'.1]; exact hsz, _, acc ++ [y'], ?_, hz'⟩
          have hcell : S7 (.inr fr.length) E := (hS' E).mpr rfl
          have g8 := g7.push (H1 := L2.upd H5 E (.lst (xs' ++ [w]))) (v := .ref E) (d := .mls (acc ++ [y'])) fr.length (by simp) (S7 (.inr fr.length)) (.mut hcell) (fun a z => ⟨.inl z, by rw [(hS' a).mp z, upd_same]; simp⟩)
            (.mls upd_same ((hA'.snoc hy').move (.mut (.inr ⟨_, hcell⟩)) fun a z => ?_) hS')
          · have et : List.take fr.length (fr ++ [(V.ref E, D.mls acc)] ++ [(w, y')]) = fr := by
              rw [List.append_assoc, List.take_left]
            have g9 : Good (C.inner own) B' (L2.wipe σ own) (L2.upd H5 E (.lst (xs' ++ [w]))) σ2 e6 (fr ++ [(V.ref E, D.mls (acc ++ [y']))]) _ := et ▸ g8
            have g10 := g9.wipe (C' := C.inner own) (vs := own) rfl rfl trivial hA2 (hnf.snoc rfl)
            rw [hw] at g10
            exact ⟨_, g10⟩
          · rcases z with z | ⟨i, ⟨rfl, z⟩ | ⟨_, z⟩⟩
            · exact .inl (.inl z)
            · exact .inl (.inr ⟨_, z⟩)
            · exact .inl (.inr ⟨_, z⟩)
    · have : i = xs.length := by omega
      subst this
      rw [List.drop_length] at hz'
      obtain ⟨rfl, rfl⟩ : acc = ys ∧ e' = e2 := by cases hz'; exact ⟨rfl, rfl⟩
      refine .inl ⟨y2 (Nat.le_refl _), ?_⟩
      have g9 : Good C B' σ0 H' σ e' (fr ++ [(V.ref E, D.mls acc)]) S := g'.turn (C' := C) rfl rfl g1.fx g1.keep hna (by
        have := g'.len
        rw [wipe_length] at this
        exact this) fun i d v e => by
          obtain ⟨v', h1, _⟩ := g'.slot i d e
          rw [wipe_get] at h1
          have hi : i ∉ own := fun z => by
            rw [if_pos z] at h1
            split at h1 <;> cases h1
          exact ⟨e, fun h => by rw [wipe_get, if_neg hi] at h; exact h⟩
      have R9 : Rep C B' σ0 H' σ e' ([] ++ fr ++ [(V.ref E, D.mls acc)]) := ⟨S, by rw [List.nil_append]; exact g9⟩
      obtain ⟨S9, g10⟩ := R9.mid rfl
      obtain ⟨U, gU, _⟩ := hback H' _ _ S9 g10
      exact hq _ _ ⟨U, gU⟩
end
/-! ### a def -/
def outA : List D → Env → Option (List D)
  | [], _ => some []
  | d :: ds, o :: e => match (if isFz d = true then some d else o) with
    | some x => (match outA ds e with | some xs => some (x :: xs) | none => none)
    | none => none
  | _ :: _, [] => none
def mFun (np nl : Nat) (asg : List Nat) (body : MS) : MF := fun ds => if ds.length = np ∧ asg.all (fun j => match ds[j]? with | some d => isFz d | none => true) = true then (match body (ds.map some ++ List.replicate nl none) with
  | some (.ok (.rt d) e) => (match outA ds e with | some ds' => some (.ok d ds') | none => none)
  | some (.ok .nx e) => (match outA ds e with | some ds' => some (.ok .non ds') | none => none)
  | some (.ex x e) => (match outA ds e with | some ds' => some (.ex x ds') | none => none)
  | _ => none) else none
theorem outA_len : ∀ {ds ds' : List D} {e : Env}, outA ds e = some ds' → ds'.length = ds.length
  | [], ds', e, h => by cases h; rfl
  | d :: ds, ds', [], h => by cases h
  | d :: ds, ds', o :: e, h => by
    unfold outA at h
    split at h
    · split at h
      · rename_i xs h2
        cases h
        simp [outA_len h2]
      · cases h
    · cases h
theorem outA_get : ∀ {ds ds' : List D} {e : Env} {j : Nat} {d : D}, outA ds e = some ds' → ds[j]? = some d → ∃ d', ds'[j]? = some d' ∧ ((isFz d = true ∧ d' = d) ∨ (isFz d = false ∧ e[j]? = some (some d')))
  | [], ds', e, j, d, h, hj => by simp at hj
  | _ :: ds, ds', [], j, d, h, hj => by cases h
  | d0 :: ds, ds', o :: e, j, d, h, hj => by
    unfold outA at h
    split at h
    · rename_i x hx
      split at h
      · rename_i xs h2
        cases h
        cases j with
        | zero =>
          simp at hj
          subst hj
          refine ⟨x, rfl, ?_⟩
          split at hx
          · rename_i hf; cases hx; exact .inl ⟨hf, rfl⟩
          · rename_i hf; subst hx; exact .inr ⟨by simpa using hf, rfl⟩
        | succ j =>
          obtain ⟨d', q1, q2⟩ := outA_get (j := j) h2 (by simpa using hj)
          exact ⟨d', by simpa using q1, by simpa using q2⟩
      · cases h
    · cases h
/-- the names of a body -/
def bC (K : KC) (W : WX) (np : Nat) (asg : List Nat) : Cn := ⟨K, W, fun j => decide (np ≤ j) || asg.contains j, [], fun _ => True⟩
theorem body_mir {K : KC} {np nl : Nat} {asg : List Nat} {body : MS} {t : TS} {N : List Str} {vs : List V} {H : Hp} {Q : VK} {E : XK} (hN : N.length = np + nl)
    (hb : SS (bC K (fun c o _ H => E c o H) np asg) t body) (h : spM K (mFun np nl asg body) vs H Q E) : t { nx := fun _ H' => Q .non H', rt := Q } (L2.start N vs) H := by
  obtain ⟨B, ds, r, rfl, hl, hm, ⟨S, g⟩, hr⟩ := h
  unfold mFun at hm
  split at hm
  case isFalse => cases hm
  rename_i hc
  obtain ⟨hnp, hasg⟩ := hc
  have hvl : vs.length = np := by omega
  have hst : L2.start N vs = vs.map some ++ List.replicate nl none := by
    unfold L2.start
    rw [hN, hvl, Nat.add_sub_cancel_left]
  rw [hst]
  have hgetv : ∀ {i : Nat}, i < np → (vs.map some ++ List.replicate nl none)[i]? = (vs.map some)[i]? := fun hi => List.getElem?_append_left (by simp; omega)
  have hget : ∀ {i : Nat} {d : D}, (ds.map some ++ List.replicate nl none)[i]? = some (some d) → i < np ∧ (ds.map some)[i]? = some (some d) := by
    intro i d e
    by_cases hi : i < np
    · rw [List.getElem?_append_left (by simp; omega)] at e; exact ⟨hi, e⟩
    · rw [List.getElem?_append_right (by simp; omega), List.getElem?_replicate] at e
      split at e <;> cases e
  let B1 : Bs := ⟨B.ps0, B.H0, fun a => ∃ i, S i a⟩
  have g1 : Good (bC K (fun c o _ H => E c o H) np asg) B1 (vs.map some ++ List.replicate nl none) B.H0 (vs.map some ++ List.replicate nl none) (ds.map some ++ List.replicate nl none) [] S :=
    ⟨.refl, fun a h => ⟨(g.fr a h).1, fun ⟨i, z⟩ => (g.sub i a z).2 h⟩, fun i a h => ⟨.inl ⟨i, h⟩, (g.sub i a h).2⟩, g.trk, g.dis, by simp [hl], ⟨fun _ _ => rfl, rfl⟩, fun i d e => by
      obtain ⟨hi, e⟩ := hget e
      obtain ⟨v, h1, h2⟩ := g.slot i d e
      exact ⟨v, by rw [hgetv hi]; exact h1, h2⟩, fun j v d e => by simp at e, fun p hp => (nomatch hp), trivial⟩
  -- back at the caller's
  have hend : ∀ {H' σ' e' ts' S' ds'}, Good (bC K (fun c o _ H => E c o H) np asg) B1 (vs.map some ++ List.replicate nl none) H' σ' e' ts' S' → NoAl ts' → outA ds e' = some ds' → ∃ U, Good (fC K) B (vs.map some) H' (vs.map some) (ds'.map some) ts' U ∧ ∀ a, pset B U a → pset B1 S' a := by
    intro H' σ' e' ts' S' ds' g' hna ho
    let U : Ix → Addr → Prop := fun i a => S' i a ∧ ∀ j, i = .inl j → ∀ d, ds[j]? = some d → isFz d = false
    have hUp : ∀ a, pset B U a → pset B1 S' a := by
      rintro a (h | ⟨i, h, _⟩)
      · exact .inl h
      · exact .inr ⟨i, h⟩
    have hold := outA_len ho
    have hkS : Kp (pset B S) B.H0 H' := g'.kp.more fun a ⟨i, z⟩ => .inr ⟨i, z⟩
    have hqS : ∀ a, pset B U a → pset B S a ∨ B.H0 a = none := by
      rintro a (h | ⟨i, h, _⟩)
      · exact .inl (.inl h)
      · rcases (g'.sub i a h).1 with ⟨j, z⟩ | z
        · exact .inl (.inr ⟨j, z⟩)
        · exact .inr z
    refine ⟨U, ⟨⟨fun b o n e => ?_, g'.kp.dom⟩, g.fr, fun i a h => ?_, fun i a h => g'.trk i a h.1, fun i j a h1 h2 => g'.dis i j a h1.1 h2.1, by simp [hl, hold], ⟨fun _ _ => rfl, rfl⟩, fun i d e => ?_, fun j v d e => ?_, fun p hp => (nomatch hp), trivial⟩, hUp⟩
    · refine g'.kp.get b o (fun ⟨i, z⟩ => ?_) e
      rcases (g.sub i b z).1 with z | z
      · exact n z
      · rw [z] at e; cases e
    · obtain ⟨h1, h2⟩ := g'.sub i a h.1
      rcases h1 with ⟨j, z⟩ | z
      · exact g.sub j a z
      · exact ⟨.inr z, h2⟩
    · rw [List.getElem?_map] at e
      cases hd' : ds'[i]? with
      | none => rw [hd'] at e; cases e
      | some d1 =>
        rw [hd'] at e; cases e
        have hi : i < ds.length := by rw [← hold]; exact (List.getElem?_eq_some_iff.mp hd').1
        obtain ⟨d0, hd0⟩ : ∃ d0, ds[i]? = some d0 := ⟨ds[i], by simp [hi]⟩
        obtain ⟨d2, q1, q2⟩ := outA_get ho hd0
        rw [hd'] at q1; cases q1
        obtain ⟨v, hv, how⟩ := g.slot i d0 (by rw [List.getElem?_map, hd0]; rfl)
        rcases q2 with ⟨hf, rfl⟩ | ⟨hf, he⟩
        · exact ⟨v, hv, .fz ((how.dt hf).move hkS hqS) fun b z => by
            have := z.2 i rfl _ hd0
            rw [hf] at this; cases this⟩
        · obtain ⟨v', hv', how'⟩ := g'.slot i d he
          have hA : (bC K (fun c o _ H => E c o H) np asg).A i = false := by
            simp only [bC, Bool.or_eq_false_iff, decide_eq_false_iff_not]
            refine ⟨by omega, ?_⟩
            cases hx : asg.contains i with
            | false => rfl
            | true =>
              have := List.all_eq_true.mp hasg i (by simpa using hx)
              simp only [hd0] at this
              rw [hf] at this; cases this
          have := g'.keep.1 i hA
          rw [hv', hgetv (by omega), hv] at this
          cases this
          exact ⟨v, hv, (how'.move .refl (fun a z => .inl (hUp a z)) fun _ _ => rfl).iff fun b => ⟨fun z => z.1, fun z => ⟨z, fun j e d e2 => by
            cases e; rw [hd0] at e2; cases e2; exact hf⟩⟩⟩
    · have hn := hna _ (List.mem_of_getElem? e)
      rcases g'.tmp j v d e with ⟨k, rfl, _⟩ | h
      · cases hn
      · exact .inr ((h.move .refl (fun a z => .inl (hUp a z)) fun _ _ => rfl).iff fun b => ⟨fun z => z.1, fun z => ⟨z, fun j e => by cases e⟩⟩)
  split at hm
  · rename_i d e he
    split at hm
    · rename_i ds' ho
      cases hm
      refine hb B1 _ _ _ _ [] ⟨S, g1⟩ (fun p hp => by simp at hp) _ he _ fun v σ' H' hd ⟨S', g'⟩ => ?_
      obtain ⟨U, gU, _⟩ := hend g' (fun p hp => by simp at hp; subst hp; exact hd) ho
      exact hr v H' hd ⟨U, gU⟩
    · cases hm
  · rename_i e he
    split at hm
    · rename_i ds' ho
      cases hm
      refine hb B1 _ _ _ _ [] ⟨S, g1⟩ (fun p hp => by simp at hp) _ he _ fun σ' H' ⟨S', g'⟩ => ?_
      obtain ⟨U, gU, _⟩ := hend g' (fun p hp => by simp at hp) ho
      exact hr _ H' rfl (Good.prim (ts := []) (ts1 := []) gU (Post.dt .non))
    · cases hm
  · rename_i x e he
    split at hm
    · rename_i ds' ho
      cases hm
      refine hb B1 _ _ _ _ [] ⟨S, g1⟩ (fun p hp => by simp at hp) _ he _ fun σ' c o H' ⟨S', g', hx⟩ => ?_
      obtain ⟨U, gU, hU⟩ := hend g' (fun p hp => by simp at hp) ho
      exact hr c o H' ⟨U, gU, XOk.less (C := fC K) hx hU⟩
    · cases hm
  · cases hm
end Q


namespace Q
open PySem L2
/-! ### what operations make of data -/
mutual
def D.toP : D → PyData
  | .non => .none | .bl b => .bool b | .int i => .int i | .str s => .str s
  | .lst ds => .list (D.toPs ds) | .rol ds => .list (D.toPs ds) | .mls ds => .list (D.toPs ds) | .tup ds => .tuple (D.toPs ds)
  | _ => .none
def D.toPs : List D → List PyData
  | [] => []
  | d :: ds => D.toP d :: D.toPs ds
end
mutual
def D.okP : D → Bool
  | .non => true | .bl _ => true | .int _ => true | .str _ => true
  | .lst ds => D.okPs ds | .rol ds => D.okPs ds | .mls ds => D.okPs ds | .tup ds => D.okPs ds
  | _ => false
def D.okPs : List D → Bool
  | [] => true
  | d :: ds => D.okP d && D.okPs ds
end
section
variable {K : KC} {ps : Addr → Prop} {H : Hp} {v : V} {d : D} {xs : List V} {ds : List D}
mutual
theorem Dt.dp : ∀ {d : D} {v : V}, Dt K ps H v d → d.okP = true → Dp K H v d.toP
  | .non, v, h, _ => by rw [h.inv_non]; exact .non
  | .bl b, v, h, _ => by rw [h.inv_bl]; exact .bl b
  | .int b, v, h, _ => by rw [h.inv_int]; exact .int b
  | .str b, v, h, _ => by rw [h.inv_str]; exact .str b
  | .lst ds, v, h, e => by
    obtain ⟨a, xs, rfl, h1, _, hA⟩ := h.inv_lst
    exact .lst (SqL.of h1) (DtA.dp hA (by simpa [D.okP] using e))
  | .rol ds, v, h, e => by
    obtain ⟨a, xs, rfl, h1, hA⟩ := h.inv_rol
    exact .lst h1.sq (DtA.dp hA (by simpa [D.okP] using e))
  | .tup ds, v, h, e => by
    obtain ⟨a, xs, rfl, h1, hA⟩ := h.inv_tup
    exact .tup h1.sq (DtA.dp hA (by simpa [D.okP] using e))
  | .mls ds, v, h, e => by cases h
  | .cst c, v, h, e => by cases e
  | .al c, v, h, e => by cases e
  | .dct _ _, v, h, e => by cases e
  | .mdc _ _, v, h, e => by cases e
  | .dtt _ _, v, h, e => by cases e
  | .mdt _ _, v, h, e => by cases e
  | .xdt _ _, v, h, e => by cases e
  | .obj _ _ _, v, h, e => by cases e
  | .mob _ _ _, v, h, e => by cases e
theorem DtA.dp : ∀ {ds : List D} {xs : List V}, DtA K ps H xs ds → D.okPs ds = true → DpAll K H xs (D.toPs ds)
  | [], [], h, _ => .nil
  | [], _ :: _, h, _ => by have := h.1; simp at this
  | _ :: _, [], h, _ => by have := h.1; simp at this
  | d :: ds, x :: xs, h, e => by
    simp only [D.okPs, Bool.and_eq_true] at e
    exact .cons (Dt.dp (h.2 0 x d rfl rfl) e.1) (DtA.dp ⟨by simpa using h.1, fun i y f e1 e2 => h.2 (i + 1) y f (by simpa using e1) (by simpa using e2)⟩ e.2)
end
theorem Peek.dp (p : Peek K ps H v d) (h : d.okP = true) : Dp K H v d.toP := by
  obtain ⟨S, o, _⟩ := p
  cases o with
  | fz h1 _ => exact h1.dp h
  | mls h1 h2 _ => exact .lst (SqL.of h1) (DtA.dp h2 (by simpa [D.okP] using h))
  | mdc _ _ _ _ => cases h
  | mdt _ _ _ _ => cases h
  | mob _ _ _ _ _ => cases h
end
/-! ### dicts -/
def keyD : D → Option Key
  | .int i => some (.inl i) | .str s => some (.inr s) | _ => none
def findD {κ : Type} [DecidableEq κ] : List κ → List D → κ → Option D
  | k :: ks, d :: ds, q => if k = q then some d else findD ks ds q
  | _, _, _ => none
def hasK {κ : Type} [DecidableEq κ] (ks : List κ) (k : κ) : Bool := ks.any fun q => decide (q = k)
theorem hasK_of {κ : Type} [DecidableEq κ] {ks : List κ} {k : κ} (h : k ∈ ks) : hasK ks k = true := List.any_eq_true.mpr ⟨k, h, by simp⟩
theorem hasK_no {κ : Type} [DecidableEq κ] {ks : List κ} {k : κ} (h : k ∉ ks) : hasK ks k = false := by
  cases e : hasK ks k with
  | false => rfl
  | true =>
    obtain ⟨q, h1, h2⟩ := List.any_eq_true.mp e
    exact absurd (of_decide_eq_true h2 ▸ h1) h
theorem Peek.key {K : KC} {ps : Addr → Prop} {H : Hp} {v : V} {d : D} {k : Key} (p : Peek K ps H v d) (e : keyD d = some k) : v = kV k := by
  cases d <;> cases e
  · rw [p.int]; rfl
  · rw [p.str]; rfl
def keysD : D → Option (List Key)
  | .tup ds => ds.mapM keyD
  | _ => none
theorem keys_dt {K : KC} {ps : Addr → Prop} {H : Hp} : ∀ {xs : List V} {ds : List D} {k : List Key}, DtA K ps H xs ds → ds.mapM keyD = some k → xs = k.map kV
  | [], [], k, hA, e => by
    rw [List.mapM_nil] at e
    cases e; rfl
  | [], _ :: _, k, hA, e => by cases hA.1
  | _ :: _, [], k, hA, e => by cases hA.1
  | x :: xs, d :: ds, k, hA, e => by
    have h1 := hA.2 0 x d rfl rfl
    have h2 : DtA K ps H xs ds := ⟨by simpa using hA.1, fun i y f e1 e2 => hA.2 (i + 1) y f (by simpa using e1) (by simpa using e2)⟩
    rw [List.mapM_cons] at e
    cases e1 : keyD d with
    | none => rw [e1] at e; cases e
    | some q =>
      rw [e1] at e
      cases e2 : ds.mapM keyD with
      | none => rw [e2] at e; cases e
      | some r =>
        rw [e2] at e
        cases e
        have e3 := keys_dt h2 e2
        rw [e3]
        cases d <;> cases e1 <;> cases h1 <;> rfl
theorem findD_ok {K : KC} {ps : Addr → Prop} {H : Hp} {κ : Type} [DecidableEq κ] : ∀ {ks : List κ} {xs : List V} {ds : List D} {k : κ}, DtA K ps H xs ds → ks.length = ds.length →
    (valV (ks.zip xs) k = none ∧ findD ks ds k = none ∧ k ∉ ks) ∨ ∃ v d, valV (ks.zip xs) k = some v ∧ findD ks ds k = some d ∧ Dt K ps H v d ∧ k ∈ ks
  | [], xs, ds, k, hA, hl => .inl ⟨rfl, rfl, by simp⟩
  | q :: ks, [], [], k, hA, hl => by simp at hl
  | q :: ks, [], d :: ds, k, hA, hl => by have := hA.1; simp at this
  | q :: ks, x :: xs, [], k, hA, hl => by simp at hl
  | q :: ks, x :: xs, d :: ds, k, hA, hl => by
    have h1 := hA.2 0 x d rfl rfl
    have h2 : DtA K ps H xs ds := ⟨by simpa using hA.1, fun i y f e1 e2 => hA.2 (i + 1) y f (by simpa using e1) (by simpa using e2)⟩
    by_cases e : q = k
    · refine .inr ⟨x, d, ?_, ?_, h1, by simp [e]⟩
      · rw [List.zip_cons_cons]; exact valV_pos (p := (q, x)) e
      · simp only [findD, if_pos e]
    · have e1 : valV ((q :: ks).zip (x :: xs)) k = valV (ks.zip xs) k := by rw [List.zip_cons_cons]; exact valV_neg (p := (q, x)) e
      have e2 : findD (q :: ks) (d :: ds) k = findD ks ds k := by simp only [findD, if_neg e]
      rw [e1, e2]
      rcases findD_ok (ks := ks) (k := k) h2 (by simpa using hl) with ⟨a, b, c⟩ | ⟨v, d', a, b, c, m⟩
      · exact .inl ⟨a, b, by simp [c, Ne.symm e]⟩
      · exact .inr ⟨v, d', a, b, c, by simp [m]⟩
def dAdd : D → D → Option D
  | .int i, .int j => some (.int (i + j))
  | .str a, .str b => if a.length + b.length ≤ 16777216 then some (.str (a ++ b)) else none
  | .tup a, .tup b => if a.length + b.length ≤ 16777216 then some (.tup (a ++ b)) else none
  | .lst a, .lst b => if a.length + b.length ≤ 16777216 then some (.mls (a ++ b)) else none
  | .lst a, .mls b => if a.length + b.length ≤ 16777216 then some (.mls (a ++ b)) else none
  | .mls a, .lst b => if a.length + b.length ≤ 16777216 then some (.mls (a ++ b)) else none
  | .mls a, .mls b => if a.length + b.length ≤ 16777216 then some (.mls (a ++ b)) else none
  | _, _ => none
def dSub : D → D → Option D
  | .int i, .int j => some (.int (i - j))
  | _, _ => none
def dMul : D → D → Option D
  | .int i, .int j => if (-18446744073709551616 < i ∧ i < 18446744073709551616) ∨ (-18446744073709551616 < j ∧ j < 18446744073709551616) then some (.int (i * j)) else none
  | .lst a, .int k => if (-9223372036854775808 ≤ k ∧ k < 9223372036854775808) ∧ a.length * k.toNat ≤ 16777216 then some (.mls (List.replicate k.toNat a).flatten) else none
  | .mls a, .int k => if (-9223372036854775808 ≤ k ∧ k < 9223372036854775808) ∧ a.length * k.toNat ≤ 16777216 then some (.mls (List.replicate k.toNat a).flatten) else none
  | _, _ => none
def dDiv : D → D → Option D
  | .int i, .int j => if 0 < j ∧ j < 1073741824 then some (.int (i / j)) else none
  | _, _ => none
def dMod : D → D → Option D
  | .int i, .int j => if 0 < j then some (.int (i % j)) else none
  | _, _ => none
def dPow : D → D → Option D
  | .int i, .int j => if 0 ≤ j ∧ j ≤ 1000 ∧ i.natAbs < 1000000 then some (.int (i ^ j.toNat)) else none
  | _, _ => none
def dNeg : D → Option D
  | .int i => some (.int (-i))
  | _ => none
def dLt : D → D → Option D
  | .int i, .int j => some (.bl (decide (i < j)))
  | .str i, .str j => some (.bl (decide (i.cps.toList < j.cps.toList)))
  | _, _ => none
def dLe : D → D → Option D
  | .int i, .int j => some (.bl (decide (i ≤ j)))
  | .str i, .str j => some (.bl (!decide (j.cps.toList < i.cps.toList)))
  | _, _ => none
def dGt : D → D → Option D
  | .int i, .int j => some (.bl (decide (j < i)))
  | .str i, .str j => some (.bl (decide (j.cps.toList < i.cps.toList)))
  | _, _ => none
def dGe : D → D → Option D
  | .int i, .int j => some (.bl (decide (j ≤ i)))
  | .str i, .str j => some (.bl (!decide (i.cps.toList < j.cps.toList)))
  | _, _ => none
/-- == -/
def eqD : D → D → Option Bool
  | .int i, .int j => some (decide (i = j))
  | .str i, .str j => some (decide (i = j))
  | .bl i, .bl j => some (decide (i = j))
  | .non, .non => some true
  | x, y => if x.okP = true ∧ y.okP = true ∧ SeqAt.shaped x.toP = true ∧ SeqAt.shaped y.toP = true then some (PyData.eqv x.toP y.toP) else none
def dEq (x y : D) : Option D := (eqD x y).map .bl
def dNe (x y : D) : Option D := (eqD x y).map fun b => .bl (!b)
def dIs : D → D → Option D
  | .non, .non => some (.bl true)
  | .cst _, .non => none
  | .al _, .non => none
  | _, .non => some (.bl false)
  | _, _ => none
def dIsNot : D → D → Option D
  | .non, .non => some (.bl false)
  | .cst _, .non => none
  | .al _, .non => none
  | _, .non => some (.bl true)
  | _, _ => none
def flatD : D → Bool
  | .non => true | .bl _ => true | .int _ => true | .str _ => true | _ => false
def toV : D → V
  | .bl b => .bl b | .int i => .int i | .str s => .str s | _ => .non
def inD (x : D) (y : D) : Option Bool := match y with
  | .str z => (match x with
    | .str s => (match s.cps.toList with | [c] => some (decide (c ∈ z.cps.toList)) | _ => none)
    | _ => none)
  | .dct ks _ => (match keyD x with | some k => some (hasK ks k) | none => none)
  | .mdc ks _ => (match keyD x with | some k => some (hasK ks k) | none => none)
  | .dtt ks _ => (match keysD x with | some k => some (hasK ks k) | none => none)
  | .mdt ks _ => (match keysD x with | some k => some (hasK ks k) | none => none)
  | y => (match seqD y with
    | some ds => if flatD x = true ∧ ds.all flatD = true then some (inV (toV x) (ds.map toV)) else
      (match y.toP with
      | .list us => if x.okP = true ∧ y.okP = true ∧ SeqAt.shaped x.toP = true ∧ SeqAt.shaped y.toP = true ∧ x.toP.depth ≤ 16 then some (us.any fun z => PyData.eqv z x.toP) else none
      | _ => none)
    | none => none)
def dIn (x y : D) : Option D := (inD x y).map .bl
def dNotIn (x y : D) : Option D := (inD x y).map fun b => .bl (!b)
def dIx : D → D → Option D
  | .str z, .int i => if z.length ≤ 16777216 then (match atI z.cps.toList i with | some c => some (.str ⟨#[c]⟩) | none => none) else none
  | .dct ks ds, y => (match keyD y with | some k => findD ks ds k | none => none)
  | .mdc ks ds, y => (match keyD y with | some k => findD ks ds k | none => none)
  | .dtt ks ds, y => (match keysD y with | some k => findD ks ds k | none => none)
  | .mdt ks ds, y => (match keysD y with | some k => findD ks ds k | none => none)
  | x, .int i => (match seqD x with | some ds => atI ds i | none => none)
  | _, _ => none
def cutD (xs : List D) (lo hi : Option Int) : List D := (xs.drop (HT.sIx xs.length 0 lo)).take (HT.sIx xs.length xs.length hi - HT.sIx xs.length 0 lo)
def dSl (x : D) (lo hi : Option Int) : Option D := match x with
  | .str z => if z.length ≤ 16777216 then some (.str (cutS z lo hi)) else none
  | .tup ds => some (.tup (cutD ds lo hi))
  | .lst ds => some (.mls (cutD ds lo hi))
  | .rol ds => some (.mls (cutD ds lo hi))
  | .mls ds => some (.mls (cutD ds lo hi))
  | _ => none
def dLen : List D → Option D
  | [.str z] => if z.length ≤ 16777216 then some (.int z.length) else none
  | [.mdc ks _] => some (.int ks.length)
  | [.mdt ks _] => some (.int ks.length)
  | [x] => (match seqD x with | some ds => some (.int ds.length) | none => none)
  | _ => none
def dInt : List D → Option D
  | [.int i] => some (.int i)
  | [.bl b] => some (.int (if b then 1 else 0))
  | [.str a] => if a.length ≤ 640 then (match PySem.intText? a with | some n => some (.int n) | none => none) else none
  | _ => none
def dList : List D → Option D
  | [x] => (match seqD x with | some ds => some (.mls ds) | none => none)
  | _ => none
def dTuple : List D → Option D
  | [x] => (match seqD x with | some ds => some (.tup ds) | none => none)
  | _ => none
def dStr : List D → Option D
  | [.int i] => if i.natAbs.log2 < 1920 then some (.str (toString i)) else none
  | _ => none
def dMin : List D → Option D
  | [.int i, .int j] => some (.int (if j < i then j else i))
  | _ => none
def dMax : List D → Option D
  | [.int i, .int j] => some (.int (if j > i then j else i))
  | _ => none
def tyD : D → Option String
  | .non => some "NoneType" | .bl _ => some "bool" | .int _ => some "int" | .str _ => some "str" | .lst _ => some "list" | .mls _ => some "list" | .tup _ => some "tuple" | _ => none
def dIsi : List D → Option D
  | [x, .cst (.ty U)] => (match tyD x with
    | some t => (match kitB t U with | some b => some (.bl b) | none => none)
    | none => none)
  | _ => none
def lsD : D → Option (List D)
  | .lst ds => some ds | .mls ds => some ds | .rol ds => some ds | _ => none
def isBl : D → Bool | .bl _ => true | _ => false
def unBl : D → Bool | .bl b => b | _ => false
def isInt : D → Bool | .int _ => true | _ => false
def unInt : D → Int | .int b => b | _ => 0
def dAll : List D → Option D
  | [x] => (match lsD x with | some ds => if ds.all isBl = true then some (.bl (ds.all unBl)) else none | none => none)
  | _ => none
def dAny : List D → Option D
  | [x] => (match lsD x with | some ds => if ds.all isBl = true then some (.bl (ds.any unBl)) else none | none => none)
  | _ => none
def dSum : List D → Option D
  | [x] => (match lsD x with | some ds => if ds.all isInt = true then some (.int (ds.map unInt).sum) else none | none => none)
  | _ => none
section
variable {K : KC} {ps : Addr → Prop} {H : Hp} {v : V} {d : D} {xs : List V} {ds : List D}
theorem atI_dt {i : Int} {d : D} (h : DtA K ps H xs ds) (e : atI ds i = some d) : ∃ x, atI xs i = some x ∧ Dt K ps H x d := by
  unfold atI at e ⊢
  rw [h.1]
  cases hk : ixN ds.length i with
  | none => rw [hk] at e; cases e
  | some k =>
    rw [hk] at e
    exact h.get e
theorem cut_dt (h : DtA K ps H xs ds) (lo hi : Option Int) : DtA K ps H (cutV xs lo hi) (cutD ds lo hi) := by
  unfold cutV cutD
  rw [h.1]
  exact (h.drop _).take _
theorem Peek.ls (p : Peek K ps H v d) (e : lsD d = some ds) : ∃ a xs, v = .ref a ∧ SqL K H a xs ∧ DtA K ps H xs ds := by
  cases d <;> cases e
  · obtain ⟨a, xs, e, h1, h2⟩ := p.lst; exact ⟨a, xs, e, SqL.of h1, h2⟩
  · obtain ⟨a, xs, e, h1, h2⟩ := p.rol; exact ⟨a, xs, e, h1, h2⟩
  · obtain ⟨a, xs, e, h1, h2⟩ := p.mls; exact ⟨a, xs, e, SqL.of h1, h2⟩
theorem flat_dt : ∀ {xs : List V} {ds : List D}, DtA K ps H xs ds → ds.all flatD = true → xs = ds.map toV ∧ xs.all flatV = true
  | [], [], h, _ => ⟨rfl, rfl⟩
  | [], _ :: _, h, _ => by have := h.1; simp at this
  | _ :: _, [], h, _ => by have := h.1; simp at this
  | x :: xs, d :: ds, h, e => by
    simp only [List.all_cons, Bool.and_eq_true] at e
    obtain ⟨h1, h2⟩ := flat_dt (xs := xs) (ds := ds) ⟨by simpa using h.1, fun i y f e1 e2 => h.2 (i + 1) y f (by simpa using e1) (by simpa using e2)⟩ e.2
    have h0 := h.2 0 x d rfl rfl
    have hx : x = toV d ∧ flatV x = true := by
      cases d <;> first | (cases h0; exact ⟨rfl, rfl⟩) | cases e.1
    refine ⟨by rw [h1, hx.1]; rfl, ?_⟩
    simp only [List.all_cons, Bool.and_eq_true]
    exact ⟨hx.2, h2⟩
theorem bls_dt : ∀ {xs : List V} {ds : List D}, DtA K ps H xs ds → ds.all isBl = true → xs = (ds.map unBl).map V.bl
  | [], [], h, _ => rfl
  | [], _ :: _, h, _ => by have := h.1; simp at this
  | _ :: _, [], h, _ => by have := h.1; simp at this
  | x :: xs, d :: ds, h, e => by
    simp only [List.all_cons, Bool.and_eq_true] at e
    have h1 := bls_dt (xs := xs) (ds := ds) ⟨by simpa using h.1, fun i y f e1 e2 => h.2 (i + 1) y f (by simpa using e1) (by simpa using e2)⟩ e.2
    have h0 := h.2 0 x d rfl rfl
    have hx : x = .bl (unBl d) := by cases d <;> first | (cases h0; rfl) | cases e.1
    rw [h1, hx]; rfl
theorem ints_dt : ∀ {xs : List V} {ds : List D}, DtA K ps H xs ds → ds.all isInt = true → xs = (ds.map unInt).map V.int
  | [], [], h, _ => rfl
  | [], _ :: _, h, _ => by have := h.1; simp at this
  | _ :: _, [], h, _ => by have := h.1; simp at this
  | x :: xs, d :: ds, h, e => by
    simp only [List.all_cons, Bool.and_eq_true] at e
    have h1 := ints_dt (xs := xs) (ds := ds) ⟨by simpa using h.1, fun i y f e1 e2 => h.2 (i + 1) y f (by simpa using e1) (by simpa using e2)⟩ e.2
    have h0 := h.2 0 x d rfl rfl
    have hx : x = .int (unInt d) := by cases d <;> first | (cases h0; rfl) | cases e.1
    rw [h1, hx]; rfl
theorem Peek.flat (p : Peek K ps H v d) (h : flatD d = true) : v = toV d ∧ flatV v = true := by
  cases d <;> first | cases h | skip
  · rw [p.non]; exact ⟨rfl, rfl⟩
  · rw [p.bl]; exact ⟨rfl, rfl⟩
  · rw [p.int]; exact ⟨rfl, rfl⟩
  · rw [p.str]; exact ⟨rfl, rfl⟩
theorem p_add : P2 K (rAddD K) dAdd := by
  intro ps H x y d d' e Q ht px py h hq
  have hls : ∀ {a b : List D} {xa xb : List V} {l m : Addr}, H l = some (.lst xa) → H m = some (.lst xb) → DtA K ps H xa a → DtA K ps H xb b → (if a.length + b.length ≤ 16777216 then some (D.mls (a ++ b)) else none) = some e → rAddD K (.ref l) (.ref m) H Q := fun {a b xa xb l m} h1 h2 hA hB h => by
    split at h
    · rename_i hsz
      cases h
      exact .inl ⟨l, m, xa, xb, rfl, rfl, h1, h2, by rw [hA.1, hB.1, sizeLine_eq]; exact hsz, fun p hp => hq _ _ (Post.lst hp (hA.append hB))⟩
    · cases h
  match d, d', h with
  | .int i, .int j, h => cases h; rw [px.int, py.int]; exact hq _ _ (Post.dt (.int _))
  | .str a, .str b, h =>
    simp only [dAdd] at h
    split at h
    · rename_i hsz
      cases h; rw [px.str, py.str]; exact ⟨by rw [sizeLine_eq]; exact hsz, hq _ _ (Post.dt (.str _))⟩
    · cases h
  | .tup a, .tup b, h =>
    simp only [dAdd] at h
    split at h
    · rename_i hsz
      cases h
      obtain ⟨l, xa, rfl, h1, hA⟩ := px.tup
      obtain ⟨m, xb, rfl, h2, hB⟩ := py.tup
      obtain ⟨S1, o1, _⟩ := px
      obtain ⟨S2, o2, _⟩ := py
      refine .inr ⟨l, m, xa, xb, rfl, rfl, h1, h2, by rw [hA.1, hB.1, sizeLine_eq]; exact hsz, fun hx => ?_, fun hx hy => ?_, fun hx hy p hp => hq _ _ (Post.tup ht hp (hA.append hB))⟩
      · have : a = [] := List.eq_nil_of_length_eq_zero (by rw [← hA.1, hx]; rfl)
        subst this
        exact hq _ _ (Post.dt (o2.dt rfl))
      · have : b = [] := List.eq_nil_of_length_eq_zero (by rw [← hB.1, hy]; rfl)
        subst this
        rw [List.append_nil] at hq
        exact hq _ _ (Post.dt (o1.dt rfl))
    · cases h
  | .lst a, .lst b, h => obtain ⟨l, xa, rfl, h1, hA⟩ := px.lst; obtain ⟨m, xb, rfl, h2, hB⟩ := py.lst; exact hls h1 h2 hA hB h
  | .lst a, .mls b, h => obtain ⟨l, xa, rfl, h1, hA⟩ := px.lst; obtain ⟨m, xb, rfl, h2, hB⟩ := py.mls; exact hls h1 h2 hA hB h
  | .mls a, .lst b, h => obtain ⟨l, xa, rfl, h1, hA⟩ := px.mls; obtain ⟨m, xb, rfl, h2, hB⟩ := py.lst; exact hls h1 h2 hA hB h
  | .mls a, .mls b, h => obtain ⟨l, xa, rfl, h1, hA⟩ := px.mls; obtain ⟨m, xb, rfl, h2, hB⟩ := py.mls; exact hls h1 h2 hA hB h
theorem p_sub : P2 K rSubD dSub := by
  intro ps H x y d d' e Q ht px py h hq
  match d, d', h with
  | .int i, .int j, h => cases h; rw [px.int, py.int]; exact hq _ _ (Post.dt (.int _))
theorem p_mul : P2 K rMulD dMul := by
  intro ps H x y d d' e Q ht px py h hq
  have hls : ∀ {a : List D} {k : Int} {xa : List V} {l : Addr}, H l = some (.lst xa) → DtA K ps H xa a → (if (-9223372036854775808 ≤ k ∧ k < 9223372036854775808) ∧ a.length * k.toNat ≤ 16777216 then some (D.mls (List.replicate k.toNat a).flatten) else none) = some e → rMulD (.ref l) (.int k) H Q := fun {a k xa l} h1 hA h => by
    split at h
    · rename_i hc
      cases h
      exact ⟨l, k, xa, rfl, rfl, h1, by omega, by omega, by rw [hA.1, sizeLine_eq]; exact hc.2, fun p hp => hq _ _ (Post.lst hp (hA.flat _))⟩
    · cases h
  match d, d', h with
  | .int i, .int j, h =>
    simp only [dMul] at h
    split at h
    · rename_i hc
      cases h; rw [px.int, py.int]
      refine ⟨?_, hq _ _ (Post.dt (.int _))⟩
      rcases hc with hc | hc
      · exact .inl ⟨by omega, by omega⟩
      · exact .inr ⟨by omega, by omega⟩
    · cases h
  | .lst a, .int k, h => obtain ⟨l, xa, rfl, h1, hA⟩ := px.lst; rw [py.int]; exact hls h1 hA h
  | .mls a, .int k, h => obtain ⟨l, xa, rfl, h1, hA⟩ := px.mls; rw [py.int]; exact hls h1 hA h
theorem p_div : P2 K rFdivD dDiv := by
  intro ps H x y d d' e Q ht px py h hq
  match d, d', h with
  | .int i, .int j, h =>
    simp only [dDiv] at h
    split at h
    · rename_i hc
      cases h; rw [px.int, py.int]; exact ⟨hc, hq _ _ (Post.dt (.int _))⟩
    · cases h
theorem p_mod : P2 K rModD dMod := by
  intro ps H x y d d' e Q ht px py h hq
  match d, d', h with
  | .int i, .int j, h =>
    simp only [dMod] at h
    split at h
    · rename_i hc
      cases h; rw [px.int, py.int]; exact ⟨hc, hq _ _ (Post.dt (.int _))⟩
    · cases h
theorem p_pow : P2 K rPowD dPow := by
  intro ps H x y d d' e Q ht px py h hq
  match d, d', h with
  | .int i, .int j, h =>
    simp only [dPow] at h
    split at h
    · rename_i hc
      cases h; rw [px.int, py.int]; exact ⟨⟨hc.1, by omega, by omega⟩, hq _ _ (Post.dt (.int _))⟩
    · cases h
theorem p_neg : P1 K rNeg dNeg := by
  intro ps H x d e Q ht px h hq
  match d, h with
  | .int i, h => cases h; rw [px.int]; exact ⟨i, rfl, hq _ _ (Post.dt (.int _))⟩
theorem p_lt : P2 K rLtD dLt := by
  intro ps H x y d d' e Q ht px py h hq
  match d, d', h with
  | .int i, .int j, h => cases h; rw [px.int, py.int]; exact hq _ _ (Post.dt (.bl _))
  | .str i, .str j, h => cases h; rw [px.str, py.str]; exact hq _ _ (Post.dt (.bl _))
theorem p_le : P2 K rLeD dLe := by
  intro ps H x y d d' e Q ht px py h hq
  match d, d', h with
  | .int i, .int j, h => cases h; rw [px.int, py.int]; exact hq _ _ (Post.dt (.bl _))
  | .str i, .str j, h => cases h; rw [px.str, py.str]; exact hq _ _ (Post.dt (.bl _))
theorem p_gt : P2 K rGtD dGt := by
  intro ps H x y d d' e Q ht px py h hq
  match d, d', h with
  | .int i, .int j, h => cases h; rw [px.int, py.int]; exact hq _ _ (Post.dt (.bl _))
  | .str i, .str j, h => cases h; rw [px.str, py.str]; exact hq _ _ (Post.dt (.bl _))
theorem p_ge : P2 K rGeD dGe := by
  intro ps H x y d d' e Q ht px py h hq
  match d, d', h with
  | .int i, .int j, h => cases h; rw [px.int, py.int]; exact hq _ _ (Post.dt (.bl _))
  | .str i, .str j, h => cases h; rw [px.str, py.str]; exact hq _ _ (Post.dt (.bl _))
theorem eq_ok {ps : Addr → Prop} {H : Hp} {x y : V} {d d' : D} {b : Bool} (px : Peek K ps H x d) (py : Peek K ps H y d') (h : eqD d d' = some b) : (scal x y = true ∧ decide (x = y) = b) ∨ ∃ e e', Dp K H x e ∧ Dp K H y e' ∧ SeqAt.shaped e = true ∧ SeqAt.shaped e' = true ∧ PyData.eqv e e' = b := by
  unfold eqD at h
  split at h
  · cases h; rw [px.int, py.int]; exact .inl ⟨rfl, by simp⟩
  · cases h; rw [px.str, py.str]; exact .inl ⟨rfl, by simp⟩
  · cases h; rw [px.bl, py.bl]; exact .inl ⟨rfl, by simp⟩
  · cases h; rw [px.non, py.non]; exact .inl ⟨rfl, by simp⟩
  · split at h
    · rename_i hc
      cases h
      exact .inr ⟨_, _, px.dp hc.1, py.dp hc.2.1, hc.2.2.1, hc.2.2.2, rfl⟩
    · cases h
theorem p_eq : P2 K (rEqX K) dEq := by
  intro ps H x y d d' e Q ht px py h hq
  unfold dEq at h
  cases hb : eqD d d' with
  | none => rw [hb] at h; cases h
  | some b =>
    rw [hb] at h; cases h
    rcases eq_ok px py hb with ⟨h1, h2⟩ | ⟨e, e', h1, h2, h3, h4, h5⟩
    · exact .inl ⟨h1, by rw [h2]; exact hq _ _ (Post.dt (.bl _))⟩
    · exact .inr ⟨e, e', h1, h2, h3, h4, by rw [h5]; exact hq _ _ (Post.dt (.bl _))⟩
theorem p_ne : P2 K (rNeX K) dNe := by
  intro ps H x y d d' e Q ht px py h hq
  unfold dNe at h
  cases hb : eqD d d' with
  | none => rw [hb] at h; cases h
  | some b =>
    rw [hb] at h; cases h
    rcases eq_ok px py hb with ⟨h1, h2⟩ | ⟨e, e', h1, h2, h3, h4, h5⟩
    · exact .inl ⟨h1, by rw [h2]; exact hq _ _ (Post.dt (.bl _))⟩
    · exact .inr ⟨e, e', h1, h2, h3, h4, by rw [h5]; exact hq _ _ (Post.dt (.bl _))⟩
theorem peek_non (p : Peek K ps H v d) (h1 : ∀ c, d ≠ .cst c) : v = .non ↔ d = .non := by
  constructor
  · rintro rfl
    obtain ⟨S, o, _⟩ := p
    cases o with
    | fz h _ => cases h with
      | non => rfl
      | cst => exact absurd rfl (h1 _)
  · rintro rfl
    exact p.non
theorem p_is : P2 K rIsD dIs := by
  intro ps H x y d d' e Q ht px py h hq
  have hy : d' = .non := by
    cases d' <;> first | rfl | (unfold dIs at h; cases d <;> cases h)
  subst hy
  refine ⟨py.non, ?_⟩
  have hc : ∀ c, d ≠ .cst c := fun c z => by subst z; cases h
  have := peek_non px hc
  cases d <;> first | (cases h; rw [decide_eq_true (this.mpr rfl)]; exact hq _ _ (Post.dt (.bl _))) | (cases h; rw [decide_eq_false (fun z => by have := this.mp z; cases this)]; exact hq _ _ (Post.dt (.bl _))) | cases h
theorem p_isnot : P2 K rIsnotD dIsNot := by
  intro ps H x y d d' e Q ht px py h hq
  have hy : d' = .non := by
    cases d' <;> first | rfl | (unfold dIsNot at h; cases d <;> cases h)
  subst hy
  refine ⟨py.non, ?_⟩
  have hc : ∀ c, d ≠ .cst c := fun c z => by subst z; cases h
  have := peek_non px hc
  cases d <;> first | (cases h; rw [decide_eq_true (this.mpr rfl)]; exact hq _ _ (Post.dt (.bl _))) | (cases h; rw [decide_eq_false (fun z => by have := this.mp z; cases this)]; exact hq _ _ (Post.dt (.bl _))) | cases h
theorem Peek.keys {K : KC} {ps : Addr → Prop} {H : Hp} {v : V} {d : D} {k : List Key} (p : Peek K ps H v d) (e : keysD d = some k) : ∃ b, v = .ref b ∧ SqT K H b (k.map kV) := by
  unfold keysD at e
  split at e
  · obtain ⟨a, xs, rfl, h1, hA⟩ := p.tup
    rw [keys_dt hA e] at h1
    exact ⟨a, rfl, h1⟩
  · cases e
theorem in_ok {ps : Addr → Prop} {H : Hp} {x y : V} {d d' : D} {b : Bool} (px : Peek K ps H x d) (py : Peek K ps H y d') (h : inD d d' = some b) : (∃ p xs, y = .ref p ∧ (SqL K H p xs ∨ SqT K H p xs) ∧ flatV x = true ∧ xs.all flatV = true ∧ inV x xs = b) ∨ (∃ (c : Nat) (z : Str), x = .str ⟨#[c]⟩ ∧ y = .str z ∧ decide (c ∈ z.cps.toList) = b) ∨ (∃ a o, y = .ref a ∧ DGetS K H a x o ∧ o.isSome = b) ∨
    ∃ e us, Dp K H x e ∧ Dp K H y (.list us) ∧ SeqAt.shaped e = true ∧ SeqAt.shaped (.list us) = true ∧ e.depth ≤ 16 ∧ (us.any fun z => PyData.eqv z e) = b := by
  have dk : ∀ {ks : List Key} {ds : List D}, dctD d' = some (ks, ds) → (match keyD d with | some k => some (hasK ks k) | none => none) = some b → ∃ a o, y = .ref a ∧ DGetS K H a x o ∧ o.isSome = b := by
    intro ks ds e h
    split at h
    · rename_i k hk
      obtain ⟨a, xs, rfl, h1, h2, h3⟩ := py.dk e
      refine ⟨a, _, rfl, .inl (.inl ⟨_, k, h1, px.key hk, rfl⟩), ?_⟩
      rcases findD_ok (ks := ks) (k := k) h3 h2 with ⟨e1, _, e3⟩ | ⟨v, d2, e1, _, _, e3⟩
      · rw [hasK_no e3] at h; rw [e1]; exact Option.some.inj h
      · rw [hasK_of e3] at h; rw [e1]; exact Option.some.inj h
    · cases h
  have tk : ∀ {ks : List (List Key)} {ds : List D}, dttD d' = some (ks, ds) → (match keysD d with | some k => some (hasK ks k) | none => none) = some b → ∃ a o, y = .ref a ∧ DGetS K H a x o ∧ o.isSome = b := by
    intro ks ds e h
    split at h
    · rename_i k hk
      obtain ⟨a, xs, rfl, h1, h2, h3⟩ := py.tk e
      obtain ⟨b', rfl, hb⟩ := px.keys hk
      refine ⟨a, _, rfl, .inr ⟨_, k, b', h1, rfl, hb, rfl⟩, ?_⟩
      rcases findD_ok (ks := ks) (k := k) h3 h2 with ⟨e1, _, e3⟩ | ⟨v, d2, e1, _, _, e3⟩
      · rw [hasK_no e3] at h; rw [e1]; exact Option.some.inj h
      · rw [hasK_of e3] at h; rw [e1]; exact Option.some.inj h
    · cases h
  unfold inD at h
  split at h
  · rename_i z
    split at h
    · rename_i s
      split at h
      · rename_i c hc
        cases h
        refine .inr (.inl ⟨c, z, ?_, py.str, rfl⟩)
        rw [px.str]
        obtain ⟨a⟩ := s
        congr 2
        apply Array.ext'
        simpa using hc
      · cases h
    · cases h
  · exact .inr (.inr (.inl (dk rfl h)))
  · exact .inr (.inr (.inl (dk rfl h)))
  · exact .inr (.inr (.inl (tk rfl h)))
  · exact .inr (.inr (.inl (tk rfl h)))
  · split at h
    · rename_i ds hds
      split at h
      · rename_i hc
        cases h
        obtain ⟨a, xs, rfl, hq, hA⟩ := py.seq hds
        obtain ⟨e1, e2⟩ := flat_dt hA hc.2
        obtain ⟨e3, e4⟩ := px.flat hc.1
        exact .inl ⟨a, xs, rfl, hq, e4, e2, by rw [e3, e1]⟩
      · split at h
        · rename_i us hus
          split at h
          · rename_i hc
            cases h
            refine .inr (.inr (.inr ⟨_, us, px.dp hc.1, ?_, hc.2.2.1, ?_, hc.2.2.2.2, rfl⟩))
            · rw [← hus]; exact py.dp hc.2.1
            · rw [← hus]; exact hc.2.2.2.1
          · cases h
        · cases h
    · cases h
theorem p_in : P2 K (rInD K) dIn := by
  intro ps H x y d d' e Q ht px py h hq
  unfold dIn at h
  cases hb : inD d d' with
  | none => rw [hb] at h; cases h
  | some b =>
    rw [hb] at h; cases h
    rcases in_ok px py hb with ⟨p, xs, h1, h2, h3, h4, h5⟩ | ⟨c, z, h1, h2, h3⟩ | ⟨a, o, h1, h2, h3⟩ | ⟨u, us, h1, h2, h3, h4, h5, h6⟩
    · exact .inl ⟨p, xs, h1, h2, h3, h4, by rw [if_neg Bool.false_ne_true, h5]; exact hq _ _ (Post.dt (.bl _))⟩
    · exact .inr (.inr (.inl ⟨c, z, h1, h2, by rw [h3]; exact hq _ _ (Post.dt (.bl _))⟩))
    · exact .inr (.inl ⟨a, o, h1, h2, by rw [h3]; exact hq _ _ (Post.dt (.bl _))⟩)
    · exact .inr (.inr (.inr ⟨u, us, h1, h2, h3, h4, h5, by rw [h6]; exact hq _ _ (Post.dt (.bl _))⟩))
theorem p_notin : P2 K (rNotInD K) dNotIn := by
  intro ps H x y d d' e Q ht px py h hq
  unfold dNotIn at h
  cases hb : inD d d' with
  | none => rw [hb] at h; cases h
  | some b =>
    rw [hb] at h; cases h
    rcases in_ok px py hb with ⟨p, xs, h1, h2, h3, h4, h5⟩ | ⟨c, z, h1, h2, h3⟩ | ⟨a, o, h1, h2, h3⟩ | ⟨u, us, h1, h2, h3, h4, h5, h6⟩
    · exact .inl ⟨p, xs, h1, h2, h3, h4, by rw [if_pos rfl, h5]; exact hq _ _ (Post.dt (.bl _))⟩
    · exact .inr (.inr (.inl ⟨c, z, h1, h2, by rw [h3]; exact hq _ _ (Post.dt (.bl _))⟩))
    · exact .inr (.inl ⟨a, o, h1, h2, by rw [h3]; exact hq _ _ (Post.dt (.bl _))⟩)
    · exact .inr (.inr (.inr ⟨u, us, h1, h2, h3, h4, h5, by rw [h6]; exact hq _ _ (Post.dt (.bl _))⟩))
theorem p_ix : P2 K (rIxD K) dIx := by
  intro ps H x y d d' e Q ht px py h hq
  have dk : ∀ {ks : List Key} {ds : List D}, dctD d = some (ks, ds) → (match keyD d' with | some k => findD ks ds k | none => none) = some e → rIxD K x y H Q := by
    intro ks ds e h
    split at h
    · rename_i k hk
      obtain ⟨a, xs, rfl, h1, h2, h3⟩ := px.dk e
      rcases findD_ok (ks := ks) (k := k) h3 h2 with ⟨e1, e2, _⟩ | ⟨v, d2, e1, e2, e4, _⟩
      · rw [e2] at h; cases h
      · rw [e2] at h; cases h
        exact .inr ⟨a, v, rfl, .inl (.inl ⟨_, k, h1, py.key hk, e1.symm⟩), hq _ _ (Post.dt e4)⟩
    · cases h
  have tk : ∀ {ks : List (List Key)} {ds : List D}, dttD d = some (ks, ds) → (match keysD d' with | some k => findD ks ds k | none => none) = some e → rIxD K x y H Q := by
    intro ks ds e h
    split at h
    · rename_i k hk
      obtain ⟨a, xs, rfl, h1, h2, h3⟩ := px.tk e
      obtain ⟨b', rfl, hb⟩ := py.keys hk
      rcases findD_ok (ks := ks) (k := k) h3 h2 with ⟨e1, e2, _⟩ | ⟨v, d2, e1, e2, e4, _⟩
      · rw [e2] at h; cases h
      · rw [e2] at h; cases h
        exact .inr ⟨a, v, rfl, .inr ⟨_, k, b', h1, rfl, hb, e1.symm⟩, hq _ _ (Post.dt e4)⟩
    · cases h
  unfold dIx at h
  split at h
  · rename_i z i
    split at h
    · rename_i hsz
      split at h
      · rename_i c hc
        cases h
        exact .inl (.inr (.inr ⟨z, i, c, px.str, py.int, by rw [sizeLine_eq]; exact hsz, hc, hq _ _ (Post.dt (.str _))⟩))
      · cases h
    · cases h
  · exact dk rfl h
  · exact dk rfl h
  · exact tk rfl h
  · exact tk rfl h
  · rename_i i _ _ _ _ _
    split at h
    · rename_i ds hds
      obtain ⟨a, xs, rfl, hs, hA⟩ := px.seq hds
      obtain ⟨v, hv, hd⟩ := atI_dt hA h
      rcases hs with hs | hs
      · exact .inl (.inl ⟨a, xs, i, v, rfl, py.int, hs, hv, hq _ _ (Post.dt hd)⟩)
      · exact .inl (.inr (.inl ⟨a, xs, i, v, rfl, py.int, hs, hv, hq _ _ (Post.dt hd)⟩))
    · cases h
  · cases h
theorem p_sl : PSl K (rSlX K) dSl := by
  intro ps H x d lo hi e Q ht px h hq
  unfold dSl at h
  split at h
  · split at h
    · rename_i z hsz
      cases h
      exact .inr (.inr ⟨z, px.str, by rw [sizeLine_eq]; exact hsz, hq _ _ (Post.dt (.str _))⟩)
    · cases h
  · rename_i ds
    cases h
    obtain ⟨a, xs, rfl, h1, hA⟩ := px.tup
    obtain ⟨S1, o1, _⟩ := px
    refine .inr (.inl ⟨a, xs, rfl, h1, fun hw => ?_, fun _ p hp => hq _ _ (Post.tup ht hp (cut_dt hA lo hi))⟩)
    have : cutD ds lo hi = ds := by
      unfold cutD
      rw [← hA.1, hw.1, hw.2, hA.1]
      simp
    rw [this] at hq
    exact hq _ _ (Post.dt (o1.dt rfl))
  · cases h; obtain ⟨a, xs, rfl, h1, hA⟩ := px.lst; exact .inl ⟨a, xs, rfl, SqL.of h1, fun p hp => hq _ _ (Post.lst hp (cut_dt hA lo hi))⟩
  · cases h; obtain ⟨a, xs, rfl, h1, hA⟩ := px.rol; exact .inl ⟨a, xs, rfl, h1, fun p hp => hq _ _ (Post.lst hp (cut_dt hA lo hi))⟩
  · cases h; obtain ⟨a, xs, rfl, h1, hA⟩ := px.mls; exact .inl ⟨a, xs, rfl, SqL.of h1, fun p hp => hq _ _ (Post.lst hp (cut_dt hA lo hi))⟩
  · cases h
theorem PeekA.one {xs : List V} {d : D} (h : PeekA K ps H xs [d]) : ∃ x, xs = [x] ∧ Peek K ps H x d := by
  cases h with
  | cons h1 h2 => cases h2; exact ⟨_, rfl, h1⟩
theorem PeekA.two {xs : List V} {d e : D} (h : PeekA K ps H xs [d, e]) : ∃ x y, xs = [x, y] ∧ Peek K ps H x d ∧ Peek K ps H y e := by
  cases h with
  | cons h1 h2 =>
    obtain ⟨y, rfl, h3⟩ := h2.one
    exact ⟨_, _, rfl, h1, h3⟩
theorem p_len : PN K (rLenD K) dLen := by
  intro ps H xs ds e Q ht p h hq
  unfold dLen at h
  split at h
  · split at h
    · rename_i z hsz
      cases h
      obtain ⟨x, rfl, px⟩ := p.one
      rw [px.str]
      exact .inl ⟨_, z.length, rfl, ⟨by rw [sizeLine_eq]; exact hsz, rfl⟩, fun _ => hq _ _ (Post.dt (.int _))⟩
    · cases h
  · cases h
    obtain ⟨x, rfl, px⟩ := p.one
    obtain ⟨a, xs, rfl, h1, h2, h3⟩ := px.mdc
    refine .inr (.inl ⟨a, _, rfl, h1, ?_⟩)
    rw [List.length_zip, h3.1, ← h2, Nat.min_self]
    exact hq _ _ (Post.dt (.int _))
  · cases h
    obtain ⟨x, rfl, px⟩ := p.one
    obtain ⟨a, xs, rfl, h1, h2, h3⟩ := px.mdt
    refine .inr (.inr ⟨a, _, rfl, h1, ?_⟩)
    rw [List.length_zip, h3.1, ← h2, Nat.min_self]
    exact hq _ _ (Post.dt (.int _))
  · split at h
    · rename_i ds' hds
      cases h
      obtain ⟨x, rfl, px⟩ := p.one
      obtain ⟨a, xs, rfl, hs, hA⟩ := px.seq hds
      have e := hA.1
      rcases hs with hs | hs
      · exact .inl ⟨_, ds'.length, rfl, .inl ⟨xs, hs, e.symm⟩, fun _ => hq _ _ (Post.dt (.int _))⟩
      · exact .inl ⟨_, ds'.length, rfl, .inr ⟨xs, hs, e.symm⟩, fun _ => hq _ _ (Post.dt (.int _))⟩
    · cases h
  · cases h
theorem p_int : PN K rIntD dInt := by
  intro ps H xs ds e Q ht p h hq
  unfold dInt at h
  split at h
  · cases h
    obtain ⟨x, rfl, px⟩ := p.one
    rw [px.int]; exact hq _ _ (Post.dt (.int _))
  · cases h
    obtain ⟨x, rfl, px⟩ := p.one
    rw [px.bl]; exact hq _ _ (Post.dt (.int _))
  · split at h
    · rename_i hl
      split at h
      · rename_i n hn
        cases h
        obtain ⟨x, rfl, px⟩ := p.one
        rw [px.str]; exact ⟨n, hn, hl, hq _ _ (Post.dt (.int _))⟩
      · cases h
    · cases h
  · cases h
theorem p_list : PN K (rListD K) dList := by
  intro ps H xs ds e Q ht p h hq
  unfold dList at h
  split at h
  · split at h
    · rename_i hds
      cases h
      obtain ⟨x, rfl, px⟩ := p.one
      obtain ⟨a, xs, rfl, hs, hA⟩ := px.seq hds
      exact ⟨a, xs, rfl, hs, fun l hl => hq _ _ (Post.lst hl hA)⟩
    · cases h
  · cases h
theorem p_tuple : PN K (rTupleD K) dTuple := by
  intro ps H xs ds e Q ht p h hq
  unfold dTuple at h
  split at h
  · rename_i d
    split at h
    · rename_i hds
      cases h
      obtain ⟨x, rfl, px⟩ := p.one
      cases d <;> cases hds
      · obtain ⟨a, xs, rfl, hs, hA⟩ := px.tup
        obtain ⟨S1, o1, _⟩ := px
        exact ⟨a, xs, rfl, .inr ⟨hs, hq _ _ (Post.dt (o1.dt rfl))⟩⟩
      · obtain ⟨a, xs, rfl, hs, hA⟩ := px.lst
        exact ⟨a, xs, rfl, .inl ⟨SqL.of hs, fun l hl => hq _ _ (Post.tup ht hl hA)⟩⟩
      · obtain ⟨a, xs, rfl, hs, hA⟩ := px.rol
        exact ⟨a, xs, rfl, .inl ⟨hs, fun l hl => hq _ _ (Post.tup ht hl hA)⟩⟩
      · obtain ⟨a, xs, rfl, hs, hA⟩ := px.mls
        exact ⟨a, xs, rfl, .inl ⟨SqL.of hs, fun l hl => hq _ _ (Post.tup ht hl hA)⟩⟩
    · cases h
  · cases h
theorem p_str : PN K rStrD dStr := by
  intro ps H xs ds e Q ht p h hq
  unfold dStr at h
  split at h
  · split at h
    · rename_i hc
      cases h
      obtain ⟨x, rfl, px⟩ := p.one
      rw [px.int]; exact ⟨hc, hq _ _ (Post.dt (.str _))⟩
    · cases h
  · cases h
theorem p_min : PN K (rMinD K) dMin := by
  intro ps H xs ds e Q ht p h hq
  unfold dMin at h
  split at h
  · cases h
    obtain ⟨x, y, rfl, px, py⟩ := p.two
    rw [px.int, py.int]; exact hq _ _ (Post.dt (.int _))
  · cases h
theorem p_max : PN K (rMaxD K) dMax := by
  intro ps H xs ds e Q ht p h hq
  unfold dMax at h
  split at h
  · cases h
    obtain ⟨x, y, rfl, px, py⟩ := p.two
    rw [px.int, py.int]; exact hq _ _ (Post.dt (.int _))
  · cases h
theorem Peek.ty {t : String} (p : Peek K ps H v d) (h : tyD d = some t) : TyX K H v (.type t) := by
  cases d with
  | non => cases h; rw [p.non]; exact .base .non
  | bl b => cases h; rw [p.bl]; exact .base (.bl b)
  | int b => cases h; rw [p.int]; exact .base (.int b)
  | str b => cases h; rw [p.str]; exact .base (.str b)
  | lst ds => cases h; obtain ⟨a, xs, rfl, h1, _⟩ := p.lst; exact .base (.lst h1)
  | mls ds => cases h; obtain ⟨a, xs, rfl, h1, _⟩ := p.mls; exact .base (.lst h1)
  | tup ds =>
    cases h
    obtain ⟨S, o, _⟩ := p
    obtain ⟨a, xs, rfl, h1, _⟩ := (o.dt rfl).inv_tup
    rcases h1 with ⟨h1, _⟩ | ⟨_, o, its, n, h1, h2, _⟩
    · exact .base (.tup h1)
    · exact .kTuple h1 h2
  | _ => cases h
theorem p_isi : PN K (rIsi K) dIsi := by
  intro ps H xs ds e Q ht p h hq
  unfold dIsi at h
  split at h
  · rename_i d U
    split at h
    · rename_i t htd
      split at h
      · rename_i b hb
        cases h
        obtain ⟨x, y, rfl, px, py⟩ := p.two
        rw [py.cst]
        exact ⟨x, .ty U, .type t, .type U, b, rfl, .ty U, px.ty htd, kit_ty hb, hq _ _ (Post.dt (.bl _))⟩
      · cases h
    · cases h
  · cases h
theorem p_all : PN K (rAll K) dAll := by
  intro ps H xs ds e Q ht p h hq
  unfold dAll at h
  split at h
  · split at h
    · rename_i ds' hds
      split at h
      · rename_i hb
        cases h
        obtain ⟨x, rfl, px⟩ := p.one
        obtain ⟨a, xs, rfl, hs, hA⟩ := px.ls hds
        rw [bls_dt hA hb] at hs
        refine ⟨a, _, rfl, hs, ?_⟩
        have : (ds'.map unBl).all id = ds'.all unBl := by rw [List.all_map]; rfl
        rw [this]
        exact hq _ _ (Post.dt (.bl _))
      · cases h
    · cases h
  · cases h
theorem p_any : PN K (rAny K) dAny := by
  intro ps H xs ds e Q ht p h hq
  unfold dAny at h
  split at h
  · split at h
    · rename_i ds' hds
      split at h
      · rename_i hb
        cases h
        obtain ⟨x, rfl, px⟩ := p.one
        obtain ⟨a, xs, rfl, hs, hA⟩ := px.ls hds
        rw [bls_dt hA hb] at hs
        refine ⟨a, _, rfl, hs, ?_⟩
        have : (ds'.map unBl).any id = ds'.any unBl := by rw [List.any_map]; rfl
        rw [this]
        exact hq _ _ (Post.dt (.bl _))
      · cases h
    · cases h
  · cases h
theorem p_sum : PN K (rSum K) dSum := by
  intro ps H xs ds e Q ht p h hq
  unfold dSum at h
  split at h
  · split at h
    · rename_i ds' hds
      split at h
      · rename_i hb
        cases h
        obtain ⟨x, rfl, px⟩ := p.one
        obtain ⟨a, xs, rfl, hs, hA⟩ := px.ls hds
        rw [ints_dt hA hb] at hs
        exact ⟨a, _, rfl, hs, hq _ _ (Post.dt (.int _))⟩
      · cases h
    · cases h
  · cases h
theorem p_ipadd : P2 K (ipI fun i j => i + j) (fun x y => match x, y with | .int i, .int j => some (.int (i + j)) | _, _ => none) := by
  intro ps H x y d d' e Q ht px py h hq
  match d, d', h with
  | .int i, .int j, h => cases h; rw [px.int, py.int]; exact ⟨i, j, rfl, rfl, hq _ _ (Post.dt (.int _))⟩
theorem p_ipsub : P2 K (ipI fun i j => i - j) dSub := by
  intro ps H x y d d' e Q ht px py h hq
  match d, d', h with
  | .int i, .int j, h => cases h; rw [px.int, py.int]; exact ⟨i, j, rfl, rfl, hq _ _ (Post.dt (.int _))⟩
end
end Q


namespace Q
open PySem L2
section
variable {X : Cx} {CX : CXT} {k : Nat} {f : Addr} {fd : FuncData} {ps : List Str} {sp : Sp} {E : St → XK} {x : Str} {p pos : Pos}
theorem pe_callS0 (F : FnOk X.prog X.w X.K X.mg X.base CX k f fd ps sp) (hr : Room k X.A) (hg : Gl X x) (hm : X.mg x = some (.ref f)) (hk : PySem.W.keepIn X.K (.ref f) = true) (hb : Binds X.K fd ps []) (hx : ∀ σ, PassesAt CX X σ (E σ))
    (hdb : (x == ("__debug__" : Str)) = false := by decide) : PE X (.Call (.Name x p) [] [] pos) (tCallS sp E tNil) := by
  refine ⟨fun pins s σ H Q I h => ?_⟩
  refine wpAny_Call_Name_kw (ld_glob I hg hm ?_ hdb)
  exact PySem.W.callWith_K0 I.kIn hk (run_fnS (us := []) F hr hb (hx σ) I .nil h)
end
theorem spM_len {K : KC} {np nl : Nat} {asg : List Nat} {body : MS} (vs : List V) (H : Hp) (Q : VK) (E : XK) (h : spM K (mFun np nl asg body) vs H Q E) : vs.length = np := by
  obtain ⟨B, ds, r, _, hl, hm, _⟩ := h
  unfold mFun at hm
  split at hm
  · rename_i hc; omega
  · cases hm
/-- the law, asked -/
theorem spM_law {K : KC} {mf : MF} {H : Hp} {a : Addr} {ns : List Int} (hS : SqL K H a (ns.map V.int)) (h : ∃ ds', mf [.rol (ns.map D.int)] = some (.ok (.bl true) ds')) : spM K mf [.ref a] H (fun v _ => v = .bl true) fun _ _ _ => False := by
  obtain ⟨ds', h⟩ := h
  have hR : RolAt K (fun _ => False) H a (ns.map V.int) := by
    rcases hS with hS | hS
    · exact .inl ⟨hS, id⟩
    · exact .inr hS
  have hD : Dt K (fun _ => False) H (.ref a) (.rol (ns.map D.int)) := .rol hR (by simp) (DtA.ints ns).2
  refine ⟨⟨fun _ => False, H, fun _ => False⟩, _, _, rfl, rfl, h, ⟨fun _ _ => False, .refl, fun a h => h.elim, fun i a h => h.elim, fun i a h => h.elim, fun i j a h => h.elim, rfl, ⟨fun _ _ => rfl, rfl⟩, fun i d e => ?_, fun j v d e => by simp at e, fun p hp => (nomatch hp), trivial⟩, fun v H' _ R => (tmp_bl (ts := []) R).1⟩
  cases i with
  | zero =>
    simp at e
    subst e
    exact ⟨_, rfl, .fz (hD.move .refl fun a z => by rcases z with z | ⟨_, z⟩ <;> exact z.elim) fun _ z => z⟩
  | succ i => simp at e
theorem cx_none {P : Program} {w : World} {H : Hp} {s : Shared} {e : Value} {s' : Shared} (h : L2N.CX P w [] H s (fun _ _ _ => False) e s') : False := by
  obtain ⟨_, _, _, _, _, _, _, _, _, _, _, _, z⟩ := h
  exact z
def wFuel : Nat := 1000000
def dIpAdd (x y : D) : Option D := match x, y with | .int i, .int j => some (.int (i + j)) | _, _ => none
theorem p_ipadd2 {K : KC} : P2 K (ipI fun i j => i + j) dIpAdd := p_ipadd
theorem fn_stuck {P : Program} {w : World} {K : KC} {mg : Str → Option Value} {base : Heap} {CX : CXT} {k : Nat} {f : Addr} {fd : FuncData} {ps : List Str} : FnOk P w K mg base CX k f fd ps (spM K fun _ => none) :=
  ⟨fun vs H Q E h => (by obtain ⟨_, _, _, _, _, hm, _⟩ := h; cases hm), fun A outer s H args us vs Q E _ _ _ _ h => (by obtain ⟨_, _, _, _, _, hm, _⟩ := h; cases hm)⟩
/-- whatever classes there are -/
def spE (K : PySem.W.Frag) (mf : MF) : Sp := fun vs H Q E => (∃ x, vs = [x]) ∧ ∀ cv wt, spM ⟨K, cv, wt⟩ mf vs H Q E
theorem spE_of {P : Program} {w : World} {K : PySem.W.Frag} {cv : Nat → Value} {wt : List V → Prop} {mg : Str → Option Value} {base : Heap} {CX : CXT} {k : Nat} {f : Addr} {fd : FuncData} {ps : List Str} {mf : MF} (F : FnOk P w K mg base CX k f fd ps (spM ⟨K, cv, wt⟩ mf)) : FnOk P w K mg base CX k f fd ps (spE K mf) :=
  F.imp fun vs H Q E h => h.2 cv wt
theorem spE_law {K : PySem.W.Frag} {mf : MF} {H : Hp} {a : Addr} {ns : List Int} (hS : SqL K H a (ns.map V.int)) (h : ∃ ds', mf [.rol (ns.map D.int)] = some (.ok (.bl true) ds')) : spE K mf [.ref a] H (fun v _ => v = .bl true) fun _ _ _ => False :=
  ⟨⟨_, rfl⟩, fun cv wt => spM_law hS h⟩
/-- a text by its codes -/
def st (l : List Nat) : Str := ⟨l.toArray⟩
theorem se_cs {C : Cn} {s t : Str} (h : s = t) : SE C (tC (.str s)) (mC (.str t)) := h ▸ se_c (.str s)
end Q


namespace Q
open PySem L2
/-! ### raise -/
theorem Post.xdt {K : KC} {ps : Addr → Prop} {H : Hp} {p : Addr} {xs : List V} {ds : List D} {fs : List Str} (ht : ∀ a, ps a → H a ≠ none) (hp : H p = none) (hl : fs.length = ds.length) (h : DtA K ps H xs ds) : Post K ps H (upd H p (.xd (fs.zip xs))) (.ref p) (.xdt fs ds) := by
  have h' := h.move (qs := fun a => ps a ∨ False) (.new (o := .xd (fs.zip xs)) hp) fun a z => .inl (z.resolve_right id)
  exact ⟨.new hp, fun _ => False, fun _ h => h.elim, .fz (.xdt upd_same (fun z => ht p (z.resolve_right id) hp) hl h'.1 h'.2) fun _ h => h⟩
theorem zip_back : ∀ {fs : List Str} {vs : List V}, fs.length = vs.length → (fs.zip vs).reverse = fs.reverse.zip vs.reverse := fun h => by
  rw [List.zip_eq_zipWith, List.zip_eq_zipWith, List.reverse_zipWith h]
def tRaise (Ca : Addr) (fs : List Str) (ta : TA) (W : WX) : TS := fun _ σ H => tErr Ca fs ta σ H fun cls d H' => W cls d σ H'
def mRaise (c : Nat) (fs : List Str) (a : MA) : MS := fun e => bnd (a e) fun xs e1 => match tkfA xs e1 with
  | some (ys, e2) => if ys.length = fs.length then some (.ex ⟨c, fs.reverse, ys.reverse⟩ e2) else none
  | none => none
theorem DtA.rev {K : KC} {ps : Addr → Prop} {H : Hp} {xs : List V} {ds : List D} (h : DtA K ps H xs ds) : DtA K ps H xs.reverse ds.reverse := ⟨by simp [h.1], fun i x d e1 e2 => by
  have hl := h.1
  have hi : i < xs.length := by have := (List.getElem?_eq_some_iff.mp e1).1; simpa using this
  rw [List.getElem?_reverse hi] at e1
  rw [List.getElem?_reverse (by omega), ← hl] at e2
  exact h.2 _ x d e1 e2⟩
section
variable {C : Cn} {te ta tb tc : TE} {ma mb mc : ME} {tt tu : TT} {mt mu : MT} {tr : TA} {mr : MA} {t u : TS} {ms mv : MS}
theorem ss_raise {c : Nat} {Ca : Addr} {fs : List Str} (hc : C.K.cv c = .ref Ca) (ha : SA C tr mr) : SS C (tRaise Ca fs tr C.W) (mRaise c fs mr) := by
  intro B σ0 σ H env ts R ht z hm E hE
  rcases bnd_inv hm with ⟨x, e, h1, rfl⟩ | ⟨x, e1, h1, h2⟩
  · exact ha B σ0 σ H env ts R _ h1 _ (hE σ)
  · refine ha B σ0 σ H env ts R _ h1 _ fun vs H1 hl ⟨S, g⟩ => ?_
    split at h2
    · rename_i ys e2 h3
      split at h2
      · rename_i hfs
        cases h2
        obtain ⟨S1, g1, hl1, hf⟩ := g.takenA hl h3
        have hA := g1.dtA hl1 hf
        refine ⟨by rw [hl1]; exact hfs, fun d hd => ?_⟩
        have pp := Post.xdt (K := C.K) (ps := pset B S1) (H := H1) (p := d) (xs := vs.reverse) (fs := fs.reverse) (ds := ys.reverse) (fun a z => g1.ptrk z) hd (by simp [hfs]) hA.rev
        rw [zip_back (by rw [hl1]; exact hfs.symm)]
        obtain ⟨S2, g2⟩ := g1.prim pp
        refine hE σ _ _ _ ⟨S2, g2.pop, hc.symm, .inr ⟨d, rfl, ?_⟩⟩
        rcases g2.tmp ts.length (.ref d) (.xdt fs.reverse ys.reverse) (by simp) with ⟨k, e, _⟩ | h
        · cases e
        · exact h.dt rfl
      · cases h2
    · cases h2
/-- a statement that is never reached -/
def mStuck : MS := fun _ => none
def tStuck : TS := fun _ _ _ => False
theorem ss_stuck : SS C tStuck mStuck := by
  intro B σ0 σ H env ts R ht z hm E hE
  cases hm
/-! ### try -/
def mTry (sub : Nat → Option Bool) (i : Nat) (b : MS) (su : Xc → MS) : MS := fun e => match b e with
  | some (.ex x e1) => (match sub x.cls with
    | some true => if x.fs.isEmpty = true ∨ e1.length ≤ i then none else (match su x (e1.set i none) with
      | some (.ok f e2) => some (.ok f (e2.set i none))
      | _ => none)
    | some false => some (.ex x e1)
    | none => none)
  | r => r
def Cn.wish (C : Cn) (W : WX) : Cn := ⟨C.K, W, C.A, C.held, C.fx⟩
theorem Good.wish {B : Bs} {σ0 σ : St} {H : Hp} {env : Env} {ts : List (V × D)} {S : Ix → Addr → Prop} {W : WX} (g : Good C B σ0 H σ env ts S) : Good (C.wish W) B σ0 H σ env ts S := ⟨g.kp, g.fr, g.sub, g.trk, g.dis, g.len, g.keep, g.slot, g.tmp, g.hld, g.fx⟩
theorem Good.unwish {B : Bs} {σ0 σ : St} {H : Hp} {env : Env} {ts : List (V × D)} {S : Ix → Addr → Prop} {W : WX} (g : Good (C.wish W) B σ0 H σ env ts S) : Good C B σ0 H σ env ts S := ⟨g.kp, g.fr, g.sub, g.trk, g.dis, g.len, g.keep, g.slot, g.tmp, g.hld, g.fx⟩
/-- the suite of an except clause: slot i has the error at a, its dict is at dd -/
def suC (C : Cn) (i : Nat) (a dd : Addr) (x : Xc) : Cn := ⟨C.K, fun _ _ _ _ => False, fun j => C.A j && decide (j ≠ i), (.ref dd, .xdt x.fs x.ds) :: C.held, fun σ0 => σ0[i]? = some (some (.ref a))⟩
theorem Good.suite {B : Bs} {σ0 σ : St} {H : Hp} {env : Env} {ts : List (V × D)} {S : Ix → Addr → Prop} {i : Nat} {a dd : Addr} {x : Xc} (g : Good C B σ0 H σ env ts S) (ht : NoAl ts) (hi : i < env.length) (hx : Dt C.K (pset B S) H (.ref dd) (.xdt x.fs x.ds)) :
    Good (suC C i a dd x) B (σ.set i (some (.ref a))) H (σ.set i (some (.ref a))) (env.set i none) ts S := by
  refine ⟨g.kp, g.fr, g.sub, g.trk, g.dis, by simp [g.len], ⟨fun _ _ => rfl, rfl⟩, fun j d e => ?_, fun j v d e => ?_, fun p hp => ?_, ?_⟩
  · have hj : j ≠ i := fun z => by
      subst z
      rw [List.getElem?_set_self hi] at e
      cases e
    rw [List.getElem?_set_ne (Ne.symm hj)] at e
    obtain ⟨v, h1, h2⟩ := g.slot j d e
    exact ⟨v, by rw [List.getElem?_set_ne (Ne.symm hj)]; exact h1, h2⟩
  · have hn := ht _ (List.mem_of_getElem? e)
    rcases g.tmp j v d e with ⟨k, rfl, _⟩ | h
    · cases hn
    · exact .inr h
  · rcases List.mem_cons.mp hp with rfl | hp
    · exact hx
    · exact g.hld p hp
  · show (σ.set i (some (.ref a)))[i]? = some (some (.ref a))
    rw [List.getElem?_set_self (by rw [g.len]; exact hi)]
theorem Good.unsuite {B : Bs} {σ0 σ1 σ : St} {H H1 : Hp} {env env1 : Env} {ts ts1 : List (V × D)} {S S1 : Ix → Addr → Prop} {i : Nat} {a dd : Addr} {x : Xc} (g : Good C B σ0 H σ env ts S) (hA : C.A i = true) (ht : NoAl ts1)
    (g1 : Good (suC C i a dd x) B (σ.set i (some (.ref a))) H1 σ1 env1 ts1 S1) : Good C B σ0 H1 (σ1.set i none) (env1.set i none) ts1 S1 := by
  refine ⟨g1.kp, g1.fr, g1.sub, g1.trk, g1.dis, by simp [g1.len], ⟨fun j hj => ?_, ?_⟩, fun j d e => ?_, fun j v d e => ?_, fun p hp => g1.hld p (List.mem_cons_of_mem _ hp), g.fx⟩
  · have hji : j ≠ i := fun z => by subst z; rw [hA] at hj; cases hj
    rw [List.getElem?_set_ne (Ne.symm hji), g1.keep.1 j (by simp [suC, hj]), List.getElem?_set_ne (Ne.symm hji)]
    exact g.keep.1 j hj
  · have := g1.keep.2
    rw [List.length_set] at this ⊢
    rw [this]; exact g.keep.2
  · have hj : j ≠ i := fun z => by
      subst z
      have hl : j < env1.length := by
        have := (List.getElem?_eq_some_iff.mp e).1
        simpa using this
      rw [List.getElem?_set_self hl] at e
      cases e
    rw [List.getElem?_set_ne (Ne.symm hj)] at e
    obtain ⟨v, h1, h2⟩ := g1.slot j d e
    exact ⟨v, by rw [List.getElem?_set_ne (Ne.symm hj)]; exact h1, h2⟩
  · have hn := ht _ (List.mem_of_getElem? e)
    rcases g1.tmp j v d e with ⟨k, rfl, _⟩ | h
    · cases hn
    · exact .inr h
def tTry (K : PySem.W.Frag) (c : Value) (i : Nat) (ts : Addr → Value → Option Addr → TS) (tb : WX → TS) (W : WX) : TS := fun D σ H => tb (wAs K c i ts W D) D σ H
theorem ss_try {i : Nat} {c : Value} {tb : WX → TS} {ts : Addr → Value → Option Addr → TS} {sub : Nat → Option Bool} {su : Xc → MS} {mb : MS} (hA : C.A i = true) (hsub : ∀ n b, sub n = some b → PySem.W.exmOne C.K (C.K.cv n) c = some b)
    (hb : ∀ W, SS (C.wish W) (tb W) mb) (hs : ∀ a dd x, SS (suC C i a dd x) (ts a (C.K.cv x.cls) (some dd)) (su x)) : SS C (tTry C.K c i ts tb C.W) (mTry sub i mb su) := by
  rintro B σ0 σ H env ts0 ⟨S0, g0⟩ ht z hm E hE
  show tb (wAs C.K c i ts C.W E) E σ H
  have R1 : Rep (C.wish (wAs C.K c i ts C.W E)) B σ0 H σ env ts0 := ⟨S0, g0.wish⟩
  unfold mTry at hm
  split at hm
  · rename_i x e1 hbx
    refine hb _ B σ0 σ H env ts0 R1 ht _ hbx E ?_
    rintro σ' c' o H' ⟨S, g, hc', ho⟩
    have g := g.unwish
    subst hc'
    split at hm
    · rename_i hsu
      split at hm
      · cases hm
      · rename_i hc
        have hc1 : ¬ x.fs.isEmpty = true := fun h => hc (.inl h)
        have hc2 : i < e1.length := Nat.lt_of_not_le fun h => hc (.inr h)
        split at hm
        · rename_i f e2 hz
          cases hm
          have hdd : ∃ dd, o = some dd ∧ Dt C.K (pset B S) H' (.ref dd) (.xdt x.fs x.ds) := by
            rcases ho with ⟨_, h⟩ | h
            · rw [h] at hc1; exact absurd rfl hc1
            · exact h
          obtain ⟨dd, rfl, hdt⟩ := hdd
          refine ⟨true, hsub _ _ hsu, fun _ a ha => ?_, (fun z => by cases z)⟩
          refine hs a dd x B _ _ H' _ ts0 ⟨S, g.suite (a := a) ht hc2 hdt⟩ ht _ hz _ ?_
          cases f with
          | nx => exact fun σ2 H2 ⟨S2, g2⟩ => hE _ _ ⟨S2, g.unsuite hA ht g2⟩
          | bk => exact fun σ2 H2 ⟨S2, g2⟩ => hE _ _ ⟨S2, g.unsuite hA ht g2⟩
          | ct => exact fun σ2 H2 ⟨S2, g2⟩ => hE _ _ ⟨S2, g.unsuite hA ht g2⟩
          | rt d => exact fun v σ2 H2 hd ⟨S2, g2⟩ => hE v _ H2 hd ⟨S2, g.unsuite hA (ht.snoc hd) g2⟩
        · cases hm
    · rename_i hsu
      cases hm
      exact ⟨false, hsub _ _ hsu, (fun z => by cases z), fun _ => hE σ' _ o H' ⟨S, g, rfl, ho⟩⟩
    · cases hm
  · rename_i r hne
    cases z with
    | ex x e => exact absurd hm (by intro h; exact hne x e h)
    | ok f e =>
      refine hb _ B σ0 σ H env ts0 R1 ht _ hm E ?_
      cases f with
      | nx => exact fun σ2 H2 ⟨S2, g2⟩ => hE _ _ ⟨S2, g2.unwish⟩
      | bk => exact fun σ2 H2 ⟨S2, g2⟩ => hE _ _ ⟨S2, g2.unwish⟩
      | ct => exact fun σ2 H2 ⟨S2, g2⟩ => hE _ _ ⟨S2, g2.unwish⟩
      | rt d => exact fun v σ2 H2 hd ⟨S2, g2⟩ => hE v _ H2 hd ⟨S2, g2.unwish⟩

/-! ### what a suite asks of its error -/
/-- e.f -/
def tXfE (K : PySem.W.Frag) (a : Addr) (cls : Value) (d : Option Addr) (f : Str) (te : TE) : TE := fun σ H Q => ∃ Ca, XfC K Ca ∧ PySem.W.findIn K (.ref Ca) f = some none ∧ tXf a cls d Ca f te σ H Q
theorem pe_xfE {X : Cx} {a : Addr} {oe : Obj} {cls : Value} {d : Option Addr} {pn : List (Addr × Obj)} {e : Expr} {te : TE} {pos : Pos} {n : Str} (hz : L2N.Zn cls d oe) (hf : ∃ vs, oe.data = .fields vs) (he : PE (X.suite a ((a, oe) :: pn)) e te)
    (hb : attributeBase e n X.env (eval e X.env) = eval e X.env := by rfl) : PE (X.suite a ((a, oe) :: pn)) (.Attribute e n pos) (tXfE X.K a cls d n te) :=
  ⟨fun pins s σ H Q I ⟨_, T, hno, h⟩ => (pe_xf T hno hz.zc hf he hb).run pins s σ H Q I h⟩
def mXf (cs : List Nat) (f : Str) (x : Xc) : ME := fun e => if cs.contains x.cls = true then (match findD x.fs x.ds f with | some d => some (.ok d e) | none => none) else none
theorem lookup_zip {K : KC} {ps : Addr → Prop} {H : Hp} : ∀ {ks : List Str} {xs : List V} {ds : List D} {k : Str} {d : D}, DtA K ps H xs ds → ks.length = ds.length → findD ks ds k = some d → ∃ v, (ks.zip xs).lookup k = some v ∧ Dt K ps H v d
  | [], xs, ds, k, d, hA, hl, h => by cases h
  | q :: ks, [], [], k, d, hA, hl, h => by simp at hl
  | q :: ks, [], y :: ds, k, d, hA, hl, h => by have := hA.1; simp at this
  | q :: ks, x :: xs, [], k, d, hA, hl, h => by simp at hl
  | q :: ks, x :: xs, y :: ds, k, d, hA, hl, h => by
    rw [List.zip_cons_cons, lookup_put]
    simp only [findD] at h
    by_cases e : q = k
    · rw [if_pos e] at h; cases h
      exact ⟨x, by rw [if_pos e.symm], hA.2 0 x _ rfl rfl⟩
    · rw [if_neg e] at h
      rw [if_neg (Ne.symm e)]
      exact lookup_zip ⟨by simpa using hA.1, fun i y f e1 e2 => hA.2 (i + 1) y f (by simpa using e1) (by simpa using e2)⟩ (by simpa using hl) h
theorem Good.fix {B : Bs} {σ0 σ : St} {H : Hp} {env : Env} {ts : List (V × D)} {S : Ix → Addr → Prop} {i : Nat} {a dd : Addr} {x : Xc} (g : Good (suC C i a dd x) B σ0 H σ env ts S) : σ[i]? = some (some (.ref a)) := by
  rw [g.keep.1 i (by simp [suC])]
  exact g.fx
theorem se_xf {i : Nat} {a dd : Addr} {x : Xc} {f : Str} {cs : List Nat} (hcs : ∀ n, cs.contains n = true → ∃ Ca, C.K.cv n = .ref Ca ∧ XfC C.K Ca ∧ PySem.W.findIn C.K (.ref Ca) f = some none) :
    SE (suC C i a dd x) (tXfE C.K a (C.K.cv x.cls) (some dd) f (tVar i)) (mXf cs f x) := by
  rintro B σ0 σ H env ts ⟨S, g⟩ r hm Q hq
  unfold mXf at hm
  split at hm
  · rename_i hc
    split at hm
    · rename_i d hd
      cases hm
      obtain ⟨Ca, h1, h2, h3⟩ := hcs _ hc
      have hx : Dt C.K (pset B S) H (.ref dd) (.xdt x.fs x.ds) := g.hld (.ref dd, .xdt x.fs x.ds) List.mem_cons_self
      obtain ⟨b, xs, eb, e1, e2, hA⟩ := hx.inv_xdt
      cases eb
      obtain ⟨v, hv, hdt⟩ := lookup_zip hA e2 hd
      exact ⟨Ca, h2, h3, .ref a, g.fix, rfl, h1, dd, _, v, rfl, e1, hv, hq v H (Good.prim (ts1 := []) (by rw [List.append_nil]; exact g) (Post.dt hdt))⟩
    · cases hm
  · cases hm
/-- isinstance(e, c) -/
def rIsX (K : PySem.W.Frag) (a : Addr) (cls : Value) (d : Option Addr) : List V → Hp → VK → Prop := fun xs H Q => ∃ (Ca dd : Addr) (fs : List (Str × V)) (c : V) (cv : Value) (b : Bool), ExcC K Ca ∧ cls = .ref Ca ∧ d = some dd ∧ H dd = some (.xd fs) ∧ xs = [.ref a, c] ∧ (∀ u, RelV c u → u = cv) ∧ PySem.W.kitOne K (.ref Ca) cv = some b ∧ Q (.bl b) H
theorem call_isX {X : Cx} {a : Addr} {cls : Value} {d : Option Addr} {oe : Obj} {pn : List (Addr × Obj)} (hz : L2N.Zn cls d oe) (hf : ∃ vs, oe.data = .fields vs) : CallR (X.suite a ((a, oe) :: pn)) (.builtin "isinstance") (rIsX X.K a cls d) := by
  intro pins s σ H xs us Q I r h
  obtain ⟨Ca, dd, fs, c, cv, b, T, rfl, rfl, hdd, rfl, hcv, e, q⟩ := h
  cases r with
  | cons rx rr =>
    cases rr with
    | cons rt rr =>
      cases rr
      cases rx
      have ec := hcv _ rt
      subst ec
      obtain ⟨hget, _⟩ := I.pin (a, oe) (List.mem_append.mpr (.inl List.mem_cons_self))
      obtain ⟨vs, hv⟩ := hf
      have hx : ObjOk X.prog X.w H s.heap dd (.xd fs) := I.hok dd _ hdd
      obtain ⟨mA, hns, hr⟩ := hx
      obtain ⟨od, ho, hl⟩ := lookIn_ns hns
      have J : PySem.W.InstAt s.heap a oe Ca (some od) := ⟨hget, hz.1, by unfold PySem.W.notCls; rw [hv] <;> rfl, by rw [hz.2.1]; exact ho⟩
      have hcl : (PySem.W.clsIn X.K Ca).isSome = true := by
        obtain ⟨cd, hc, _⟩ := PySem.W.any_some T.hd
        rw [hc]; rfl
      exact PySem.W.kia_one (PySem.W.kitx_exc hcl T.hg T.hk T.hs T.ha T.hn T.ht T.hm) I.kIn J e (fun z => nomatch z) fun tk => ⟨.bl b, H, I.kept (t' := tk) fun _ _ z => z, rfl, q⟩
def mIsX (tab : Nat → Option Bool) (x : Xc) : ME := fun e => match tab x.cls with | some b => some (.ok (.bl b) e) | none => none
theorem se_isX {i : Nat} {a dd : Addr} {x : Xc} {c : V} {cv : Value} {tab : Nat → Option Bool} (hcv : ∀ u, RelV c u → u = cv) (htab : ∀ n b, tab n = some b → ∃ Ca, C.K.cv n = .ref Ca ∧ ExcC C.K Ca ∧ PySem.W.kitOne C.K (.ref Ca) cv = some b) :
    SE (suC C i a dd x) (tCB (rIsX C.K a (C.K.cv x.cls) (some dd)) (tCons (tVar i) (tCons (tC c) tNil))) (mIsX tab x) := by
  rintro B σ0 σ H env ts ⟨S, g⟩ r hm Q hq
  unfold mIsX at hm
  split at hm
  · rename_i b hb
    cases hm
    obtain ⟨Ca, h1, h2, h3⟩ := htab _ _ hb
    have hx : Dt C.K (pset B S) H (.ref dd) (.xdt x.fs x.ds) := g.hld (.ref dd, .xdt x.fs x.ds) List.mem_cons_self
    obtain ⟨b', xs, eb, e1, e2, hA⟩ := hx.inv_xdt
    cases eb
    exact ⟨.ref a, g.fix, Ca, dd, _, c, cv, b, h2, h1, rfl, e1, rfl, hcv, h3, hq _ H (Good.prim (ts1 := []) (by rw [List.append_nil]; exact g) (Post.dt (.bl b)))⟩
  · cases hm
theorem relV_ref {a : Addr} : ∀ u, RelV (.ref a) u → u = Value.ref a := fun u h => h
theorem relV_ty {t : String} : ∀ u, RelV (.ty t) u → u = Value.type t := fun u h => h
end
end Q


namespace Q
open PySem L2
/-! ### written dicts -/
def EsOk (K : KC) : List DictEntry → List Str → List D → Prop
  | [], [], [] => True
  | e :: es, k :: ks, d :: ds => (∃ t, e.key = .str k t) ∧ (∃ v, RelV v e.val ∧ ∀ ps H, Dt K ps H v d) ∧ EsOk K es ks ds
  | _, _, _ => False
structure DicK (K : KC) (w : World) (a : Addr) (ks : List Str) (ds : List D) : Prop where
  ex : ∃ es n, KDict K.F w a es n ∧ EsOk K es.toList ks ds
theorem es_find {K : KC} {z : Str} : ∀ {es : List DictEntry} {ks : List Str} {ds : List D}, EsOk K es ks ds →
    es.any (·.refKey) = false ∧ ((findD ks ds z = none ∧ z ∉ ks ∧ es.find? (·.key.isStr z) = none) ∨ ∃ d e v, findD ks ds z = some d ∧ z ∈ ks ∧ es.find? (·.key.isStr z) = some e ∧ RelV v e.val ∧ ∀ ps H, Dt K ps H v d)
  | [], [], [], h => ⟨rfl, .inl ⟨rfl, by simp, rfl⟩⟩
  | [], [], _ :: _, h => h.elim
  | [], _ :: _, ds, h => h.elim
  | _ :: _, [], ds, h => h.elim
  | _ :: _, _ :: _, [], h => h.elim
  | e :: es, k :: ks, d :: ds, ⟨⟨t, hk⟩, ⟨v, hr, hd⟩, h⟩ => by
    obtain ⟨h1, h2⟩ := es_find (z := z) h
    have hek : e.refKey = false := by unfold DictEntry.refKey; rw [hk]
    refine ⟨by simp [hek, h1], ?_⟩
    have hs : e.key.isStr z = (k == z) := by rw [hk]; rfl
    by_cases c : k = z
    · refine .inr ⟨d, e, v, by simp only [findD, if_pos c], by simp [c], ?_, hr, hd⟩
      rw [List.find?_cons, hs, beq_iff_eq.mpr c]
    · have hb : (k == z) = false := by simpa using c
      simp only [findD, if_neg c, List.find?_cons, hs, hb]
      rcases h2 with ⟨a, b, c'⟩ | ⟨d', e', v', a, b, c', r⟩
      · exact .inl ⟨a, by simp [b, Ne.symm c], c'⟩
      · exact .inr ⟨d', e', v', a, by simp [b], c', r⟩
theorem DicK.ns {K : KC} {w : World} {a : Addr} {ks : List Str} {ds : List D} (h : DicK K w a ks ds) (z : Str) : (findD ks ds z = none ∧ z ∉ ks ∧ PySem.W.nsIn K.F a z = some none) ∨ ∃ d u v, findD ks ds z = some d ∧ z ∈ ks ∧ PySem.W.nsIn K.F a z = some (some u) ∧ RelV v u ∧ ∀ ps H, Dt K ps H v d := by
  obtain ⟨es, n, hd, he⟩ := h.ex
  obtain ⟨h1, h2⟩ := es_find (z := z) he
  unfold PySem.W.nsIn
  rw [hd.at_]
  rcases h2 with ⟨a, b, c⟩ | ⟨d', e', v', a, b, c, r1, r2⟩
  · refine .inl ⟨a, b, ?_⟩
    simp only [c, h1]; rfl
  · refine .inr ⟨d', e'.val, v', a, b, ?_, r1, r2⟩
    simp only [c]
def rKIn (K : PySem.W.Frag) (a : Addr) : R2 := fun x y H Q => ∃ (z : Str) (r : Option Value), x = .str z ∧ y = .ref a ∧ PySem.W.nsIn K a z = some r ∧ Q (.bl r.isSome) H
def rKNot (K : PySem.W.Frag) (a : Addr) : R2 := fun x y H Q => ∃ (z : Str) (r : Option Value), x = .str z ∧ y = .ref a ∧ PySem.W.nsIn K a z = some r ∧ Q (.bl (!r.isSome)) H
def rKIx (K : PySem.W.Frag) (a : Addr) : R2 := fun x y H Q => ∃ (z : Str) (u0 : Value) (v0 : V), x = .ref a ∧ y = .str z ∧ PySem.W.nsIn K a z = some (some u0) ∧ RelV v0 u0 ∧ Q v0 H
section
variable {X : Cx} {cv : Nat → Value} {wt : List V → Prop} {a : Addr} {ks : List Str} {ds : List D}
theorem op_inK (h : DicK ⟨X.K, cv, wt⟩ X.w a ks ds) : OpR X (compareOp .In) (rKIn X.K a) := by
  obtain ⟨es, n, hd, _⟩ := h.ex
  exact op_in_kd hd
theorem op_notInK (h : DicK ⟨X.K, cv, wt⟩ X.w a ks ds) : OpR X (compareOp .NotIn) (rKNot X.K a) := by
  obtain ⟨es, n, hd, _⟩ := h.ex
  exact op_notIn_kd hd
theorem ix_K (h : DicK ⟨X.K, cv, wt⟩ X.w a ks ds) : IxR X (rKIx X.K a) := by
  obtain ⟨es, n, hd, _⟩ := h.ex
  intro value slice pins s σ H x y v u Q I rx ry h hs
  have ex : x = .ref a := by obtain ⟨z, u0, v0, e, _⟩ := h; exact e
  subst ex
  obtain rfl : v = Value.ref a := rx
  exact PyProof.Rows.tail_any (kd_type hd I) PySem.F.slot_dict_getitem.lookup (op_item_kd hd pins s σ H (.ref a) y _ u Q I rfl ry h) hs
end
def dKIn (ks : List Str) : D → Option D | .str z => some (.bl (hasK ks z)) | _ => none
def dKNot (ks : List Str) : D → Option D | .str z => some (.bl (!hasK ks z)) | _ => none
def dKIx (ks : List Str) (ds : List D) : D → Option D | .str z => findD ks ds z | _ => none
section
variable {C : Cn} {te ta tb tc : TE} {ma mb mc : ME} {tt tu : TT} {mt mu : MT} {tr : TA} {mr : MA} {t u : TS} {ms mv : MS} {w : World} {a : Addr} {ks : List Str} {ds : List D}
theorem p_kin (h : DicK C.K w a ks ds) : P1 C.K (fun x H Q => rKIn C.K a x (.ref a) H Q) (dKIn ks) := by
  intro ps H x d e Q ht px hf hq
  unfold dKIn at hf
  split at hf
  · rename_i z
    cases hf
    rcases h.ns z with ⟨_, h1, h2⟩ | ⟨d, u, v, _, h1, h2, _⟩
    · rw [hasK_no h1] at hq
      exact ⟨z, none, px.str, rfl, h2, hq _ _ (Post.dt (.bl _))⟩
    · rw [hasK_of h1] at hq
      exact ⟨z, some u, px.str, rfl, h2, hq _ _ (Post.dt (.bl _))⟩
  · cases hf
theorem p_knot (h : DicK C.K w a ks ds) : P1 C.K (fun x H Q => rKNot C.K a x (.ref a) H Q) (dKNot ks) := by
  intro ps H x d e Q ht px hf hq
  unfold dKNot at hf
  split at hf
  · rename_i z
    cases hf
    rcases h.ns z with ⟨_, h1, h2⟩ | ⟨d, u, v, _, h1, h2, _⟩
    · rw [hasK_no h1] at hq
      exact ⟨z, none, px.str, rfl, h2, hq _ _ (Post.dt (.bl _))⟩
    · rw [hasK_of h1] at hq
      exact ⟨z, some u, px.str, rfl, h2, hq _ _ (Post.dt (.bl _))⟩
  · cases hf
theorem p_kix (h : DicK C.K w a ks ds) : P1 C.K (fun x H Q => rKIx C.K a (.ref a) x H Q) (dKIx ks ds) := by
  intro ps H x d e Q ht px hf hq
  unfold dKIx at hf
  split at hf
  · rename_i z
    rcases h.ns z with ⟨h0, h1, h2⟩ | ⟨d, u, v, h0, h1, h2, h3, h4⟩
    · rw [h0] at hf; cases hf
    · rw [h0] at hf; cases hf
      exact ⟨z, u, v, rfl, px.str, h2, h3, hq _ _ (Post.dt (h4 _ _))⟩
  · cases hf
theorem se_kin (h : DicK C.K w a ks ds) (ha : SE C ta ma) : SE C (tOp (rKIn C.K a) ta (tC (.ref a))) (mUn (dKIn ks) ma) := se_un (p_kin h) ha
theorem se_knot (h : DicK C.K w a ks ds) (ha : SE C ta ma) : SE C (tOp (rKNot C.K a) ta (tC (.ref a))) (mUn (dKNot ks) ma) := se_un (p_knot h) ha
theorem se_kix (h : DicK C.K w a ks ds) (ha : SE C ta ma) : SE C (tOp (rKIx C.K a) (tC (.ref a)) ta) (mUn (dKIx ks ds) ma) := se_un (p_kix h) ha
/-! ### text methods without arguments -/
theorem se_m0 {r : V → List V → Hp → VK → Prop} {f : D → Option D} (p : P1 C.K (fun x H Q => (∃ a, x = .str a) ∧ r x [] H Q) f) (ha : SE C ta ma) : SE C (tM0 r ta) (mUn f ma) := se_un p ha
def rUpS : V → List V → Hp → VK → Prop := fun x xs H Q => ∃ a, x = .str a ∧ xs = [] ∧ a.length ≤ 5592405 ∧ Q (.str (Txt.upper a)) H
def dUpper : D → Option D | .str z => if z.length ≤ 5592405 then some (.str (Txt.upper z)) else none | _ => none
theorem p_upper {K : KC} : P1 K (fun x H Q => (∃ a, x = .str a) ∧ rUpS x [] H Q) dUpper := by
  intro ps H x d e Q ht px hf hq
  unfold dUpper at hf
  split at hf
  · rename_i z
    split at hf
    · rename_i hz
      cases hf
      exact ⟨⟨z, px.str⟩, z, px.str, rfl, hz, hq _ _ (Post.dt (.str _))⟩
    · cases hf
  · cases hf
/-! ### dict displays -/
def nodupK {κ : Type} [DecidableEq κ] : List κ → Bool
  | [] => true
  | k :: ks => !hasK ks k && nodupK ks
def mDisp (ks : List Key) (a : MA) : ME := fun e => bnd (a e) fun xs e1 => match tkfA xs e1 with
  | some (ys, e2) => if ks.length = ys.length ∧ ks.length ≤ 15 ∧ nodupK ks = true then some (.ok (.mdc ks ys) e2) else none
  | none => none
def POk (C : Cn) (B : Bs) (σ0 σ : St) (ts : List (V × D)) (ks : List Key) (R : List (V × V) → Hp → Prop) : Rs (List D) → Prop
  | .ok ds e => ∀ vs H', vs.length = ds.length → Rep C B σ0 H' σ e (ts ++ vs.zip ds) → R ((ks.zip vs).map fun p => (kV p.1, p.2)) H'
  | .ex x e => XW C B σ0 σ ts x e
def SPs (C : Cn) (trs : List (TE × TE)) (ks : List Key) (m : MA) : Prop := ∀ B σ0 σ H env ts, Rep C B σ0 H σ env ts → ∀ r, m env = some r → ∀ R, POk C B σ0 σ ts ks R r → tPairs trs σ H R
theorem sp_nil : SPs C [] [] mNil := by
  intro B σ0 σ H env ts R z hm Q hq
  cases hm
  exact hq [] H rfl (by simpa using R)
theorem sp_cons {trs : List (TE × TE)} {qs : List Key} {k : Key} {x : V} (hx : x = kV k) (ha : SE C ta ma) (hb : SPs C trs qs mr) : SPs C ((tC x, ta) :: trs) (k :: qs) (mCons ma mr) := by
  subst hx
  intro B σ0 σ H env ts R z hm Q hq
  show ta σ H fun y H2 => tPairs trs σ H2 fun ps H3 => Q ((kV k, y) :: ps) H3
  rcases bnd_inv hm with ⟨x, e, h1, rfl⟩ | ⟨x, e1, h1, h2⟩
  · exact ha B σ0 σ H env ts R _ h1 _ hq
  · refine ha B σ0 σ H env ts R _ h1 _ fun v H1 R1 => ?_
    rcases bnd_inv h2 with ⟨x2, e, h3, rfl⟩ | ⟨ys, e2, h3, h4⟩
    · exact hb B σ0 σ H1 e1 _ R1 _ h3 _ (XW.push hq)
    · refine hb B σ0 σ H1 e1 _ R1 _ h3 _ fun vs H2 hl R2 => ?_
      cases h4
      exact hq (v :: vs) H2 (by simp [hl]) (by simpa using R2)
theorem merge_nodup : ∀ {qs : List Key} {vs : List V} {acc : List (Key × V)}, nodupK qs = true → (∀ k ∈ qs, k ∉ acc.map (·.1)) → mergeK acc (qs.zip vs) = acc ++ qs.zip vs
  | [], vs, acc, _, _ => by simp [mergeK]
  | k :: qs, [], acc, _, _ => by simp [mergeK]
  | k :: qs, v :: vs, acc, hn, ha => by
    simp only [nodupK, Bool.and_eq_true, Bool.not_eq_true'] at hn
    have hk : ∀ q ∈ qs, q ≠ k := fun q hq e => by
      have := hasK_of (e ▸ hq); rw [hn.1] at this; cases this
    have e1 : putK acc k v = acc ++ [(k, v)] := by
      unfold putK
      rw [if_neg]
      intro h
      obtain ⟨p, h1, h2⟩ := List.any_eq_true.mp h
      exact ha k (by simp) (List.mem_map.mpr ⟨p, h1, of_decide_eq_true h2⟩)
    show mergeK (putK acc k v) (qs.zip vs) = acc ++ (k, v) :: qs.zip vs
    rw [e1, merge_nodup hn.2 fun q hq => ?_]
    · simp
    · simp only [List.map_append, List.map_cons, List.map_nil, List.mem_append, List.mem_singleton, not_or]
      exact ⟨ha q (by simp [hq]), hk q hq⟩
theorem Post.mdc0 {K : KC} {ps : Addr → Prop} {H : Hp} {p : Addr} (hp : H p = none) : Post K ps H (upd H p (.dK [])) (.ref p) (.mdc [] []) :=
  ⟨.new hp, fun a => a = p, fun a e => by subst e; exact ⟨hp, by rw [upd_same]; simp⟩, .mdc (xs := []) upd_same rfl .nil fun _ => Iff.rfl⟩
theorem se_disp {trs : List (TE × TE)} {qs : List Key} (ha : SPs C trs qs mr) : SE C (tDisp trs) (mDisp qs mr) := by
  rintro B σ0 σ H env ts ⟨S, g⟩ z hm Q hq p hp
  have R1 : Rep C B σ0 (upd H p (.dK [])) σ env (ts ++ [(.ref p, .mdc [] [])]) := Good.prim (ts1 := []) (by rw [List.append_nil]; exact g) (Post.mdc0 hp)
  rcases bnd_inv hm with ⟨x, e, h1, rfl⟩ | ⟨x, e1, h1, h2⟩
  · exact ha B σ0 σ _ env _ R1 _ h1 _ (XW.push hq)
  · refine ha B σ0 σ _ env _ R1 _ h1 _ fun vs H2 hl ⟨S2, g2⟩ => ?_
    split at h2
    · rename_i ys e2 h3
      split at h2
      · rename_i hc
        obtain ⟨hc1, hc2, hc3⟩ := hc
        cases h2
        obtain ⟨S3, g3, hl3, hf⟩ := g2.takenA hl h3
        have hA := g3.dtA hl3 hf
        have ho : Ow C.K (pset B S3) H2 (.ref p) (.mdc [] []) (S3 (.inr ts.length)) := by
          rcases g3.tmp ts.length (.ref p) (.mdc [] []) (by simp) with ⟨k, e, _⟩ | h
          · cases e
          · exact h
        cases ho with
        | fz h _ => cases h
        | @mdc a' ks' xs' ds' S' hp' hk' hA' hS' =>
          refine ⟨hp', qs.zip vs, rfl, by rw [List.length_zip]; omega, ?_⟩
          rw [merge_nodup hc3 (by simp), List.nil_append]
          have hcell : S3 (.inr ts.length) p := (hS' p).mpr rfl
          have g4 := g3.push (H1 := upd H2 p (.dK (qs.zip vs))) (v := .ref p) (d := .mdc qs ys) ts.length (by simp) (S3 (.inr ts.length)) (.mut hcell) (fun a z => ⟨.inl z, by rw [(hS' a).mp z, upd_same]; simp⟩)
            (.mdc upd_same hc1 (hA.move (.mut (.inr ⟨_, hcell⟩)) fun a z => ?_) hS')
          · have et : List.take ts.length (ts ++ [(V.ref p, D.mdc [] [])] ++ vs.zip ys) = ts := by
              rw [List.append_assoc, List.take_left]
            exact hq _ _ ⟨_, et ▸ g4⟩
          · rcases z with z | ⟨i, ⟨rfl, z⟩ | ⟨_, z⟩⟩
            · exact .inl (.inl z)
            · exact .inl (.inr ⟨_, z⟩)
            · exact .inl (.inr ⟨_, z⟩)
      · cases h2
    · cases h2
end
end Q


namespace Q
open PySem L2
/-! ### where an error is handled -/
theorem hotC_suite {X : Cx} {a : Addr} {oe : Obj} {cls : Value} {d : Option Addr} {pn : List (Addr × Obj)} (hz : L2N.Zn cls d oe) (hf : ∃ vs, oe.data = .fields vs) : L2H.HotC (X.suite a ((a, oe) :: pn)) := by
  obtain ⟨vs, h⟩ := hf
  exact ⟨(a, oe), ⟨rfl, vs, h, hz.2.2 vs h⟩, List.mem_cons_self⟩
theorem hotC_def {CX : CXT} {P : Program} {w : World} {K : PySem.W.Frag} {mg : Str → Option Value} {base : Heap} {N : List Str} {qual : Str} {scope : Scope} {f : Addr} {cd : Value} {A : Around} {outer : List PySem.Env} {s : Shared} {H : Hp} {E : XK} {p : Addr × Obj} (hot : L2H.Hot1 A p) :
    L2H.HotC (L2H.cxH CX P w K mg base N qual scope f cd A outer s H E p) := ⟨p, hot, by simp [L2H.cxH]⟩
theorem unitsH {k : Nat} {A : Around} (r : L2H.RoomH k A) : A.units + 64 < cLine := by have := r.un; omega
theorem fnH_stuck {P : Program} {w : World} {K : KC} {mg : Str → Option Value} {base : Heap} {CX : CXT} {k : Nat} {f : Addr} {fd : FuncData} {ps : List Str} : L2H.FnH P w K mg base CX k f fd ps (spM K fun _ => none) :=
  ⟨fun vs H Q E h => (by obtain ⟨_, _, _, _, _, hm, _⟩ := h; cases hm), fun A outer s H args us vs Q E p _ _ _ _ _ _ h => (by obtain ⟨_, _, _, _, _, hm, _⟩ := h; cases hm)⟩
section
variable {X : Cx} {CX : CXT} {k : Nat} {f : Addr} {fd : FuncData} {ps : List Str} {sp : Sp} {E : St → XK} {x : Str} {p pos : Pos}
theorem pe_callH0 (F : L2H.FnH X.prog X.w X.K X.mg X.base CX k f fd ps sp) (hr : L2H.RoomH k X.A) (hc : L2H.HotC X) (hg : Gl X x) (hm : X.mg x = some (.ref f)) (hk : PySem.W.keepIn X.K (.ref f) = true) (hb : Binds X.K fd ps []) (hx : ∀ σ, PassesAt CX X σ (E σ))
    (hdb : (x == ("__debug__" : Str)) = false := by decide) : PE X (.Call (.Name x p) [] [] pos) (tCallS sp E tNil) := by
  refine ⟨fun pins s σ H Q I h => ?_⟩
  refine wpAny_Call_Name_kw (ld_glob I hg hm ?_ hdb)
  exact PySem.W.callWith_K0 I.kIn hk (L2H.run_fnH (us := []) F hr hc hb (hx σ) I .nil h)
end
theorem ps_stuck {X : Cx} {st : Stmt} : PS X st tStuck := ⟨fun pins s σ H D I h => h.elim⟩
/-! ### an error's class -/
structure ErrA (K : PySem.W.Frag) (C fI : Addr) : Prop where
  T : OexC K C
  xf : XfC K C
  ex : ExcC K C
  iC : PySem.W.findIn K (.ref C) "__init__" = some (some (.ref fI))
  tI : PySem.W.typeIn K (.ref fI) = some (.type "function")
theorem kt_of {K : PySem.W.Frag} {C : Addr} {c : Value} {b : Bool} (h : PySem.W.kitOne K (.ref C) c = some b) : PySem.W.kitOne K (.ref C) c = some b := h
/-! ### written tuples -/
def ItOk (K : KC) : List Value → List D → Prop
  | [], [] => True
  | u :: us, d :: ds => (∃ v, RelV v u ∧ ∀ ps H, Dt K ps H v d) ∧ ItOk K us ds
  | _, _ => False
theorem it_str {K : KC} {s s' : Str} {t : Tok} (h : s = s') : ∃ v, RelV v (Value.str s t) ∧ ∀ ps H, Dt K ps H v (.str s') := ⟨.str s, ⟨t, rfl⟩, fun _ _ => h ▸ .str s⟩
theorem it_int {K : KC} {i : Int} {t : Tok} : ∃ v, RelV v (Value.int i t) ∧ ∀ ps H, Dt K ps H v (.int i) := ⟨.int i, ⟨t, rfl⟩, fun _ _ => .int i⟩
theorem it_bool {K : KC} {b : Bool} : ∃ v, RelV v (Value.bool b) ∧ ∀ ps H, Dt K ps H v (.bl b) := ⟨.bl b, rfl, fun _ _ => .bl b⟩
theorem it_none {K : KC} : ∃ v, RelV v Value.none ∧ ∀ ps H, Dt K ps H v .non := ⟨.non, rfl, fun _ _ => .non⟩
theorem it_ref {K : KC} {a : Addr} {d : D} (h : ∀ ps H, Dt K ps H (.ref a) d) : ∃ v, RelV v (Value.ref a) ∧ ∀ ps H, Dt K ps H v d := ⟨.ref a, rfl, h⟩
theorem it_vals {K : KC} : ∀ {us : List Value} {ds : List D}, ItOk K us ds → ∃ xs : List V, Vals xs us ∧ ∀ ps H, DtA K ps H xs ds
  | [], [], _ => ⟨[], .nil, fun _ _ => .nil⟩
  | [], _ :: _, h => h.elim
  | _ :: _, [], h => h.elim
  | u :: us, d :: ds, ⟨⟨v, h1, h2⟩, h⟩ => by
    obtain ⟨xs, h3, h4⟩ := it_vals h
    exact ⟨v :: xs, .cons h1 h3, fun ps H => .cons (h2 ps H) (h4 ps H)⟩
theorem k_tup {K : KC} {a : Addr} {od : Option Addr} {its : Array Value} {n : Nat} {sl : Array (Option Value)} {ds : List D} (hl : K.F.lookup a = some ⟨.type "tuple", od, .seq its n, sl⟩) (h : ItOk K its.toList ds) (hz : its.size ≤ sizeLine) (hw : ∀ xs, K.wt xs) (ps : Addr → Prop) (H : Hp) : Dt K ps H (.ref a) (.tup ds) := by
  obtain ⟨xs, h1, h2⟩ := it_vals h
  exact .tup (.inr ⟨hw _, _, its, n, hl, rfl, rfl, hz, h1⟩) (h2 ps H).1 (h2 ps H).2
end Q
namespace Q
open PySem L2
theorem ss_raises {C : Cn} {tr : TA} {mr : MA} {c : Nat} {Ca : Addr} {fs fs' : List Str} (h : fs = fs') (hc : C.K.cv c = .ref Ca) (ha : SA C tr mr) : SS C (tRaise Ca fs tr C.W) (mRaise c fs' mr) := h ▸ ss_raise hc ha
theorem se_xfs {C : Cn} {i : Nat} {a dd : Addr} {x : Xc} {f f' : Str} {cs : List Nat} (h : f = f') (hcs : ∀ n, cs.contains n = true → ∃ Ca, C.K.cv n = .ref Ca ∧ XfC C.K Ca ∧ PySem.W.findIn C.K (.ref Ca) f = some none) :
    SE (suC C i a dd x) (tXfE C.K a (C.K.cv x.cls) (some dd) f (tVar i)) (mXf cs f' x) := h ▸ se_xf hcs
/-- a statement of a class's body -/
def clsS (s : Stmt) (j : Nat) : Stmt := match s with
  | .ClassDef _ _ _ body .. => body.getD j (.Pass ⟨0, 0, 0, 0⟩)
  | _ => .Pass ⟨0, 0, 0, 0⟩
end Q
namespace Q
open PySem L2
section
variable {X : Cx} {x n : Str} {c : Value} {i : Nat} {body suite : List Stmt} {b₀ : Stmt} {np pos pos' : Pos} {tb : WX → TS} {ts : Addr → Value → Option Addr → TS} {Wout : WX}
theorem ps_tryE (hs : X.stack = X.env :: X.outer) (hf : X.env.frame = some X.env.locals) (hN : X.N.Nodup) (hi : X.N[i]? = some n) (hln : X.env.kindOf n = some .local) (hc : Names X x c) (tk : L2N.Takes X Wout)
    (hb : ∀ (W : WX) (pn : List (Addr × Obj)) (xe : Value → Shared → Prop), L2N.Takes (X.tr pn xe) W → PassesOwn (model X.prog X.w) X.A X.env xe → PSs (X.tr pn xe) body (tb W))
    (hsu : ∀ (a : Addr) (oe : Obj) (cls : Value) (d : Option Addr) (pn : List (Addr × Obj)), L2N.Zn cls d oe → (∃ vs, oe.data = .fields vs) → PSs (X.suite a ((a, oe) :: pn)) (b₀ :: suite) (ts a cls d)) :
    PS X (.Try body [.ExceptHandler (some (.Name x np)) (some n) (b₀ :: suite) pos'] [] [] pos) (tTry X.K c i ts tb Wout) := L2N.ps_try_as hs hf hN hi hln hc tk hb hsu
end
end Q
namespace Q
open PySem L2
theorem kf_by {names : List (Str × NameKind)} (h : names.all (fun p => decide (p.1 = "__class__") || (decide (p.2 ≠ .cell) && decide (p.2 ≠ .free))) = true) : ∀ x : Str, (names.lookup x = some .cell ∨ names.lookup x = some .free) → x = "__class__" := by
  intro x hx
  have key : ∀ {l : List (Str × NameKind)} {k : NameKind}, l.lookup x = some k → ∃ p ∈ l, p.1 = x ∧ p.2 = k := by
    intro l
    induction l with
    | nil => intro k h; cases h
    | cons p l ih =>
      intro k h
      rw [List.lookup_cons] at h
      cases e : (x == p.1) with
      | true =>
        rw [e] at h
        exact ⟨p, by simp, (beq_iff_eq.mp e).symm, Option.some.inj h⟩
      | false =>
        rw [e] at h
        obtain ⟨q, h1, h2⟩ := ih h
        exact ⟨q, List.mem_cons_of_mem _ h1, h2⟩
  rcases hx with hx | hx <;>
  · obtain ⟨p, h1, h2, h3⟩ := key hx
    have := List.all_eq_true.mp h p h1
    rw [h3] at this
    simp at this
    exact h2 ▸ this
end Q


namespace Q
open PySem L2
theorem nr {α : Sort _} {a b : α} (h : a = b) : a = b := h
/-! ### reckoning the mirrors -/
def kSeq (r : Option (Rs Fl)) (b : MS) : Option (Rs Fl) := bnd r fun f e1 => match f with
  | .nx => b e1
  | f => some (.ok f e1)
theorem ev_seq (a b : MS) (e : Env) : mSeq a b e = kSeq (a e) b := nr rfl
theorem kSeq_nx (b : MS) (e : Env) : kSeq (some (.ok .nx e)) b = b e := nr rfl
theorem kSeq_rt (d : D) (b : MS) (e : Env) : kSeq (some (.ok (.rt d) e)) b = some (.ok (.rt d) e) := nr rfl
theorem kSeq_bk (b : MS) (e : Env) : kSeq (some (.ok .bk e)) b = some (.ok .bk e) := nr rfl
theorem kSeq_ct (b : MS) (e : Env) : kSeq (some (.ok .ct e)) b = some (.ok .ct e) := nr rfl
theorem kSeq_ex (x : Xc) (b : MS) (e : Env) : kSeq (some (.ex x e)) b = some (.ex x e) := nr rfl
def kAsg (r : Option (Rs D)) (g : MG) : Option (Rs Fl) := bnd r fun x e1 => match tk x e1 with
  | some (y, e2) => (match g y e2 with | some e3 => some (.ok .nx e3) | none => none)
  | none => none
def kAsg2 (r : Option (D × Env)) (g : MG) : Option (Rs Fl) := match r with
  | some (y, e2) => (match g y e2 with | some e3 => some (.ok .nx e3) | none => none)
  | none => none
def kAsg3 (r : Option Env) : Option (Rs Fl) := match r with | some e3 => some (.ok .nx e3) | none => none
theorem ev_asg (a : ME) (g : MG) (e : Env) : mAsg a g e = kAsg (a e) g := nr rfl
theorem kAsg_ok (x : D) (e : Env) (g : MG) : kAsg (some (.ok x e)) g = kAsg2 (tk x e) g := nr rfl
theorem kAsg_ex (x : Xc) (e : Env) (g : MG) : kAsg (some (.ex x e)) g = some (.ex x e) := nr rfl
theorem kAsg2_ok (y : D) (e : Env) (g : MG) : kAsg2 (some (y, e)) g = kAsg3 (g y e) := nr rfl
theorem kAsg3_ok (e : Env) : kAsg3 (some e) = some (.ok .nx e) := nr rfl
theorem ev_nm (n : Nat) (d : D) (e : Env) : gNm n d e = some (e.set n (some d)) := nr rfl
def kIx3 (r : Option Nat) (ds : List D) (n : Nat) (d : D) (e : Env) : Option Env := match r with
        | some k => if isFz d = true then some (e.set n (some (.mls (ds.set k d)))) else none
        | none => none
def kIx2 (r : Option (Option D)) (i : Int) (n : Nat) (d : D) (e : Env) : Option Env := match r with
      | some (some (.mls ds)) => kIx3 (ixN ds.length i) ds n d e
      | _ => none
def kIx (r : Option (Rs D)) (n : Nat) (d : D) : Option Env := match r with
    | some (.ok (.int i) e1) => kIx2 e1[n]? i n d e1
    | _ => none
def kIx0 (s : Option (Option D)) (r : Option (Rs D)) (n : Nat) (d : D) : Option Env := match s with
  | some (some _) => kIx r n d
  | _ => none
theorem ev_ixg (n : Nat) (a : ME) (d : D) (e : Env) : gIx n a d e = kIx0 e[n]? (a e) n d := nr rfl
theorem kIx0_ok (d0 : D) (r : Option (Rs D)) (n : Nat) (d : D) : kIx0 (some (some d0)) r n d = kIx r n d := nr rfl
theorem kIx_ok (i : Int) (e : Env) (n : Nat) (d : D) : kIx (some (.ok (.int i) e)) n d = kIx2 e[n]? i n d e := nr rfl
theorem kIx2_ok (ds : List D) (i : Int) (n : Nat) (d : D) (e : Env) : kIx2 (some (some (.mls ds))) i n d e = kIx3 (ixN ds.length i) ds n d e := nr rfl
theorem kIx3_ok {k : Nat} {ds : List D} {n : Nat} {d : D} {e : Env} (h : isFz d = true) : kIx3 (some k) ds n d e = some (e.set n (some (.mls (ds.set k d)))) := by
  unfold kIx3; simp only [h, if_true]
def kUnp (r : Option (List D)) (n : Nat) (m : MGs) (e : Env) : Option Env := match r with
  | some ds => if ds.length = n then m ds e else none
  | none => none
theorem ev_un (n : Nat) (m : MGs) (d : D) (e : Env) : gUn n m d e = kUnp (seqD d) n m e := nr rfl
theorem kUnp_ok (ds : List D) (n : Nat) (m : MGs) (e : Env) : kUnp (some ds) n m e = if ds.length = n then m ds e else none := nr rfl
def kGs (r : Option Env) (m : MGs) (ds : List D) : Option Env := match r with | some e1 => m ds e1 | none => none
theorem ev_gscons (g : MG) (r : MGs) (d : D) (ds : List D) (e : Env) : gsCons g r (d :: ds) e = kGs (g d e) r ds := nr rfl
theorem kGs_ok (e : Env) (m : MGs) (ds : List D) : kGs (some e) m ds = m ds e := nr rfl
theorem ev_gsnil (e : Env) : gsNil [] e = some e := nr rfl
theorem ev_next (e : Env) : mNext e = some (.ok .nx e) := nr rfl
theorem ev_break (e : Env) : mBreak e = some (.ok .bk e) := nr rfl
theorem ev_cont (e : Env) : mCont e = some (.ok .ct e) := nr rfl
theorem ev_retN (e : Env) : mRetN e = some (.ok (.rt .non) e) := nr rfl
def kDrop (r : Option (Rs D)) : Option (Rs Fl) := bnd r fun _ e1 => some (.ok .nx e1)
theorem ev_drop (a : ME) (e : Env) : mDrop a e = kDrop (a e) := nr rfl
theorem kDrop_ok (x : D) (e : Env) : kDrop (some (.ok x e)) = some (.ok .nx e) := nr rfl
theorem kDrop_ex (x : Xc) (e : Env) : kDrop (some (.ex x e)) = some (.ex x e) := nr rfl
def kIf {α : Type} (r : Option (Rs Bool)) (a b : M α) : Option (Rs α) := bnd r fun x e1 => if x = true then a e1 else b e1
theorem ev_if (c : MT) (a b : MS) (e : Env) : mIfS c a b e = kIf (c e) a b := nr rfl
theorem ev_ifE (c : MT) (a b : ME) (e : Env) : mIfE c a b e = kIf (c e) a b := nr rfl
theorem kIf_t {α : Type} (e : Env) (a b : M α) : kIf (some (.ok true e)) a b = a e := nr rfl
theorem kIf_f {α : Type} (e : Env) (a b : M α) : kIf (some (.ok false e)) a b = b e := nr rfl
theorem kIf_ex {α : Type} (x : Xc) (e : Env) (a b : M α) : kIf (some (.ex x e)) a b = some (.ex x e) := nr rfl
def kRet (r : Option (Rs D)) (np : Nat) : Option (Rs Fl) := bnd r fun x e1 => match out np x e1 with
  | some (y, e2) => some (.ok (.rt y) e2)
  | none => none
def kRet2 (r : Option (D × Env)) : Option (Rs Fl) := match r with
  | some (y, e2) => some (.ok (.rt y) e2)
  | none => none
theorem ev_ret (np : Nat) (a : ME) (e : Env) : mRet np a e = kRet (a e) np := nr rfl
theorem kRet_ok (x : D) (e : Env) (np : Nat) : kRet (some (.ok x e)) np = kRet2 (out np x e) := nr rfl
theorem kRet_ex (x : Xc) (e : Env) (np : Nat) : kRet (some (.ex x e)) np = some (.ex x e) := nr rfl
theorem kRet2_ok (x : D) (e : Env) : kRet2 (some (x, e)) = some (.ok (.rt x) e) := nr rfl
theorem ev_c (d : D) (e : Env) : mC d e = some (.ok d e) := nr rfl
def kVar (r : Option (Option D)) (i : Nat) (e : Env) : Option (Rs D) := match r with
  | some (some d) => if isFz d = true then some (.ok d e) else some (.ok (.al i) e)
  | _ => none
theorem ev_var (i : Nat) (e : Env) : mVar i e = kVar e[i]? i e := nr rfl
theorem kVar_fz {d : D} {i : Nat} {e : Env} (h : isFz d = true) : kVar (some (some d)) i e = some (.ok d e) := by
  unfold kVar; simp only [h, if_true]
theorem kVar_m (ds : List D) (i : Nat) (e : Env) : kVar (some (some (.mls ds))) i e = some (.ok (.al i) e) := nr rfl
def kJ (r : Option (Option D)) : Option D := match r with | some (some d) => some d | _ => none
theorem res_al (k : Nat) (e : Env) : res e (.al k) = kJ e[k]? := nr rfl
theorem kJ_ok (d : D) : kJ (some (some d)) = some d := nr rfl
def kUn (r : Option (Rs D)) (f : D → Option D) : Option (Rs D) := bnd r fun x e1 => ap1 f x e1
theorem ev_unr (f : D → Option D) (a : ME) (e : Env) : mUn f a e = kUn (a e) f := nr rfl
theorem kUn_ok (x : D) (e : Env) (f : D → Option D) : kUn (some (.ok x e)) f = ap1 f x e := nr rfl
def kOp (r : Option (Rs D)) (b : ME) (f : D → D → Option D) : Option (Rs D) := bnd r fun x e1 => bnd (b e1) fun y e2 => ap2 f x y e2
def kOp2 (r : Option (Rs D)) (x : D) (f : D → D → Option D) : Option (Rs D) := bnd r fun y e2 => ap2 f x y e2
theorem ev_op (f : D → D → Option D) (a b : ME) (e : Env) : mOp f a b e = kOp (a e) b f := nr rfl
theorem kOp_ok (x : D) (e : Env) (b : ME) (f : D → D → Option D) : kOp (some (.ok x e)) b f = kOp2 (b e) x f := nr rfl
theorem kOp_ex (x : Xc) (e : Env) (b : ME) (f : D → D → Option D) : kOp (some (.ex x e)) b f = some (.ex x e) := nr rfl
theorem kOp2_ok (x y : D) (e : Env) (f : D → D → Option D) : kOp2 (some (.ok y e)) x f = ap2 f x y e := nr rfl
theorem kOp2_ex (x : Xc) (y : D) (e : Env) (f : D → D → Option D) : kOp2 (some (.ex x e)) y f = some (.ex x e) := nr rfl
def kP (r : Option D) (e : Env) : Option (Rs D) := match r with | some d => some (.ok d e) | none => none
theorem kP_ok (d : D) (e : Env) : kP (some d) e = some (.ok d e) := nr rfl
def kA1 (r : Option D) (f : D → Option D) (e : Env) : Option (Rs D) := match r with | some d => kP (f d) e | none => none
theorem ev_ap1 (f : D → Option D) (x : D) (e : Env) : ap1 f x e = kA1 (res e x) f e := nr rfl
theorem kA1_ok (x : D) (f : D → Option D) (e : Env) : kA1 (some x) f e = kP (f x) e := nr rfl
def kA2 (r s : Option D) (f : D → D → Option D) (e : Env) : Option (Rs D) := match r with | some x => (match s with | some y => kP (f x y) e | none => none) | none => none
theorem ev_ap2 (f : D → D → Option D) (x y : D) (e : Env) : ap2 f x y e = kA2 (res e x) (res e y) f e := nr rfl
theorem kA2_ok (x y : D) (f : D → D → Option D) (e : Env) : kA2 (some x) (some y) f e = kP (f x y) e := nr rfl
def kCB (r : Option (Rs (List D))) (f : List D → Option D) : Option (Rs D) := bnd r fun xs e1 => apN f xs e1
theorem ev_cb (f : List D → Option D) (a : MA) (e : Env) : mCB f a e = kCB (a e) f := nr rfl
theorem kCB_ok (xs : List D) (e : Env) (f : List D → Option D) : kCB (some (.ok xs e)) f = apN f xs e := nr rfl
def kAN (r : Option (List D)) (f : List D → Option D) (e : Env) : Option (Rs D) := match r with | some ds => kP (f ds) e | none => none
theorem ev_apN (f : List D → Option D) (xs : List D) (e : Env) : apN f xs e = kAN (lend xs e) f e := nr rfl
theorem kAN_ok (ds : List D) (f : List D → Option D) (e : Env) : kAN (some ds) f e = kP (f ds) e := nr rfl
theorem ev_lnil (e : Env) : lend [] e = some [] := nr rfl
def kL (r : Option D) (s : Option (List D)) : Option (List D) := match r with | some d => (match s with | some ds => some (d :: ds) | none => none) | none => none
theorem ev_lcons (x : D) (xs : List D) (e : Env) : lend (x :: xs) e = kL (res e x) (lend xs e) := nr rfl
theorem kL_ok (d : D) (ds : List D) : kL (some d) (some ds) = some (d :: ds) := nr rfl
theorem ev_nil (e : Env) : mNil e = some (.ok [] e) := nr rfl
def kCons (r : Option (Rs D)) (b : MA) : Option (Rs (List D)) := bnd r fun x e1 => bnd (b e1) fun xs e2 => some (.ok (x :: xs) e2)
def kCons2 (r : Option (Rs (List D))) (x : D) : Option (Rs (List D)) := bnd r fun xs e2 => some (.ok (x :: xs) e2)
theorem ev_cons (a : ME) (b : MA) (e : Env) : mCons a b e = kCons (a e) b := nr rfl
theorem kCons_ok (x : D) (e : Env) (b : MA) : kCons (some (.ok x e)) b = kCons2 (b e) x := nr rfl
theorem kCons_ex (x : Xc) (e : Env) (b : MA) : kCons (some (.ex x e)) b = some (.ex x e) := nr rfl
theorem kCons2_ok (x : D) (xs : List D) (e : Env) : kCons2 (some (.ok xs e)) x = some (.ok (x :: xs) e) := nr rfl
def kTest (r : Option (Rs D)) : Option (Rs Bool) := bnd r fun x e1 => match x with
  | .bl b => some (.ok b e1)
  | _ => none
theorem ev_test (a : ME) (e : Env) : mTest a e = kTest (a e) := nr rfl
theorem kTest_ok (b : Bool) (e : Env) : kTest (some (.ok (.bl b) e)) = some (.ok b e) := nr rfl
theorem kTest_ex (x : Xc) (e : Env) : kTest (some (.ex x e)) = some (.ex x e) := nr rfl
def kTru (r : Option (Rs D)) : Option (Rs Bool) := bnd r fun x e1 => match res e1 x with
  | some d => (match truD d with | some b => some (.ok b e1) | none => none)
  | none => none
def kTr2 (r : Option D) (e : Env) : Option (Rs Bool) := match r with | some d => (match truD d with | some b => some (.ok b e) | none => none) | none => none
def kTr3 (r : Option Bool) (e : Env) : Option (Rs Bool) := match r with | some b => some (.ok b e) | none => none
theorem ev_tru (a : ME) (e : Env) : mTru a e = kTru (a e) := nr rfl
theorem kTru_ok (x : D) (e : Env) : kTru (some (.ok x e)) = kTr2 (res e x) e := nr rfl
theorem kTr2_ok (x : D) (e : Env) : kTr2 (some x) e = kTr3 (truD x) e := nr rfl
theorem kTr3_ok (b : Bool) (e : Env) : kTr3 (some b) e = some (.ok b e) := nr rfl
def kAnd (r : Option (Rs Bool)) (b : MT) : Option (Rs Bool) := bnd r fun c e1 => if c = true then b e1 else some (.ok false e1)
def kOr (r : Option (Rs Bool)) (b : MT) : Option (Rs Bool) := bnd r fun c e1 => if c = true then some (.ok true e1) else b e1
def kNot (r : Option (Rs Bool)) : Option (Rs Bool) := bnd r fun c e1 => some (.ok (!c) e1)
theorem ev_and (a b : MT) (e : Env) : mAnd a b e = kAnd (a e) b := nr rfl
theorem ev_or (a b : MT) (e : Env) : mOr a b e = kOr (a e) b := nr rfl
theorem ev_not (a : MT) (e : Env) : mNot a e = kNot (a e) := nr rfl
theorem kAnd_t (b : MT) (e : Env) : kAnd (some (.ok true e)) b = b e := nr rfl
theorem kAnd_f (b : MT) (e : Env) : kAnd (some (.ok false e)) b = some (.ok false e) := nr rfl
theorem kOr_t (b : MT) (e : Env) : kOr (some (.ok true e)) b = some (.ok true e) := nr rfl
theorem kOr_f (b : MT) (e : Env) : kOr (some (.ok false e)) b = b e := nr rfl
theorem kNot_ok (b : Bool) (e : Env) : kNot (some (.ok b e)) = some (.ok (!b) e) := nr rfl
def kAndV (r : Option (Rs D)) (b : ME) : Option (Rs D) := bnd r fun x e1 => match x with
  | .bl true => b e1
  | .bl false => some (.ok (.bl false) e1)
  | _ => none
def kOrV (r : Option (Rs D)) (b : ME) : Option (Rs D) := bnd r fun x e1 => match x with
  | .bl true => some (.ok (.bl true) e1)
  | .bl false => b e1
  | _ => none
def kNotV (r : Option (Rs D)) : Option (Rs D) := bnd r fun x e1 => match x with
  | .bl b => some (.ok (.bl (!b)) e1)
  | _ => none
theorem ev_andV (a b : ME) (e : Env) : mAndV a b e = kAndV (a e) b := nr rfl
theorem ev_orV (a b : ME) (e : Env) : mOrV a b e = kOrV (a e) b := nr rfl
theorem ev_notV (a : ME) (e : Env) : mNotV a e = kNotV (a e) := nr rfl
theorem kAndV_t (b : ME) (e : Env) : kAndV (some (.ok (.bl true) e)) b = b e := nr rfl
theorem kAndV_f (b : ME) (e : Env) : kAndV (some (.ok (.bl false) e)) b = some (.ok (.bl false) e) := nr rfl
theorem kOrV_t (b : ME) (e : Env) : kOrV (some (.ok (.bl true) e)) b = some (.ok (.bl true) e) := nr rfl
theorem kOrV_f (b : ME) (e : Env) : kOrV (some (.ok (.bl false) e)) b = b e := nr rfl
theorem kNotV_ok (b : Bool) (e : Env) : kNotV (some (.ok (.bl b) e)) = some (.ok (.bl (!b)) e) := nr rfl
def kLst (r : Option (Rs (List D))) (c : List D → D) : Option (Rs D) := bnd r fun xs e1 => match tkfA xs e1 with
  | some (ys, e2) => if ys.length ≤ 16777216 then some (.ok (c ys) e2) else none
  | none => none
def kLs2 (r : Option (List D × Env)) (c : List D → D) : Option (Rs D) := match r with
  | some (ys, e2) => if ys.length ≤ 16777216 then some (.ok (c ys) e2) else none
  | none => none
theorem ev_lst (a : MA) (e : Env) : mLst a e = kLst (a e) D.mls := nr rfl
theorem ev_tup (a : MA) (e : Env) : mTup a e = kLst (a e) D.tup := nr rfl
theorem kLst_ok (xs : List D) (e : Env) (c : List D → D) : kLst (some (.ok xs e)) c = kLs2 (tkfA xs e) c := nr rfl
theorem kLst_ex (x : Xc) (e : Env) (c : List D → D) : kLst (some (.ex x e)) c = some (.ex x e) := nr rfl
theorem kLs2_ok {ys : List D} {e : Env} {c : List D → D} (h : ys.length ≤ 16777216) : kLs2 (some (ys, e)) c = some (.ok (c ys) e) := by
  unfold kLs2; simp only [h, if_true]
theorem ev_tnil (e : Env) : tkfA [] e = some ([], e) := nr rfl
def kT (r : Option (D × Env)) (xs : List D) : Option (List D × Env) := match r with
    | some (y, e1) => (match tkfA xs e1 with
      | some (ys, e2) => some (y :: ys, e2)
      | none => none)
    | none => none
def kT2 (r : Option (List D × Env)) (y : D) : Option (List D × Env) := match r with | some (ys, e2) => some (y :: ys, e2) | none => none
theorem ev_tcons (x : D) (xs : List D) (e : Env) : tkfA (x :: xs) e = kT (tkf x e) xs := nr rfl
theorem kT_ok (y : D) (e : Env) (xs : List D) : kT (some (y, e)) xs = kT2 (tkfA xs e) y := nr rfl
theorem kT2_ok (y : D) (ys : List D) (e : Env) : kT2 (some (ys, e)) y = some (y :: ys, e) := nr rfl
theorem tkf_fz {d : D} {e : Env} (h : isFz d = true) : tkf d e = some (d, e) := by cases d <;> first | rfl | cases h
theorem tkf_mls (ds : List D) (e : Env) : tkf (.mls ds) e = some (.lst ds, e) := nr rfl
def kTk (r : Option (Option D)) (k : Nat) (e : Env) : Option (D × Env) := match r with
    | some (some d) => some (frz d, e.set k (some (frz d)))
    | _ => none
def kTkf (r : Option (D × Env)) : Option (D × Env) := match r with | some (d, e1) => some (frz d, e1) | none => none
theorem tkf_al (k : Nat) (e : Env) : tkf (.al k) e = kTkf (kTk e[k]? k e) := nr rfl
theorem kTkf_ok (d : D) (e : Env) : kTkf (some (d, e)) = some (frz d, e) := nr rfl
theorem tk_fz {d : D} {e : Env} (h : isFz d = true) : tk d e = some (d, e) := by cases d <;> first | rfl | cases h
theorem tk_mls (ds : List D) (e : Env) : tk (.mls ds) e = some (.mls ds, e) := nr rfl
theorem tk_al (k : Nat) (e : Env) : tk (.al k) e = kTk e[k]? k e := nr rfl
theorem kTk_ok (d : D) (k : Nat) (e : Env) : kTk (some (some d)) k e = some (frz d, e.set k (some (frz d))) := nr rfl
theorem frz_of {d : D} (h : isFz d = true) : frz d = d := by cases d <;> first | rfl | cases h
theorem frz_mls (ds : List D) : frz (.mls ds) = .lst ds := nr rfl
theorem res_fz {d : D} {e : Env} (h : isFz d = true) : res e d = some d := by cases d <;> first | rfl | cases h
theorem res_mls (ds : List D) (e : Env) : res e (.mls ds) = some (.mls ds) := nr rfl
theorem out_fz {np : Nat} {d : D} {e : Env} (h : isFz d = true) : out np d e = some (d, e) := by cases d <;> first | rfl | cases h
theorem out_mls (np : Nat) (ds : List D) (e : Env) : out np (.mls ds) e = some (.mls ds, e) := nr rfl
def kOut (r : Option (Option D)) (k : Nat) (e : Env) : Option (D × Env) := match r with
    | some (some d) => some (d, e.set k none)
    | _ => none
theorem out_al (np k : Nat) (e : Env) : out np (.al k) e = if k < np then kTk e[k]? k e else kOut e[k]? k e := nr rfl
theorem kOut_ok (d : D) (k : Nat) (e : Env) : kOut (some (some d)) k e = some (d, e.set k none) := nr rfl
def kPart (r : Option (Rs D)) : Option (Rs (Option Int)) := bnd r fun x e1 => match x with
  | .int i => some (.ok (some i) e1)
  | _ => none
theorem ev_nopart (e : Env) : mNoPart e = some (.ok none e) := nr rfl
theorem ev_part (a : ME) (e : Env) : mPart a e = kPart (a e) := nr rfl
theorem kPart_ok (i : Int) (e : Env) : kPart (some (.ok (.int i) e)) = some (.ok (some i) e) := nr rfl
def kSl (r : Option (Rs D)) (l h : MO) (f : D → Option Int → Option Int → Option D) : Option (Rs D) := bnd r fun x e1 => bnd (l e1) fun lo e2 => bnd (h e2) fun hi e3 => match res e3 x with
  | some x' => (match f x' lo hi with | some d => some (.ok d e3) | none => none)
  | none => none
def kSl2 (r : Option (Rs (Option Int))) (x : D) (h : MO) (f : D → Option Int → Option Int → Option D) : Option (Rs D) := bnd r fun lo e2 => bnd (h e2) fun hi e3 => match res e3 x with
  | some x' => (match f x' lo hi with | some d => some (.ok d e3) | none => none)
  | none => none
def kSl3 (r : Option (Rs (Option Int))) (x : D) (lo : Option Int) (f : D → Option Int → Option Int → Option D) : Option (Rs D) := bnd r fun hi e3 => match res e3 x with
  | some x' => (match f x' lo hi with | some d => some (.ok d e3) | none => none)
  | none => none
def kSl4 (r : Option D) (lo hi : Option Int) (f : D → Option Int → Option Int → Option D) (e : Env) : Option (Rs D) := match r with
  | some x' => kP (f x' lo hi) e
  | none => none
theorem ev_sl (f : D → Option Int → Option Int → Option D) (a : ME) (l h : MO) (e : Env) : mSl f a l h e = kSl (a e) l h f := nr rfl
theorem kSl_ok (x : D) (e : Env) (l h : MO) (f : D → Option Int → Option Int → Option D) : kSl (some (.ok x e)) l h f = kSl2 (l e) x h f := nr rfl
theorem kSl2_ok (lo : Option Int) (x : D) (e : Env) (h : MO) (f : D → Option Int → Option Int → Option D) : kSl2 (some (.ok lo e)) x h f = kSl3 (h e) x lo f := nr rfl
theorem kSl3_ok (lo hi : Option Int) (x : D) (e : Env) (f : D → Option Int → Option Int → Option D) : kSl3 (some (.ok hi e)) x lo f = kSl4 (res e x) lo hi f e := nr rfl
theorem kSl4_ok (lo hi : Option Int) (x : D) (e : Env) (f : D → Option Int → Option Int → Option D) : kSl4 (some x) lo hi f e = kP (f x lo hi) e := nr rfl
def kApp3 (r : Option (Option D)) (y : D) (n : Nat) (e : Env) : Option (Rs D) := match r with
      | some (some (.mls ds)) => if ds.length < 16777216 then some (.ok .non (e.set n (some (.mls (ds ++ [y]))))) else none
      | _ => none
def kApp2 (r : Option (D × Env)) (n : Nat) : Option (Rs D) := match r with
    | some (y, e2) => kApp3 e2[n]? y n e2
    | none => none
def kApp (r : Option (Rs D)) (n : Nat) : Option (Rs D) := bnd r fun x e1 => kApp2 (tkf x e1) n
def kApp0 (s : Option (Option D)) (r : Option (Rs D)) (n : Nat) : Option (Rs D) := match s with
  | some (some (.mls _)) => kApp r n
  | _ => none
theorem ev_app (n : Nat) (a : ME) (e : Env) : mApp n a e = kApp0 e[n]? (a e) n := nr rfl
theorem kApp0_ok (ds : List D) (r : Option (Rs D)) (n : Nat) : kApp0 (some (some (.mls ds))) r n = kApp r n := nr rfl
theorem kApp_ok (x : D) (e : Env) (n : Nat) : kApp (some (.ok x e)) n = kApp2 (tkf x e) n := nr rfl
theorem kApp_ex (x : Xc) (e : Env) (n : Nat) : kApp (some (.ex x e)) n = some (.ex x e) := nr rfl
theorem kApp2_ok (y : D) (e : Env) (n : Nat) : kApp2 (some (y, e)) n = kApp3 e[n]? y n e := nr rfl
theorem kApp3_ok {ds : List D} {y : D} {n : Nat} {e : Env} (h : ds.length < 16777216) : kApp3 (some (some (.mls ds))) y n e = some (.ok .non (e.set n (some (.mls (ds ++ [y]))))) := by
  unfold kApp3; simp only [h, if_true]
def kE2 (r : Option D) (s : Option (Option D)) (n : Nat) (e : Env) : Option (Rs D) := match r with
    | some y => (match s with
      | some (some (.mls ds)) => (match y with
        | .lst es => if ds.length + es.length ≤ 16777216 then some (.ok .non (e.set n (some (.mls (ds ++ es))))) else none
        | .mls es => if ds.length + es.length ≤ 16777216 then some (.ok .non (e.set n (some (.mls (ds ++ es))))) else none
        | .tup es => if ds.length + es.length ≤ 16777216 then some (.ok .non (e.set n (some (.mls (ds ++ es))))) else none
        | _ => none)
      | _ => none)
    | none => none
def kExt (r : Option (Rs D)) (n : Nat) : Option (Rs D) := bnd r fun x e1 => kE2 (res e1 x) e1[n]? n e1
def kExt0 (s : Option (Option D)) (r : Option (Rs D)) (n : Nat) : Option (Rs D) := match s with
  | some (some (.mls _)) => kExt r n
  | _ => none
theorem ev_ext (n : Nat) (a : ME) (e : Env) : mExt n a e = kExt0 e[n]? (a e) n := nr rfl
theorem kExt0_ok (ds : List D) (r : Option (Rs D)) (n : Nat) : kExt0 (some (some (.mls ds))) r n = kExt r n := nr rfl
theorem kExt_ok (x : D) (e : Env) (n : Nat) : kExt (some (.ok x e)) n = kE2 (res e x) e[n]? n e := nr rfl
theorem kE2_lst {es ds : List D} {n : Nat} {e : Env} (h : ds.length + es.length ≤ 16777216) : kE2 (some (.lst es)) (some (some (.mls ds))) n e = some (.ok .non (e.set n (some (.mls (ds ++ es))))) := by
  unfold kE2; simp only [h, if_true]
theorem kE2_mls {es ds : List D} {n : Nat} {e : Env} (h : ds.length + es.length ≤ 16777216) : kE2 (some (.mls es)) (some (some (.mls ds))) n e = some (.ok .non (e.set n (some (.mls (ds ++ es))))) := by
  unfold kE2; simp only [h, if_true]
theorem kE2_tup {es ds : List D} {n : Nat} {e : Env} (h : ds.length + es.length ≤ 16777216) : kE2 (some (.tup es)) (some (some (.mls ds))) n e = some (.ok .non (e.set n (some (.mls (ds ++ es))))) := by
  unfold kE2; simp only [h, if_true]
def kCall (r : Option (Rs (List D))) (f : MF) : Option (Rs D) := bnd r fun xs e1 => match lend xs e1 with
  | some ds => if alsOk xs = true then (match f ds with
    | some (.ok d ds') => if ds'.length = ds.length then some (.ok d (back xs ds' e1)) else none
    | some (.ex x ds') => if ds'.length = ds.length then some (.ex x (back xs ds' e1)) else none
    | none => none) else none
  | none => none
def kC2 (r : Option (List D)) (f : MF) (xs : List D) (e : Env) : Option (Rs D) := match r with
  | some ds => if alsOk xs = true then (match f ds with
    | some (.ok d ds') => if ds'.length = ds.length then some (.ok d (back xs ds' e)) else none
    | some (.ex x ds') => if ds'.length = ds.length then some (.ex x (back xs ds' e)) else none
    | none => none) else none
  | none => none
def kC3 (r : Option Rf) (n : Nat) (xs : List D) (e : Env) : Option (Rs D) := match r with
    | some (.ok d ds') => if ds'.length = n then some (.ok d (back xs ds' e)) else none
    | some (.ex x ds') => if ds'.length = n then some (.ex x (back xs ds' e)) else none
    | none => none
theorem ev_call (f : MF) (a : MA) (e : Env) : mCall f a e = kCall (a e) f := nr rfl
theorem kCall_ok (xs : List D) (e : Env) (f : MF) : kCall (some (.ok xs e)) f = kC2 (lend xs e) f xs e := nr rfl
theorem kC2_ok {ds : List D} {f : MF} {xs : List D} {e : Env} (h : alsOk xs = true) : kC2 (some ds) f xs e = kC3 (f ds) ds.length xs e := by
  unfold kC2 kC3; simp only [h, if_true]
theorem kC3_ok (d : D) (ds : List D) (n : Nat) (xs : List D) (e : Env) (h : ds.length = n) : kC3 (some (.ok d ds)) n xs e = some (.ok d (back xs ds e)) := by
  unfold kC3; simp only [h, if_true]
theorem kC3_ex (x : Xc) (ds : List D) (n : Nat) (xs : List D) (e : Env) (h : ds.length = n) : kC3 (some (.ex x ds)) n xs e = some (.ex x (back xs ds e)) := by
  unfold kC3; simp only [h, if_true]
def kFor (r : Option (Rs (List D))) (g : MG) (b : MS) : Option (Rs Fl) := bnd r fun xs e1 => mLoop g b xs e1
theorem ev_for (i : MI) (g : MG) (b : MS) (e : Env) : mFor i g b e = kFor (i e) g b := nr rfl
theorem kFor_ok (xs : List D) (e : Env) (g : MG) (b : MS) : kFor (some (.ok xs e)) g b = mLoop g b xs e := nr rfl
theorem loop_nil (g : MG) (b : MS) (e : Env) : mLoop g b [] e = some (.ok .nx e) := nr rfl
def kLp (r : Option (Rs Fl)) (g : MG) (b : MS) (xs : List D) : Option (Rs Fl) := bnd r fun f e2 => (match f with
      | .nx => mLoop g b xs e2
      | .ct => mLoop g b xs e2
      | .bk => some (.ok .nx e2)
      | .rt d => some (.ok (.rt d) e2))
def kLp0 (r : Option Env) (g : MG) (b : MS) (xs : List D) : Option (Rs Fl) := match r with
    | some e1 => kLp (b e1) g b xs
    | none => none
theorem loop_cons (g : MG) (b : MS) (x : D) (xs : List D) (e : Env) : mLoop g b (x :: xs) e = kLp0 (g x e) g b xs := nr rfl
theorem kLp0_ok (e : Env) (g : MG) (b : MS) (xs : List D) : kLp0 (some e) g b xs = kLp (b e) g b xs := nr rfl
theorem kLp_nx (e : Env) (g : MG) (b : MS) (xs : List D) : kLp (some (.ok .nx e)) g b xs = mLoop g b xs e := nr rfl
theorem kLp_ct (e : Env) (g : MG) (b : MS) (xs : List D) : kLp (some (.ok .ct e)) g b xs = mLoop g b xs e := nr rfl
theorem kLp_bk (e : Env) (g : MG) (b : MS) (xs : List D) : kLp (some (.ok .bk e)) g b xs = some (.ok .nx e) := nr rfl
theorem kLp_rt (d : D) (e : Env) (g : MG) (b : MS) (xs : List D) : kLp (some (.ok (.rt d) e)) g b xs = some (.ok (.rt d) e) := nr rfl
theorem kLp_ex (x : Xc) (e : Env) (g : MG) (b : MS) (xs : List D) : kLp (some (.ex x e)) g b xs = some (.ex x e) := nr rfl
def kSI (r : Option (Rs D)) : Option (Rs (List D)) := bnd r fun x e1 => match tkf x e1 with
  | some (y, e2) => (match seqD y with | some ds => some (.ok ds e2) | none => none)
  | none => none
def kSI2 (r : Option (D × Env)) : Option (Rs (List D)) := match r with
  | some (y, e2) => (match seqD y with | some ds => some (.ok ds e2) | none => none)
  | none => none
def kSI3 (r : Option (List D)) (e : Env) : Option (Rs (List D)) := match r with | some ds => some (.ok ds e) | none => none
theorem ev_si (a : ME) (e : Env) : mSeqI a e = kSI (a e) := nr rfl
theorem kSI_ok (x : D) (e : Env) : kSI (some (.ok x e)) = kSI2 (tkf x e) := nr rfl
theorem kSI2_ok (x : D) (e : Env) : kSI2 (some (x, e)) = kSI3 (seqD x) e := nr rfl
theorem kSI3_ok (ds : List D) (e : Env) : kSI3 (some ds) e = some (.ok ds e) := nr rfl
def kR1 (r : Option (Rs (List D))) : Option (Rs (List D)) := bnd r fun xs e1 => match xs with
  | [.int j] => if -4611686018427387904 ≤ j ∧ j < 4611686018427387904 then some (.ok (rngD 0 j.toNat) e1) else none
  | _ => none
theorem ev_r1 (a : MA) (e : Env) : mRng1 a e = kR1 (a e) := nr rfl
theorem kR1_ok {j : Int} {e : Env} (h : -4611686018427387904 ≤ j ∧ j < 4611686018427387904) : kR1 (some (.ok [.int j] e)) = some (.ok (rngD 0 j.toNat) e) := by
  show (if _ then _ else _) = _
  rw [if_pos h]
def kR2 (r : Option (Rs (List D))) : Option (Rs (List D)) := bnd r fun xs e1 => match xs with
  | [.int i, .int j] => if (-4611686018427387904 ≤ i ∧ i < 4611686018427387904) ∧ -4611686018427387904 ≤ j ∧ j < 4611686018427387904 then some (.ok (rngD i (j - i).toNat) e1) else none
  | _ => none
theorem ev_r2 (a : MA) (e : Env) : mRng2 a e = kR2 (a e) := nr rfl
def kV1 (r : Option (Rs D)) : Option (Rs (List D)) := bnd r fun x e1 => match x with
  | .int j => if -4611686018427387904 ≤ j ∧ j < 4611686018427387904 then some (.ok (rngC (j.toNat - 1) j.toNat) e1) else none
  | _ => none
theorem ev_v1 (a : ME) (e : Env) : mRev1 a e = kV1 (a e) := nr rfl
def kLc (r : Option (Rs (List D))) (g : MG) (t : MT) (el : ME) (own : List Nat) : Option (Rs D) := bnd r fun xs e1 => match mCl g t el own xs [] (wipeE e1 own) with
  | some (ys, e2) => some (.ok (.mls ys) e2)
  | none => none
def kLc2 (r : Option (List D × Env)) : Option (Rs D) := match r with
  | some (ys, e2) => some (.ok (.mls ys) e2)
  | none => none
theorem ev_lc (i : MI) (g : MG) (t : MT) (el : ME) (own : List Nat) (e : Env) : mLc i g t el own e = kLc (i e) g t el own := nr rfl
theorem kLc_ok (xs : List D) (e : Env) (g : MG) (t : MT) (el : ME) (own : List Nat) : kLc (some (.ok xs e)) g t el own = kLc2 (mCl g t el own xs [] (wipeE e own)) := nr rfl
theorem kLc2_ok (ys : List D) (e : Env) : kLc2 (some (ys, e)) = some (.ok (.mls ys) e) := nr rfl
theorem cl_nil (g : MG) (t : MT) (el : ME) (own : List Nat) (acc : List D) (e : Env) : mCl g t el own [] acc e = some (acc, e) := nr rfl
def kQ (r : Option Env) (g : MG) (t : MT) (el : ME) (own : List Nat) (xs acc : List D) : Option (List D × Env) := match r with
    | some e1 => (match t e1 with
      | some (.ok b e2) => if b = true then (match el e2 with
        | some (.ok y e3) => (match tkf y e3 with
          | some (y', e4) => if acc.length < 16777216 then mCl g t el own xs (acc ++ [y']) (wipeE e4 own) else none
          | none => none)
        | _ => none) else mCl g t el own xs acc (wipeE e2 own)
      | _ => none)
    | none => none
def kQ2 (r : Option (Rs Bool)) (g : MG) (t : MT) (el : ME) (own : List Nat) (xs acc : List D) : Option (List D × Env) := match r with
      | some (.ok b e2) => if b = true then (match el e2 with
        | some (.ok y e3) => (match tkf y e3 with
          | some (y', e4) => if acc.length < 16777216 then mCl g t el own xs (acc ++ [y']) (wipeE e4 own) else none
          | none => none)
        | _ => none) else mCl g t el own xs acc (wipeE e2 own)
      | _ => none
def kQ3 (r : Option (Rs D)) (g : MG) (t : MT) (el : ME) (own : List Nat) (xs acc : List D) : Option (List D × Env) := match r with
        | some (.ok y e3) => (match tkf y e3 with
          | some (y', e4) => if acc.length < 16777216 then mCl g t el own xs (acc ++ [y']) (wipeE e4 own) else none
          | none => none)
        | _ => none
def kQ4 (r : Option (D × Env)) (g : MG) (t : MT) (el : ME) (own : List Nat) (xs acc : List D) : Option (List D × Env) := match r with
          | some (y', e4) => if acc.length < 16777216 then mCl g t el own xs (acc ++ [y']) (wipeE e4 own) else none
          | none => none
theorem cl_cons (g : MG) (t : MT) (el : ME) (own : List Nat) (x : D) (xs acc : List D) (e : Env) : mCl g t el own (x :: xs) acc e = kQ (g x e) g t el own xs acc := nr rfl
theorem kQ_ok (e : Env) (g : MG) (t : MT) (el : ME) (own : List Nat) (xs acc : List D) : kQ (some e) g t el own xs acc = kQ2 (t e) g t el own xs acc := nr rfl
theorem kQ2_t (e : Env) (g : MG) (t : MT) (el : ME) (own : List Nat) (xs acc : List D) : kQ2 (some (.ok true e)) g t el own xs acc = kQ3 (el e) g t el own xs acc := nr rfl
theorem kQ2_f (e : Env) (g : MG) (t : MT) (el : ME) (own : List Nat) (xs acc : List D) : kQ2 (some (.ok false e)) g t el own xs acc = mCl g t el own xs acc (wipeE e own) := nr rfl
theorem kQ3_ok (y : D) (e : Env) (g : MG) (t : MT) (el : ME) (own : List Nat) (xs acc : List D) : kQ3 (some (.ok y e)) g t el own xs acc = kQ4 (tkf y e) g t el own xs acc := nr rfl
theorem kQ4_ok {y : D} {e : Env} {g : MG} {t : MT} {el : ME} {own : List Nat} {xs acc : List D} (h : acc.length < 16777216) : kQ4 (some (y, e)) g t el own xs acc = mCl g t el own xs (acc ++ [y]) (wipeE e own) := by
  unfold kQ4; simp only [h, if_true]
def kFun (r : Option (Rs Fl)) (ds : List D) : Option Rf := match r with
  | some (.ok (.rt d) e) => (match outA ds e with | some ds' => some (.ok d ds') | none => none)
  | some (.ok .nx e) => (match outA ds e with | some ds' => some (.ok .non ds') | none => none)
  | some (.ex x e) => (match outA ds e with | some ds' => some (.ex x ds') | none => none)
  | _ => none
theorem ev_fun {np nl : Nat} {asg : List Nat} {body : MS} {ds : List D} (h1 : ds.length = np) (h2 : asg.all (fun j => match ds[j]? with | some d => isFz d | none => true) = true) : mFun np nl asg body ds = kFun (body (ds.map some ++ List.replicate nl none)) ds := by
  unfold mFun kFun
  rw [if_pos ⟨h1, h2⟩]; first | done | rfl
def kF2 (r : Option (List D)) (d : D) : Option Rf := match r with | some ds' => some (.ok d ds') | none => none
def kF3 (r : Option (List D)) (x : Xc) : Option Rf := match r with | some ds' => some (.ex x ds') | none => none
theorem kFun_rt (d : D) (e : Env) (ds : List D) : kFun (some (.ok (.rt d) e)) ds = kF2 (outA ds e) d := nr rfl
theorem kFun_nx (e : Env) (ds : List D) : kFun (some (.ok .nx e)) ds = kF2 (outA ds e) .non := nr rfl
theorem kFun_ex (x : Xc) (e : Env) (ds : List D) : kFun (some (.ex x e)) ds = kF3 (outA ds e) x := nr rfl
theorem kF2_ok (ds : List D) (d : D) : kF2 (some ds) d = some (.ok d ds) := nr rfl
theorem kF3_ok (ds : List D) (x : Xc) : kF3 (some ds) x = some (.ex x ds) := nr rfl
def kO (r : Option D) (s : Option (List D)) : Option (List D) := match r with | some x => (match s with | some xs => some (x :: xs) | none => none) | none => none
theorem outA_nil (e : Env) : outA [] e = some [] := nr rfl
theorem outA_fz {d : D} {ds : List D} {o : Option D} {e : Env} (h : isFz d = true) : outA (d :: ds) (o :: e) = kO (some d) (outA ds e) := by
  show (match (if isFz d = true then some d else o) with | some x => _ | none => _) = _
  rw [if_pos h]; rfl
theorem outA_mls (ds0 ds : List D) (o : Option D) (e : Env) : outA (.mls ds0 :: ds) (o :: e) = kO o (outA ds e) := by cases o <;> rfl
theorem kO_ok (d : D) (ds : List D) : kO (some d) (some ds) = some (d :: ds) := nr rfl
theorem back_nil (ds : List D) (e : Env) : back [] ds e = e := nr rfl
theorem back_al (k : Nat) (xs : List D) (d : D) (ds : List D) (e : Env) : back (.al k :: xs) (d :: ds) e = back xs ds (e.set k (some d)) := nr rfl
theorem back_fz {x : D} {xs : List D} {d : D} {ds : List D} {e : Env} (h : isAl x = false) : back (x :: xs) (d :: ds) e = back xs ds e := by cases x <;> first | rfl | cases h
theorem als_nil : alsOk [] = true := nr rfl
theorem als_fz {x : D} {xs : List D} (h : isAl x = false) : alsOk (x :: xs) = alsOk xs := by cases x <;> first | rfl | cases h
theorem als_al (k : Nat) (xs : List D) : alsOk (.al k :: xs) = (!xs.any (isAlK k) && alsOk xs) := nr rfl
theorem isAl_fz {x : D} (h : isFz x = true) : isAl x = false := by cases x <;> first | rfl | cases h
theorem isAlK_fz {x : D} {k : Nat} (h : isFz x = true) : isAlK k x = false := by cases x <;> first | rfl | cases h
theorem isFz_non  : isFz D.non = true := nr rfl
theorem isAl_non  : isAl D.non = false := nr rfl
theorem isAlK_non (j : Nat)  : isAlK j D.non = false := nr rfl
theorem isFz_bl (b : Bool) : isFz (D.bl b) = true := nr rfl
theorem isAl_bl (b : Bool) : isAl (D.bl b) = false := nr rfl
theorem isAlK_bl (j : Nat) (b : Bool) : isAlK j (D.bl b) = false := nr rfl
theorem isFz_int (i : Int) : isFz (D.int i) = true := nr rfl
theorem isAl_int (i : Int) : isAl (D.int i) = false := nr rfl
theorem isAlK_int (j : Nat) (i : Int) : isAlK j (D.int i) = false := nr rfl
theorem isFz_str (s : Str) : isFz (D.str s) = true := nr rfl
theorem isAl_str (s : Str) : isAl (D.str s) = false := nr rfl
theorem isAlK_str (j : Nat) (s : Str) : isAlK j (D.str s) = false := nr rfl
theorem isFz_cst (v : V) : isFz (D.cst v) = true := nr rfl
theorem isAl_cst (v : V) : isAl (D.cst v) = false := nr rfl
theorem isAlK_cst (j : Nat) (v : V) : isAlK j (D.cst v) = false := nr rfl
theorem isFz_tup (ds : List D) : isFz (D.tup ds) = true := nr rfl
theorem isAl_tup (ds : List D) : isAl (D.tup ds) = false := nr rfl
theorem isAlK_tup (j : Nat) (ds : List D) : isAlK j (D.tup ds) = false := nr rfl
theorem isFz_lst (ds : List D) : isFz (D.lst ds) = true := nr rfl
theorem isAl_lst (ds : List D) : isAl (D.lst ds) = false := nr rfl
theorem isAlK_lst (j : Nat) (ds : List D) : isAlK j (D.lst ds) = false := nr rfl
theorem isFz_rol (ds : List D) : isFz (D.rol ds) = true := nr rfl
theorem isAl_rol (ds : List D) : isAl (D.rol ds) = false := nr rfl
theorem isAlK_rol (j : Nat) (ds : List D) : isAlK j (D.rol ds) = false := nr rfl
theorem isFz_mls (ds : List D) : isFz (D.mls ds) = false := nr rfl
theorem isAl_mls (ds : List D) : isAl (D.mls ds) = false := nr rfl
theorem isAlK_mls (j : Nat) (ds : List D) : isAlK j (D.mls ds) = false := nr rfl
theorem isFz_al (k : Nat) : isFz (D.al k) = false := nr rfl
theorem isAl_al (k : Nat) : isAl (D.al k) = true := nr rfl
theorem isAlK_al (j k : Nat) : isAlK j (D.al k) = (k == j) := nr rfl
theorem dIs_non  : dIs D.non .non = some (.bl true) := nr rfl
theorem dIsNot_non  : dIsNot D.non .non = some (.bl false) := nr rfl
theorem dIs_bl (b : Bool) : dIs (D.bl b) .non = some (.bl false) := nr rfl
theorem dIsNot_bl (b : Bool) : dIsNot (D.bl b) .non = some (.bl true) := nr rfl
theorem dIs_int (i : Int) : dIs (D.int i) .non = some (.bl false) := nr rfl
theorem dIsNot_int (i : Int) : dIsNot (D.int i) .non = some (.bl true) := nr rfl
theorem dIs_str (s : Str) : dIs (D.str s) .non = some (.bl false) := nr rfl
theorem dIsNot_str (s : Str) : dIsNot (D.str s) .non = some (.bl true) := nr rfl
theorem dIs_tup (ds : List D) : dIs (D.tup ds) .non = some (.bl false) := nr rfl
theorem dIsNot_tup (ds : List D) : dIsNot (D.tup ds) .non = some (.bl true) := nr rfl
theorem dIs_lst (ds : List D) : dIs (D.lst ds) .non = some (.bl false) := nr rfl
theorem dIsNot_lst (ds : List D) : dIsNot (D.lst ds) .non = some (.bl true) := nr rfl
theorem dIs_rol (ds : List D) : dIs (D.rol ds) .non = some (.bl false) := nr rfl
theorem dIsNot_rol (ds : List D) : dIsNot (D.rol ds) .non = some (.bl true) := nr rfl
theorem dIs_mls (ds : List D) : dIs (D.mls ds) .non = some (.bl false) := nr rfl
theorem dIsNot_mls (ds : List D) : dIsNot (D.mls ds) .non = some (.bl true) := nr rfl
theorem dIx_tup (ds : List D) (i : Int) : dIx (.tup ds) (.int i) = atI ds i := nr rfl
theorem dIx_lst (ds : List D) (i : Int) : dIx (.lst ds) (.int i) = atI ds i := nr rfl
theorem dIx_mls (ds : List D) (i : Int) : dIx (.mls ds) (.int i) = atI ds i := nr rfl
theorem dIx_rol (ds : List D) (i : Int) : dIx (.rol ds) (.int i) = atI ds i := nr rfl
theorem dLen_tup (ds : List D) : dLen [.tup ds] = some (.int ds.length) := nr rfl
theorem dLen_lst (ds : List D) : dLen [.lst ds] = some (.int ds.length) := nr rfl
theorem dLen_mls (ds : List D) : dLen [.mls ds] = some (.int ds.length) := nr rfl
theorem dLen_rol (ds : List D) : dLen [.rol ds] = some (.int ds.length) := nr rfl
theorem eqD_int (i j : Int) : dEq (.int i) (.int j) = some (.bl (decide (i = j))) := nr rfl
theorem eqD_str (i j : Str) : dEq (.str i) (.str j) = some (.bl (decide (i = j))) := nr rfl
theorem eqD_bl (i j : Bool) : dEq (.bl i) (.bl j) = some (.bl (decide (i = j))) := nr rfl
theorem eqD_non : dEq .non .non = some (.bl true) := nr rfl
theorem neD_int (i j : Int) : dNe (.int i) (.int j) = some (.bl (!decide (i = j))) := nr rfl
theorem neD_str (i j : Str) : dNe (.str i) (.str j) = some (.bl (!decide (i = j))) := nr rfl
theorem neD_bl (i j : Bool) : dNe (.bl i) (.bl j) = some (.bl (!decide (i = j))) := nr rfl
theorem neD_non : dNe .non .non = some (.bl false) := nr rfl
theorem atI_l0 {α : Type} (x0 : α) (l : List α) : atI (x0 :: l) 0 = some x0 := atI_nat (j := 0) rfl
theorem atI_l1 {α : Type} (x0 x1 : α) (l : List α) : atI (x0 :: x1 :: l) 1 = some x1 := atI_nat (j := 1) rfl
theorem atI_l2 {α : Type} (x0 x1 x2 : α) (l : List α) : atI (x0 :: x1 :: x2 :: l) 2 = some x2 := atI_nat (j := 2) rfl
theorem atI_l3 {α : Type} (x0 x1 x2 x3 : α) (l : List α) : atI (x0 :: x1 :: x2 :: x3 :: l) 3 = some x3 := atI_nat (j := 3) rfl
theorem atI_l4 {α : Type} (x0 x1 x2 x3 x4 : α) (l : List α) : atI (x0 :: x1 :: x2 :: x3 :: x4 :: l) 4 = some x4 := atI_nat (j := 4) rfl
theorem atI_l5 {α : Type} (x0 x1 x2 x3 x4 x5 : α) (l : List α) : atI (x0 :: x1 :: x2 :: x3 :: x4 :: x5 :: l) 5 = some x5 := atI_nat (j := 5) rfl
theorem atI_l6 {α : Type} (x0 x1 x2 x3 x4 x5 x6 : α) (l : List α) : atI (x0 :: x1 :: x2 :: x3 :: x4 :: x5 :: x6 :: l) 6 = some x6 := atI_nat (j := 6) rfl
theorem atI_l7 {α : Type} (x0 x1 x2 x3 x4 x5 x6 x7 : α) (l : List α) : atI (x0 :: x1 :: x2 :: x3 :: x4 :: x5 :: x6 :: x7 :: l) 7 = some x7 := atI_nat (j := 7) rfl
theorem atI_m1 {α : Type} (x0 : α) : atI [x0] (-1) = some x0 := nr rfl
theorem atI_m2 {α : Type} (x0 x1 : α) : atI [x0, x1] (-1) = some x1 := nr rfl
theorem atI_m3 {α : Type} (x0 x1 x2 : α) : atI [x0, x1, x2] (-1) = some x2 := nr rfl
theorem atI_m4 {α : Type} (x0 x1 x2 x3 : α) : atI [x0, x1, x2, x3] (-1) = some x3 := nr rfl
theorem atI_m5 {α : Type} (x0 x1 x2 x3 x4 : α) : atI [x0, x1, x2, x3, x4] (-1) = some x4 := nr rfl
/-! texts -/
theorem st_inj (a b : List Nat) : (st a = st b) = (a = b) := by
  apply propext
  constructor
  · intro h
    have := congrArg (fun s : Str => s.cps.toList) h
    simpa [st] using this
  · rintro rfl; rfl
theorem st_eta (s : Str) : s = st s.cps.toList := by
  obtain ⟨a⟩ := s
  simp [st]
theorem st_cps (a : List Nat) : (st a).cps.toList = a := by simp [st]
theorem st_len (a : List Nat) : (st a).length = a.length := by
  show (st a).cps.size = a.length
  simp [st]
theorem st_app (a b : List Nat) : st a ++ st b = st (a ++ b) := by
  rw [st_eta (st a ++ st b)]
  congr 1
  show ((st a).cps ++ (st b).cps).toList = a ++ b
  simp [st]
theorem dAdd_st (a b : List Nat) : dAdd (.str (st a)) (.str (st b)) = if a.length + b.length ≤ 16777216 then some (.str (st (a ++ b))) else none := by
  simp only [dAdd, st_len, st_app]
theorem dAdd_int (i j : Int) : dAdd (.int i) (.int j) = some (.int (i + j)) := nr rfl
theorem dAdd_tup (a b : List D) : dAdd (.tup a) (.tup b) = if a.length + b.length ≤ 16777216 then some (.tup (a ++ b)) else none := nr rfl
theorem dAdd_ll (a b : List D) : dAdd (.lst a) (.lst b) = if a.length + b.length ≤ 16777216 then some (.mls (a ++ b)) else none := nr rfl
theorem dAdd_lm (a b : List D) : dAdd (.lst a) (.mls b) = if a.length + b.length ≤ 16777216 then some (.mls (a ++ b)) else none := nr rfl
theorem dAdd_ml (a b : List D) : dAdd (.mls a) (.lst b) = if a.length + b.length ≤ 16777216 then some (.mls (a ++ b)) else none := nr rfl
theorem dAdd_mm (a b : List D) : dAdd (.mls a) (.mls b) = if a.length + b.length ≤ 16777216 then some (.mls (a ++ b)) else none := nr rfl
theorem dIx_st (a : List Nat) (i : Int) : dIx (.str (st a)) (.int i) = if a.length ≤ 16777216 then (match atI a i with | some c => some (.str (st [c])) | none => none) else none := by
  simp only [dIx, st_len, st_cps]
  rfl
def cutN (xs : List Nat) (lo hi : Option Int) : List Nat := (xs.drop (HT.sIx xs.length 0 lo)).take (HT.sIx xs.length xs.length hi - HT.sIx xs.length 0 lo)
theorem dSl_st (a : List Nat) (lo hi : Option Int) : dSl (.str (st a)) lo hi = if a.length ≤ 16777216 then some (.str (st (cutN a lo hi))) else none := by
  have : cutS (st a) lo hi = st (cutN a lo hi) := by
    unfold cutS
    simp only [st_len, st_cps]
    rfl
  simp only [dSl, st_len, this]
theorem dSl_tup (ds : List D) (lo hi : Option Int) : dSl (.tup ds) lo hi = some (.tup (cutD ds lo hi)) := nr rfl
theorem dSl_lst (ds : List D) (lo hi : Option Int) : dSl (.lst ds) lo hi = some (.mls (cutD ds lo hi)) := nr rfl
theorem dSl_mls (ds : List D) (lo hi : Option Int) : dSl (.mls ds) lo hi = some (.mls (cutD ds lo hi)) := nr rfl
theorem dLen_st (a : List Nat) : dLen [.str (st a)] = if a.length ≤ 16777216 then some (.int a.length) else none := by
  simp only [dLen, st_len]
theorem tru_st (a : List Nat) : truD (.str (st a)) = if a.length ≤ 16777216 then some ((a.length : Int) != 0) else none := by
  simp only [truD, st_len]
theorem tru_non : truD .non = some false := nr rfl
theorem tru_bl (b : Bool) : truD (.bl b) = some b := nr rfl
theorem tru_int (i : Int) : truD (.int i) = some (i != 0) := nr rfl
theorem tru_tup (ds : List D) : truD (.tup ds) = some (!ds.isEmpty) := nr rfl
theorem tru_lst (ds : List D) : truD (.lst ds) = some (!ds.isEmpty) := nr rfl
theorem tru_mls (ds : List D) : truD (.mls ds) = some (!ds.isEmpty) := nr rfl
theorem dIn_st (c : Nat) (z : List Nat) : dIn (.str (st [c])) (.str (st z)) = some (.bl (decide (c ∈ z))) := by
  simp only [dIn, inD, st_cps]; rfl
theorem dNotIn_st (c : Nat) (z : List Nat) : dNotIn (.str (st [c])) (.str (st z)) = some (.bl (!decide (c ∈ z))) := by
  simp only [dNotIn, inD, st_cps]; rfl
/-- x among flat items -/
def amongD (x : D) : List D → Bool
  | [] => false
  | d :: ds => eqV (toV d) (toV x) || amongD x ds
theorem among_any (x : D) : ∀ ds : List D, inV (toV x) (ds.map toV) = amongD x ds
  | [] => rfl
  | d :: ds => by
    have := among_any x ds
    unfold inV at this ⊢
    simp only [List.map_cons, List.any_cons, amongD, this]
theorem inD_sq {x y : D} {ds : List D} (hx : flatD x = true) (hs : seqD y = some ds) (hf : ds.all flatD = true) : inD x y = some (amongD x ds) := by
  have c : flatD x = true ∧ ds.all flatD = true := ⟨hx, hf⟩
  cases y <;> first | (cases hs; simp only [inD, seqD, c, and_self, if_true, among_any]) | cases hs
theorem dIn_sq {x y : D} {ds : List D} (hx : flatD x = true) (hs : seqD y = some ds) (hf : ds.all flatD = true) : dIn x y = some (.bl (amongD x ds)) := by
  unfold dIn; rw [inD_sq hx hs hf]; rfl
theorem dNotIn_sq {x y : D} {ds : List D} (hx : flatD x = true) (hs : seqD y = some ds) (hf : ds.all flatD = true) : dNotIn x y = some (.bl (!amongD x ds)) := by
  unfold dNotIn; rw [inD_sq hx hs hf]; rfl
theorem dIn_lst {x : D} {ds : List D} (hx : flatD x = true) (hf : ds.all flatD = true) : dIn x (.lst ds) = some (.bl (amongD x ds)) := dIn_sq hx rfl hf
theorem dIn_mls {x : D} {ds : List D} (hx : flatD x = true) (hf : ds.all flatD = true) : dIn x (.mls ds) = some (.bl (amongD x ds)) := dIn_sq hx rfl hf
theorem dIn_tup {x : D} {ds : List D} (hx : flatD x = true) (hf : ds.all flatD = true) : dIn x (.tup ds) = some (.bl (amongD x ds)) := dIn_sq hx rfl hf
theorem dNotIn_lst {x : D} {ds : List D} (hx : flatD x = true) (hf : ds.all flatD = true) : dNotIn x (.lst ds) = some (.bl (!amongD x ds)) := dNotIn_sq hx rfl hf
theorem dNotIn_mls {x : D} {ds : List D} (hx : flatD x = true) (hf : ds.all flatD = true) : dNotIn x (.mls ds) = some (.bl (!amongD x ds)) := dNotIn_sq hx rfl hf
theorem dNotIn_tup {x : D} {ds : List D} (hx : flatD x = true) (hf : ds.all flatD = true) : dNotIn x (.tup ds) = some (.bl (!amongD x ds)) := dNotIn_sq hx rfl hf
theorem among_nil (x : D) : amongD x [] = false := nr rfl
theorem among_ss (a b : Str) (ds : List D) : amongD (.str a) (.str b :: ds) = (decide (b = a) || amongD (.str a) ds) := by
  show ((b == a) || _) = _
  have : (b == a) = decide (b = a) := by rw [Bool.eq_iff_iff]; simp
  rw [this]
theorem among_ii (a b : Int) (ds : List D) : amongD (.int a) (.int b :: ds) = (decide (b = a) || amongD (.int a) ds) := by
  show ((b == a) || _) = _
  have : (b == a) = decide (b = a) := by rw [Bool.eq_iff_iff]; simp
  rw [this]
theorem flat_int (i : Int) : flatD (.int i) = true := nr rfl
theorem flat_str (i : Str) : flatD (.str i) = true := nr rfl
theorem flat_bl (i : Bool) : flatD (.bl i) = true := nr rfl
theorem flat_non : flatD .non = true := nr rfl
theorem flat_strs (l : List Str) : (l.map D.str).all flatD = true := by rw [List.all_eq_true]; intro d hd; obtain ⟨s, _, rfl⟩ := List.mem_map.mp hd; rfl
theorem flat_ints (l : List Int) : (l.map D.int).all flatD = true := by rw [List.all_eq_true]; intro d hd; obtain ⟨s, _, rfl⟩ := List.mem_map.mp hd; rfl
theorem dIsi_of {x : D} {U t : String} {b : Bool} (h1 : tyD x = some t) (h2 : kitB t U = some b) : dIsi [x, .cst (.ty U)] = some (.bl b) := by
  simp only [dIsi, h1, h2]
theorem isi_non_bool  : dIsi [D.non, .cst (.ty "bool")] = some (.bl false) := dIsi_of rfl (by decide +kernel)
theorem isi_bl_bool (b : Bool) : dIsi [(D.bl b), .cst (.ty "bool")] = some (.bl true) := dIsi_of rfl (by decide +kernel)
theorem isi_int_bool (i : Int) : dIsi [(D.int i), .cst (.ty "bool")] = some (.bl false) := dIsi_of rfl (by decide +kernel)
theorem isi_str_bool (s : Str) : dIsi [(D.str s), .cst (.ty "bool")] = some (.bl false) := dIsi_of rfl (by decide +kernel)
theorem isi_tup_bool (ds : List D) : dIsi [(D.tup ds), .cst (.ty "bool")] = some (.bl false) := dIsi_of rfl (by decide +kernel)
theorem isi_lst_bool (ds : List D) : dIsi [(D.lst ds), .cst (.ty "bool")] = some (.bl false) := dIsi_of rfl (by decide +kernel)
theorem isi_mls_bool (ds : List D) : dIsi [(D.mls ds), .cst (.ty "bool")] = some (.bl false) := dIsi_of rfl (by decide +kernel)
theorem isi_non_int  : dIsi [D.non, .cst (.ty "int")] = some (.bl false) := dIsi_of rfl (by decide +kernel)
theorem isi_bl_int (b : Bool) : dIsi [(D.bl b), .cst (.ty "int")] = some (.bl true) := dIsi_of rfl (by decide +kernel)
theorem isi_int_int (i : Int) : dIsi [(D.int i), .cst (.ty "int")] = some (.bl true) := dIsi_of rfl (by decide +kernel)
theorem isi_str_int (s : Str) : dIsi [(D.str s), .cst (.ty "int")] = some (.bl false) := dIsi_of rfl (by decide +kernel)
theorem isi_tup_int (ds : List D) : dIsi [(D.tup ds), .cst (.ty "int")] = some (.bl false) := dIsi_of rfl (by decide +kernel)
theorem isi_lst_int (ds : List D) : dIsi [(D.lst ds), .cst (.ty "int")] = some (.bl false) := dIsi_of rfl (by decide +kernel)
theorem isi_mls_int (ds : List D) : dIsi [(D.mls ds), .cst (.ty "int")] = some (.bl false) := dIsi_of rfl (by decide +kernel)
theorem isi_non_str  : dIsi [D.non, .cst (.ty "str")] = some (.bl false) := dIsi_of rfl (by decide +kernel)
theorem isi_bl_str (b : Bool) : dIsi [(D.bl b), .cst (.ty "str")] = some (.bl false) := dIsi_of rfl (by decide +kernel)
theorem isi_int_str (i : Int) : dIsi [(D.int i), .cst (.ty "str")] = some (.bl false) := dIsi_of rfl (by decide +kernel)
theorem isi_str_str (s : Str) : dIsi [(D.str s), .cst (.ty "str")] = some (.bl true) := dIsi_of rfl (by decide +kernel)
theorem isi_tup_str (ds : List D) : dIsi [(D.tup ds), .cst (.ty "str")] = some (.bl false) := dIsi_of rfl (by decide +kernel)
theorem isi_lst_str (ds : List D) : dIsi [(D.lst ds), .cst (.ty "str")] = some (.bl false) := dIsi_of rfl (by decide +kernel)
theorem isi_mls_str (ds : List D) : dIsi [(D.mls ds), .cst (.ty "str")] = some (.bl false) := dIsi_of rfl (by decide +kernel)
theorem isi_non_list  : dIsi [D.non, .cst (.ty "list")] = some (.bl false) := dIsi_of rfl (by decide +kernel)
theorem isi_bl_list (b : Bool) : dIsi [(D.bl b), .cst (.ty "list")] = some (.bl false) := dIsi_of rfl (by decide +kernel)
theorem isi_int_list (i : Int) : dIsi [(D.int i), .cst (.ty "list")] = some (.bl false) := dIsi_of rfl (by decide +kernel)
theorem isi_str_list (s : Str) : dIsi [(D.str s), .cst (.ty "list")] = some (.bl false) := dIsi_of rfl (by decide +kernel)
theorem isi_tup_list (ds : List D) : dIsi [(D.tup ds), .cst (.ty "list")] = some (.bl false) := dIsi_of rfl (by decide +kernel)
theorem isi_lst_list (ds : List D) : dIsi [(D.lst ds), .cst (.ty "list")] = some (.bl true) := dIsi_of rfl (by decide +kernel)
theorem isi_mls_list (ds : List D) : dIsi [(D.mls ds), .cst (.ty "list")] = some (.bl true) := dIsi_of rfl (by decide +kernel)
theorem isi_non_tuple  : dIsi [D.non, .cst (.ty "tuple")] = some (.bl false) := dIsi_of rfl (by decide +kernel)
theorem isi_bl_tuple (b : Bool) : dIsi [(D.bl b), .cst (.ty "tuple")] = some (.bl false) := dIsi_of rfl (by decide +kernel)
theorem isi_int_tuple (i : Int) : dIsi [(D.int i), .cst (.ty "tuple")] = some (.bl false) := dIsi_of rfl (by decide +kernel)
theorem isi_str_tuple (s : Str) : dIsi [(D.str s), .cst (.ty "tuple")] = some (.bl false) := dIsi_of rfl (by decide +kernel)
theorem isi_tup_tuple (ds : List D) : dIsi [(D.tup ds), .cst (.ty "tuple")] = some (.bl true) := dIsi_of rfl (by decide +kernel)
theorem isi_lst_tuple (ds : List D) : dIsi [(D.lst ds), .cst (.ty "tuple")] = some (.bl false) := dIsi_of rfl (by decide +kernel)
theorem isi_mls_tuple (ds : List D) : dIsi [(D.mls ds), .cst (.ty "tuple")] = some (.bl false) := dIsi_of rfl (by decide +kernel)
end Q


namespace Q
open PySem L2
/-! ### loops by invariants -/
/-- no turn leaves the loop -/
theorem loop_inv {g : MG} {b : MS} (I : Nat → Env → Prop) : ∀ (xs : List D) (n : Nat) (e : Env), I n e → (∀ (k : Nat) (x : D) e, xs[k]? = some x → I (n + k) e → ∃ e1 f e2, g x e = some e1 ∧ b e1 = some (.ok f e2) ∧ (f = .nx ∨ f = .ct) ∧ I (n + k + 1) e2) →
    ∃ e', mLoop g b xs e = some (.ok .nx e') ∧ I (n + xs.length) e'
  | [], n, e, h0, _ => ⟨e, rfl, h0⟩
  | x :: xs, n, e, h0, hs => by
    obtain ⟨e1, f, e2, h1, h2, h3, h4⟩ := hs 0 x e rfl h0
    obtain ⟨e', h5, h6⟩ := loop_inv I xs (n + 1) e2 h4 fun k y e hk hI => by
      have := hs (k + 1) y e (by simpa using hk) (by rw [show n + (k + 1) = n + 1 + k by omega]; exact hI)
      rw [show n + (k + 1) = n + 1 + k by omega] at this
      exact this
    refine ⟨e', ?_, by rw [List.length_cons, show n + (xs.length + 1) = n + 1 + xs.length by omega]; exact h6⟩
    rw [loop_cons, h1, kLp0_ok, h2]
    rcases h3 with rfl | rfl
    · exact h5
    · exact h5
/-- a turn may return; P tells what then holds -/
theorem loop_ret {g : MG} {b : MS} (I : Nat → Env → Prop) (P : D → Env → Prop) : ∀ (xs : List D) (n : Nat) (e : Env), I n e → (∀ (k : Nat) (x : D) e, xs[k]? = some x → I (n + k) e → ∃ e1 f e2, g x e = some e1 ∧ b e1 = some (.ok f e2) ∧ (((f = .nx ∨ f = .ct) ∧ I (n + k + 1) e2) ∨ ∃ d, f = .rt d ∧ P d e2)) →
    (∃ e', mLoop g b xs e = some (.ok .nx e') ∧ I (n + xs.length) e') ∨ ∃ d e', mLoop g b xs e = some (.ok (.rt d) e') ∧ P d e'
  | [], n, e, h0, _ => .inl ⟨e, rfl, h0⟩
  | x :: xs, n, e, h0, hs => by
    obtain ⟨e1, f, e2, h1, h2, h3⟩ := hs 0 x e rfl h0
    rcases h3 with ⟨h3, h4⟩ | ⟨d, rfl, hp⟩
    · have := loop_ret I P xs (n + 1) e2 h4 fun k y e hk hI => by
        have := hs (k + 1) y e (by simpa using hk) (by rw [show n + (k + 1) = n + 1 + k by omega]; exact hI)
        rw [show n + (k + 1) = n + 1 + k by omega] at this
        exact this
      have e0 : mLoop g b (x :: xs) e = mLoop g b xs e2 := by
        rw [loop_cons, h1, kLp0_ok, h2]
        rcases h3 with rfl | rfl <;> rfl
      rw [e0]
      rcases this with ⟨e', h5, h6⟩ | h
      · exact .inl ⟨e', h5, by rw [List.length_cons, show n + (xs.length + 1) = n + 1 + xs.length by omega]; exact h6⟩
      · exact .inr h
    · exact .inr ⟨d, e2, by rw [loop_cons, h1, kLp0_ok, h2]; rfl, hp⟩
theorem rngD_length (lo : Int) (n : Nat) : (rngD lo n).length = n := by simp [rngD]
/-- a comprehension by what it makes of an item -/
theorem cl_inv {g : MG} {t : MT} {el : ME} {own : List Nat} (I : Nat → List D → Env → Prop) : ∀ (xs : List D) (n : Nat) (acc : List D) (e : Env), I n acc e → (∀ (k : Nat) (x : D) acc e, xs[k]? = some x → I (n + k) acc e → ∃ e1 c e2, g x e = some e1 ∧ t e1 = some (.ok c e2) ∧
      ((c = false ∧ I (n + k + 1) acc (wipeE e2 own)) ∨ (c = true ∧ ∃ y e3 y' e4, el e2 = some (.ok y e3) ∧ tkf y e3 = some (y', e4) ∧ acc.length < 16777216 ∧ I (n + k + 1) (acc ++ [y']) (wipeE e4 own)))) →
    ∃ ys e', mCl g t el own xs acc e = some (ys, e') ∧ I (n + xs.length) ys e'
  | [], n, acc, e, h0, _ => ⟨acc, e, rfl, h0⟩
  | x :: xs, n, acc, e, h0, hs => by
    obtain ⟨e1, c, e2, h1, h2, h3⟩ := hs 0 x acc e rfl h0
    have st : ∀ acc' e', I (n + 1) acc' e' → ∃ ys e'', mCl g t el own xs acc' e' = some (ys, e'') ∧ I (n + (x :: xs).length) ys e'' := fun acc' e' hI => by
      obtain ⟨ys, e'', h5, h6⟩ := cl_inv I xs (n + 1) acc' e' hI fun k y acc e hk hI => by
        have := hs (k + 1) y acc e (by simpa using hk) (by rw [show n + (k + 1) = n + 1 + k by omega]; exact hI)
        rw [show n + (k + 1) = n + 1 + k by omega] at this
        exact this
      exact ⟨ys, e'', h5, by rw [List.length_cons, show n + (xs.length + 1) = n + 1 + xs.length by omega]; exact h6⟩
    rcases h3 with ⟨rfl, hI⟩ | ⟨rfl, y, e3, y', e4, h4, h5, h6, hI⟩
    · obtain ⟨ys, e'', h7, h8⟩ := st _ _ hI
      exact ⟨ys, e'', by rw [cl_cons, h1, kQ_ok, h2, kQ2_f]; exact h7, h8⟩
    · obtain ⟨ys, e'', h7, h8⟩ := st _ _ hI
      exact ⟨ys, e'', by rw [cl_cons, h1, kQ_ok, h2, kQ2_t, h4, kQ3_ok, h5, kQ4_ok h6]; exact h7, h8⟩
/-- a comprehension that filters and maps, without effect -/
theorem cl_map {g : MG} {t : MT} {el : ME} {own : List Nat} {e : Env} (f : D → Bool) (h : D → D) (xs : List D) (hl : xs.length < 16777216) (hs : ∀ x ∈ xs, ∃ e1 e2, g x e = some e1 ∧ t e1 = some (.ok (f x) e2) ∧ ((f x = false ∧ wipeE e2 own = e) ∨ (f x = true ∧ ∃ y e3 e4, el e2 = some (.ok y e3) ∧ tkf y e3 = some (h x, e4) ∧ wipeE e4 own = e))) :
    mCl g t el own xs [] e = some ((xs.filter f).map h, e) := by
  have aux : ∀ (xs acc : List D), acc.length + xs.length < 16777216 → (∀ x ∈ xs, ∃ e1 e2, g x e = some e1 ∧ t e1 = some (.ok (f x) e2) ∧ ((f x = false ∧ wipeE e2 own = e) ∨ (f x = true ∧ ∃ y e3 e4, el e2 = some (.ok y e3) ∧ tkf y e3 = some (h x, e4) ∧ wipeE e4 own = e))) → mCl g t el own xs acc e = some (acc ++ (xs.filter f).map h, e) := by
    intro xs
    induction xs with
    | nil => intro acc _ _; simp [cl_nil]
    | cons x xs ih =>
      intro acc hl hs
      rw [List.length_cons] at hl
      obtain ⟨e1, e2, h1, h2, h3⟩ := hs x (by simp)
      have hs' : ∀ x ∈ xs, _ := fun x hx => hs x (List.mem_cons_of_mem _ hx)
      rcases h3 with ⟨hf, h3⟩ | ⟨hf, y, e3, e4, h3, h4, h5⟩
      · rw [cl_cons, h1, kQ_ok, h2, hf, kQ2_f, h3, ih acc (by omega) hs', List.filter_cons, hf]; simp
      · rw [cl_cons, h1, kQ_ok, h2, hf, kQ2_t, h3, kQ3_ok, h4, kQ4_ok (by omega), h5, ih _ (by rw [List.length_append]; simp; omega) hs', List.filter_cons, hf]; simp
  simpa using aux xs [] (by simpa using hl) hs
theorem cutN_to {l : List Nat} {i : Int} (h : 0 ≤ i) : cutN l none (some i) = l.take i.toNat := by
  obtain ⟨n, rfl⟩ : ∃ n : Nat, i = (n : Int) := ⟨i.toNat, by omega⟩
  unfold cutN
  rw [HT.sIx_nat, HT.sIx_none, List.drop_zero, Int.toNat_natCast, Nat.sub_zero]
  apply List.ext_getElem?
  intro j
  rw [List.getElem?_take, List.getElem?_take]
  by_cases hj : j < l.length
  · by_cases hn : j < n
    · rw [if_pos (by omega), if_pos hn]
    · rw [if_neg (by omega), if_neg hn]
  · rw [List.getElem?_eq_none (by omega)]; simp
theorem cutN_from {l : List Nat} {i : Int} (h : 0 ≤ i) : cutN l (some i) none = l.drop i.toNat := by
  obtain ⟨n, rfl⟩ : ∃ n : Nat, i = (n : Int) := ⟨i.toNat, by omega⟩
  unfold cutN
  rw [HT.sIx_nat, HT.sIx_none, Int.toNat_natCast]
  by_cases hn : n ≤ l.length
  · rw [Nat.min_eq_left hn]
    apply List.take_of_length_le
    rw [List.length_drop]
    exact Nat.le_refl _
  · rw [Nat.min_eq_right (by omega), Nat.sub_self, List.take_zero, List.drop_of_length_le (by omega)]
theorem cutD_to {l : List D} {i : Int} (h : 0 ≤ i) : cutD l none (some i) = l.take i.toNat := by
  obtain ⟨n, rfl⟩ : ∃ n : Nat, i = (n : Int) := ⟨i.toNat, by omega⟩
  unfold cutD
  rw [HT.sIx_nat, HT.sIx_none, List.drop_zero, Int.toNat_natCast, Nat.sub_zero]
  apply List.ext_getElem?
  intro j
  rw [List.getElem?_take, List.getElem?_take]
  by_cases hj : j < l.length
  · by_cases hn : j < n
    · rw [if_pos (by omega), if_pos hn]
    · rw [if_neg (by omega), if_neg hn]
  · rw [List.getElem?_eq_none (by omega)]; simp
theorem cutD_from {l : List D} {i : Int} (h : 0 ≤ i) : cutD l (some i) none = l.drop i.toNat := by
  obtain ⟨n, rfl⟩ : ∃ n : Nat, i = (n : Int) := ⟨i.toNat, by omega⟩
  unfold cutD
  rw [HT.sIx_nat, HT.sIx_none, Int.toNat_natCast]
  by_cases hn : n ≤ l.length
  · rw [Nat.min_eq_left hn]
    apply List.take_of_length_le
    rw [List.length_drop]
    exact Nat.le_refl _
  · rw [Nat.min_eq_right (by omega), Nat.sub_self, List.take_zero, List.drop_of_length_le (by omega)]
end Q


namespace Q
open PySem L2
/-! ### reckoning: raise, try, an error's fields, written dicts -/
def kRaise (r : Option (Rs (List D))) (c : Nat) (fs : List Str) : Option (Rs Fl) := bnd r fun xs e1 => match tkfA xs e1 with
  | some (ys, e2) => if ys.length = fs.length then some (.ex ⟨c, fs.reverse, ys.reverse⟩ e2) else none
  | none => none
def kRaise2 (r : Option (List D × Env)) (c : Nat) (fs : List Str) : Option (Rs Fl) := match r with
  | some (ys, e2) => if ys.length = fs.length then some (.ex ⟨c, fs.reverse, ys.reverse⟩ e2) else none
  | none => none
theorem ev_raise (c : Nat) (fs : List Str) (a : MA) (e : Env) : mRaise c fs a e = kRaise (a e) c fs := nr rfl
theorem kRaise_ok (xs : List D) (e : Env) (c : Nat) (fs : List Str) : kRaise (some (.ok xs e)) c fs = kRaise2 (tkfA xs e) c fs := nr rfl
theorem kRaise_ex (x : Xc) (e : Env) (c : Nat) (fs : List Str) : kRaise (some (.ex x e)) c fs = some (.ex x e) := nr rfl
theorem kRaise2_1 (y : D) (f : Str) (e : Env) (c : Nat) : kRaise2 (some ([y], e)) c [f] = some (.ex ⟨c, [f], [y]⟩ e) := nr rfl
theorem kRaise2_2 (y z : D) (f g : Str) (e : Env) (c : Nat) : kRaise2 (some ([y, z], e)) c [f, g] = some (.ex ⟨c, [g, f], [z, y]⟩ e) := nr rfl
def kTry3 (r : Option (Rs Fl)) (i : Nat) : Option (Rs Fl) := match r with
  | some (.ok f e2) => some (.ok f (e2.set i none))
  | _ => none
def kTry2 (r : Option Bool) (x : Xc) (e1 : Env) (i : Nat) (su : Xc → MS) : Option (Rs Fl) := match r with
  | some true => if x.fs.isEmpty = true ∨ e1.length ≤ i then none else kTry3 (su x (e1.set i none)) i
  | some false => some (.ex x e1)
  | none => none
def kTry (r : Option (Rs Fl)) (sub : Nat → Option Bool) (i : Nat) (su : Xc → MS) : Option (Rs Fl) := match r with
  | some (.ex x e1) => kTry2 (sub x.cls) x e1 i su
  | r => r
theorem ev_try (sub : Nat → Option Bool) (i : Nat) (b : MS) (su : Xc → MS) (e : Env) : mTry sub i b su e = kTry (b e) sub i su := by
  unfold mTry kTry
  cases b e with
  | none => rfl
  | some r => cases r with
    | ok f e1 => rfl
    | ex x e1 => rfl
theorem kTry_ok (f : Fl) (e : Env) (sub : Nat → Option Bool) (i : Nat) (su : Xc → MS) : kTry (some (.ok f e)) sub i su = some (.ok f e) := nr rfl
theorem kTry_ex (x : Xc) (e : Env) (sub : Nat → Option Bool) (i : Nat) (su : Xc → MS) : kTry (some (.ex x e)) sub i su = kTry2 (sub x.cls) x e i su := nr rfl
theorem kTry2_t {x : Xc} {e : Env} {i : Nat} {su : Xc → MS} (h1 : x.fs.isEmpty = false) (h2 : i < e.length) : kTry2 (some true) x e i su = kTry3 (su x (e.set i none)) i := by
  unfold kTry2
  rw [if_neg]
  rintro (h | h)
  · rw [h1] at h; cases h
  · omega
theorem kTry2_f (x : Xc) (e : Env) (i : Nat) (su : Xc → MS) : kTry2 (some false) x e i su = some (.ex x e) := nr rfl
theorem kTry3_ok (f : Fl) (e : Env) (i : Nat) : kTry3 (some (.ok f e)) i = some (.ok f (e.set i none)) := nr rfl
def kXf (b : Bool) (r : Option D) (e : Env) : Option (Rs D) := if b = true then (match r with | some d => some (.ok d e) | none => none) else none
theorem ev_xf (cs : List Nat) (f : Str) (x : Xc) (e : Env) : mXf cs f x e = kXf (cs.contains x.cls) (findD x.fs x.ds f) e := nr rfl
theorem kXf_ok (d : D) (e : Env) : kXf true (some d) e = some (.ok d e) := nr rfl
def kIsX (r : Option Bool) (e : Env) : Option (Rs D) := match r with | some b => some (.ok (.bl b) e) | none => none
theorem ev_isx (tab : Nat → Option Bool) (x : Xc) (e : Env) : mIsX tab x e = kIsX (tab x.cls) e := nr rfl
theorem kIsX_ok (b : Bool) (e : Env) : kIsX (some b) e = some (.ok (.bl b) e) := nr rfl
theorem findD_hit (k : Str) (ks : List Str) (d : D) (ds : List D) : findD (k :: ks) (d :: ds) k = some d := by simp [findD]
theorem dKIn_str (ks : List Str) (z : Str) : dKIn ks (.str z) = some (.bl (hasK ks z)) := nr rfl
theorem dKNot_str (ks : List Str) (z : Str) : dKNot ks (.str z) = some (.bl (!hasK ks z)) := nr rfl
theorem dKIx_str (ks : List Str) (ds : List D) (z : Str) : dKIx ks ds (.str z) = findD ks ds z := nr rfl
end Q


namespace Q
open PySem L2
/-! ### a text walked sign by sign -/
def signsD (x : Str) : List D := x.cps.toList.map fun c => .str ⟨#[c]⟩
def mStrI (a : ME) : MI := fun e => bnd (a e) fun x e1 => match res e1 x with
  | some (.str z) => some (.ok (signsD z) e1)
  | _ => none
theorem yd_str {K : KC} {x : Str} : Yd K (Its x) [] (signsD x) := by
  intro ps H _ _ i
  refine ⟨fun d hd => ?_, fun hi => by
    have : x.cps.size ≤ i := by simpa [signsD] using hi
    exact this⟩
  unfold signsD at hd
  rw [List.getElem?_map] at hd
  cases e : x.cps.toList[i]? with
  | none => rw [e] at hd; cases hd
  | some c =>
    rw [e] at hd
    cases hd
    have hi : i < x.cps.toList.length := (List.getElem?_eq_some_iff.mp e).1
    rw [Array.length_toList] at hi
    refine ⟨hi, fun v H' y => ?_⟩
    obtain ⟨rfl, c', hc, rfl⟩ := y
    rw [Array.getElem?_toList] at e
    rw [e] at hc; cases hc
    exact ⟨.refl, .str _⟩
section
variable {C : Cn} {te ta tb tc : TE} {ma mb mc : ME} {tt tu : TT} {mt mu : MT} {tr : TA} {mr : MA} {t u : TS} {ms mv : MS}
theorem si_str (ha : SE C ta ma) : SI C (iStr ta) (mStrI ma) := by
  intro B σ0 σ H env ts R z hm Q hq
  rcases bnd_inv hm with ⟨x, e, h1, rfl⟩ | ⟨x, e1, h1, h2⟩
  · exact ha B σ0 σ H env ts R _ h1 _ hq
  · refine ha B σ0 σ H env ts R _ h1 _ fun v H1 ⟨S, g⟩ => ?_
    split at h2
    · rename_i z hz
      cases h2
      have px : Peek C.K (pset B S) H1 v (.str z) := g.look (j := ts.length) (v := v) (d := x) (by simp) hz
      have R1 : Rep C B σ0 H1 σ e1 ts := Rep.pop (ts1 := [(v, x)]) ⟨S, g⟩
      exact ⟨z, px.str, hq _ _ [] yd_str (by simp) (by simpa using R1)⟩
    · cases h2
/-! ### text methods -/
def rLoS : V → List V → Hp → VK → Prop := fun x xs H Q => ∃ a, x = .str a ∧ xs = [] ∧ a.length ≤ 5592405 ∧ Q (.str (Txt.lower a)) H
def dLower : D → Option D | .str z => if z.length ≤ 5592405 then some (.str (Txt.lower z)) else none | _ => none
theorem p_lower {K : KC} : P1 K (fun x H Q => (∃ a, x = .str a) ∧ rLoS x [] H Q) dLower := by
  intro ps H x d e Q ht px hf hq
  unfold dLower at hf
  split at hf
  · rename_i z
    split at hf
    · rename_i hz
      cases hf
      exact ⟨⟨z, px.str⟩, z, px.str, rfl, hz, hq _ _ (Post.dt (.str _))⟩
    · cases hf
  · cases hf
def strsD : List D → Option (List Str)
  | [] => some []
  | .str x :: ds => (match strsD ds with | some ys => some (x :: ys) | none => none)
  | _ => none
theorem strsD_eq : ∀ {ds : List D} {ys : List Str}, strsD ds = some ys → ds = ys.map D.str
  | [], ys, h => by cases h; rfl
  | d :: ds, ys, h => by
    unfold strsD at h
    split at h
    · rename_i h0; cases h0
    · rename_i x ds' h0
      cases h0
      split at h
      · rename_i zs hz
        cases h
        rw [strsD_eq hz]; rfl
      · cases h
    · cases h
theorem DtA.strs_eq {K : KC} {ps : Addr → Prop} {H : Hp} : ∀ {xs : List V} {ns : List Str}, DtA K ps H xs (ns.map D.str) → xs = ns.map V.str
  | [], [], _ => rfl
  | [], n :: ns, h => by have := h.1; simp at this
  | x :: xs, [], h => by have := h.1; simp at this
  | x :: xs, n :: ns, h => by
    have h1 := h.2 0 x (.str n) rfl rfl
    have h2 : DtA K ps H xs (ns.map D.str) := ⟨by have := h.1; simpa using this, fun i y f e1 e2 => h.2 (i + 1) y f (by simpa using e1) (by simpa using e2)⟩
    cases h1
    rw [DtA.strs_eq h2]; rfl
def dJoin (a : Str) : D → Option D := fun y => match seqD y with
  | some ds => (match strsD ds with
    | some ys => if (ys.map (·.length)).sum + ys.length * a.length ≤ 16777216 then some (.str (Txt.join a ys)) else none
    | none => none)
  | none => none
abbrev rJoS (K : PySem.W.Frag) : V → List V → Hp → VK → Prop := fun x xs H Q => ∃ a p, ∃ ys : List Str, x = .str a ∧ xs = [.ref p] ∧ (SqL K H p (ys.map V.str) ∨ SqT K H p (ys.map V.str)) ∧ (ys.map (·.length)).sum + ys.length * a.length ≤ 16777216 ∧ Q (.str (Txt.join a ys)) H
theorem p_join {K : KC} (a : Str) : P1 K (fun y H Q => rJoS K (.str a) [y] H Q) (dJoin a) := by
  intro ps H x d e Q ht px hf hq
  unfold dJoin at hf
  split at hf
  · rename_i ds hds
    split at hf
    · rename_i ys hys
      split at hf
      · rename_i hl
        cases hf
        obtain ⟨p, xs, rfl, hs, hA⟩ := px.seq hds
        rw [strsD_eq hys] at hA
        have := hA.strs_eq
        subst this
        refine ⟨a, p, ys, rfl, rfl, ?_, hl, hq _ _ (Post.dt (.str _))⟩
        first
          | exact hs
          | exact hs.imp (fun h => h.1) (fun h => h.1)
      · cases hf
    · cases hf
  · cases hf
theorem se_join {a b : Str} (h : a = b) (hb : SE C tb mb) : SE C (tM1 (rJoS C.K) (tC (.str a)) tb) (mUn (dJoin b) mb) := by
  subst h
  intro B σ0 σ H env ts R z hm Q hq
  exact ⟨⟨a, rfl⟩, se_un (p_join a) hb B σ0 σ H env ts R z hm Q hq⟩
/-! ### f-strings -/
def rFmt : V → Hp → VK → Prop := fun x H1 Q => (∃ y : Str, x = .str y ∧ y.length ≤ sizeLine ∧ Q (.str y) H1) ∨ ∃ i : Int, x = .int i ∧ i.natAbs.log2 < 1920 ∧ Q (.str (toString i)) H1
def dFmt : D → Option D
  | .str y => if y.length ≤ 16777216 then some (.str y) else none
  | .int i => if i.natAbs.log2 < 1920 then some (.str (toString i)) else none
  | _ => none
theorem p_fmt {K : KC} : P1 K rFmt dFmt := by
  intro ps H x d e Q ht px hf hq
  unfold dFmt at hf
  split at hf
  · rename_i y
    split at hf
    · rename_i hl
      cases hf
      exact .inl ⟨y, px.str, by rw [sizeLine_eq]; exact hl, hq _ _ (Post.dt (.str _))⟩
    · cases hf
  · rename_i i
    split at hf
    · rename_i hl
      cases hf
      exact .inr ⟨i, px.int, hl, hq _ _ (Post.dt (.str _))⟩
    · cases hf
  · cases hf
theorem se_fmt (ha : SE C ta ma) : SE C (tFmt ta) (mUn dFmt ma) := se_un (r := rFmt) p_fmt ha
def mJs : List ME → Str → ME
  | [], acc, e => some (.ok (.str acc) e)
  | m :: ms, acc, e => bnd (m e) fun x e1 => match x with
    | .str y => if (acc ++ y).length ≤ 16777216 then mJs ms (acc ++ y) e1 else none
    | _ => none
def mFs (ms : List ME) : ME := mJs ms Str.empty
def SJs (C : Cn) : List TE → List ME → Prop
  | [], [] => True
  | t :: ts, m :: ms => SE C t m ∧ SJs C ts ms
  | _, _ => False
theorem se_js : ∀ {ts : List TE} {ms : List ME}, SJs C ts ms → ∀ acc, SE C (fun σ H Q => tJs ts acc σ H fun out H1 => Q (.str out) H1) (mJs ms acc)
  | [], [], _, acc => by
    rintro B σ0 σ H env ts ⟨S, g⟩ r hm Q hq
    cases hm
    exact hq (.str acc) H (Good.prim (ts1 := []) (by rw [List.append_nil]; exact g) (Post.dt (.str acc)))
  | t :: tts, m :: mms, h, acc => by
    intro B σ0 σ H env ts R z hm Q hq
    rcases bnd_inv hm with ⟨x, e, h1, rfl⟩ | ⟨x, e1, h1, h2⟩
    · exact h.1 B σ0 σ H env ts R _ h1 _ hq
    · refine h.1 B σ0 σ H env ts R _ h1 _ fun v H1 R1 => ?_
      split at h2
      · rename_i y
        split at h2
        · rename_i hl
          obtain ⟨S, g⟩ := R1
          have hv : v = .str y := by
            rcases g.tmp ts.length v (.str y) (by simp) with ⟨k, e, _⟩ | ho
            · cases e
            · exact (ho.dt rfl).inv_str
          subst hv
          exact ⟨y, rfl, by rw [sizeLine_eq]; exact hl, se_js h.2 (acc ++ y) B σ0 σ H1 e1 ts (Rep.pop (ts1 := [(.str y, .str y)]) ⟨S, g⟩) _ h2 _ hq⟩
        · cases h2
      · cases h2
  | [], _ :: _, h, _ => h.elim
  | _ :: _, [], h, _ => h.elim
theorem se_fs {ts : List TE} {ms : List ME} (h : SJs C ts ms) : SE C (fun σ H Q => tJs ts Str.empty σ H fun out H1 => Q (.str out) H1) (mFs ms) := se_js h Str.empty
end
/-! ### defs with defaults -/
theorem se_callSD {C : Cn} {tr tr' : TA} {mr : MA} {mf : MF} {dvs : List V} (h : ∀ σ H R, tr σ H (fun vs H1 => R (vs ++ dvs) H1) = tr' σ H R) (ha : SA C tr' mr) : SE C (tCallSD (spM C.K mf) dvs (fun σ c o H => C.W c o σ H) tr) (mCall mf mr) := by
  intro B σ0 σ H env ts R z hm Q hq
  have := se_callS (mf := mf) ha B σ0 σ H env ts R z hm Q hq
  show tr σ H fun vs H1 => spM C.K mf (vs ++ dvs) H1 Q fun c o H => C.W c o σ H
  rw [h σ H fun vs H1 => spM C.K mf vs H1 Q fun c o H => C.W c o σ H]
  exact this
structure FunW (K : PySem.W.Frag) (x qual : Str) (st : Stmt) (dvs : List V) (f : Addr) (fd : FuncData) : Prop where
  ex : FunD K x qual (defArgs st) (defBody st) (defScope st) dvs [] f fd
  kp : PySem.W.keepIn K (.ref f) = true
section
open PySem.Spec PyProof.Rows
variable {P : Program} {w : World} {K : PySem.W.Frag} {mg : Str → Option Value} {base : Heap}
theorem FunW.okN {CX : CXT} {x qual : Str} {st : Stmt} {dvs : List V} {f : Addr} {fd : FuncData} {N ps : List Str} {k : Nat} {sp : Sp} (F : FunW K x qual st dvs f fd) (S : FnScope N ps (defScope st)) (len : ∀ vs H Q E, sp vs H Q E → vs.length = ps.length)
    (hbody : ∀ (cdv : Value) (A : Around) (outer : List PySem.Env) (s : Shared) (H : Hp) (vs : List V) (Q : VK) (E : XK), Room k (A.deeper (envOfC qual (defScope st) s.heap.objs.size f cdv)) → sp vs H Q E →
      ∃ t, PSs (cxOf CX P w K mg base N qual (defScope st) f cdv A outer s H E) (defBody st) t ∧ t { nx := fun _ H' => Q .non H', rt := Q } (start N vs) H) : FnOk P w K mg base CX (k + 1) f fd ps sp :=
  F.ex.ok S len hbody
end
end Q


namespace Q
open PySem L2
/-! ### reckoning: chains, texts -/
def kCh (r : Option (Rs D)) (f f' : D → D → Option D) (b c : ME) : Option (Rs D) := bnd r fun x e1 => bnd (b e1) fun y e2 => bnd (ap2 f x y e2) fun k e3 => match k with
  | .bl true => bnd (c e3) fun w e4 => ap2 f' y w e4
  | .bl false => some (.ok (.bl false) e3)
  | _ => none
def kCh2 (r : Option (Rs D)) (x : D) (f f' : D → D → Option D) (c : ME) : Option (Rs D) := bnd r fun y e2 => bnd (ap2 f x y e2) fun k e3 => match k with
  | .bl true => bnd (c e3) fun w e4 => ap2 f' y w e4
  | .bl false => some (.ok (.bl false) e3)
  | _ => none
def kCh3 (r : Option (Rs D)) (y : D) (f' : D → D → Option D) (c : ME) : Option (Rs D) := bnd r fun k e3 => match k with
  | .bl true => bnd (c e3) fun w e4 => ap2 f' y w e4
  | .bl false => some (.ok (.bl false) e3)
  | _ => none
theorem ev_chain (f f' : D → D → Option D) (a b c : ME) (e : Env) : mChain f f' a b c e = kCh (a e) f f' b c := nr rfl
theorem kCh_ok (x : D) (e : Env) (f f' : D → D → Option D) (b c : ME) : kCh (some (.ok x e)) f f' b c = kCh2 (b e) x f f' c := nr rfl
theorem kCh2_ok (x y : D) (e : Env) (f f' : D → D → Option D) (c : ME) : kCh2 (some (.ok y e)) x f f' c = kCh3 (ap2 f x y e) y f' c := nr rfl
theorem kCh3_t (y : D) (e : Env) (f' : D → D → Option D) (c : ME) : kCh3 (some (.ok (.bl true) e)) y f' c = kOp2 (c e) y f' := nr rfl
theorem kCh3_f (y : D) (e : Env) (f' : D → D → Option D) (c : ME) : kCh3 (some (.ok (.bl false) e)) y f' c = some (.ok (.bl false) e) := nr rfl
def kSt (r : Option (Rs D)) : Option (Rs (List D)) := bnd r fun x e1 => match res e1 x with
  | some (.str z) => some (.ok (signsD z) e1)
  | _ => none
theorem ev_sti (a : ME) (e : Env) : mStrI a e = kSt (a e) := nr rfl
theorem kSt_ok (z : Str) (e : Env) : kSt (some (.ok (.str z) e)) = some (.ok (signsD z) e) := nr rfl
theorem signs_st (l : List Nat) : signsD (st l) = l.map fun c => .str (st [c]) := by
  unfold signsD
  have : (st l).cps.toList = l := by simp [st]
  rw [this]
  rfl
theorem ev_fs (ms : List ME) (e : Env) : mFs ms e = mJs ms (st []) e := nr rfl
theorem ev_jnil (acc : Str) (e : Env) : mJs [] acc e = some (.ok (.str acc) e) := nr rfl
def kJs (r : Option (Rs D)) (acc : Str) (ms : List ME) : Option (Rs D) := bnd r fun x e1 => match x with
    | .str y => if (acc ++ y).length ≤ 16777216 then mJs ms (acc ++ y) e1 else none
    | _ => none
theorem ev_jcons (m : ME) (ms : List ME) (acc : Str) (e : Env) : mJs (m :: ms) acc e = kJs (m e) acc ms := nr rfl
theorem kJs_st {l m : List Nat} {e : Env} {ms : List ME} (h : (l ++ m).length ≤ 16777216) : kJs (some (.ok (.str (st m)) e)) (st l) ms = mJs ms (st (l ++ m)) e := by
  show (if (st l ++ st m).length ≤ 16777216 then mJs ms (st l ++ st m) e else none) = _
  rw [st_app, st_len, if_pos h]
theorem dFmt_st (l : List Nat) : dFmt (.str (st l)) = if l.length ≤ 16777216 then some (.str (st l)) else none := by
  simp only [dFmt, st_len]
theorem kR2_ok {i j : Int} {e : Env} (h : (-4611686018427387904 ≤ i ∧ i < 4611686018427387904) ∧ -4611686018427387904 ≤ j ∧ j < 4611686018427387904) : kR2 (some (.ok [.int i, .int j] e)) = some (.ok (rngD i (j - i).toNat) e) := by
  show (if _ then _ else _) = _
  rw [if_pos h]
/-- the signs of a text, asked one by one -/
theorem cl_signs {k : Nat} {el : ME} {e : Env} (f : Nat → Bool) (l : List Nat) (hl : l.length < 16777216) (hs : ∀ c ∈ l, ∃ e', el (e.set k (some (.str (st [c])))) = some (.ok (.bl (f c)) e') ∧ wipeE e' [k] = e) :
    mCl (gNm k) (fun e => some (.ok true e)) el [k] (l.map fun c => .str (st [c])) [] e = some (l.map (fun c => D.bl (f c)), e) := by
  have aux : ∀ (l : List Nat) (acc : List D), acc.length + l.length < 16777216 → (∀ c ∈ l, ∃ e', el (e.set k (some (.str (st [c])))) = some (.ok (.bl (f c)) e') ∧ wipeE e' [k] = e) →
      mCl (gNm k) (fun e => some (.ok true e)) el [k] (l.map fun c => .str (st [c])) acc e = some (acc ++ l.map (fun c => D.bl (f c)), e) := by
    intro l
    induction l with
    | nil => intro acc _ _; simp [cl_nil]
    | cons c l ih =>
      intro acc hl hs
      rw [List.length_cons] at hl
      obtain ⟨e', h1, h2⟩ := hs c (by simp)
      rw [List.map_cons, cl_cons, ev_nm, kQ_ok, kQ2_t, h1, kQ3_ok, tkf_fz (d := .bl (f c)) rfl, kQ4_ok (by omega), h2, ih _ (by rw [List.length_append]; simp; omega) fun x hx => hs x (List.mem_cons_of_mem _ hx)]
      simp
  simpa using aux l [] (by simpa using hl) hs
theorem dAll_bls (f : Nat → Bool) (l : List Nat) : dAll [.mls (l.map fun c => D.bl (f c))] = some (.bl (l.all f)) := by
  have h : (l.map fun c => D.bl (f c)).all isBl = true := by simp [isBl]
  simp only [dAll, lsD, h, if_true]
  congr 2
  induction l with
  | nil => rfl
  | cons c l ih => simp only [List.map_cons, List.all_cons, unBl]; rw [ih (by simp [isBl])]
end Q


namespace Q
open PySem L2 PySem.W PySem.Calls
/-! ### sorted(xs) of alike data -/
abbrev ltPair (p q : V × PyData) : Bool := dataLe false Prod.snd p q
/-- tuples of which one has no item can be sorted too -/
theorem oneLt_tup {prog : Program} {w : World} {A : Around} {E : Value → Shared → Prop} {s : Shared} {xs ys : List PyData} {a b : Value} {as bs : List Addr} {Q : Bool → Shared → Prop} (ra : Reads s.heap a (.tuple xs) as) (rb : Reads s.heap b (.tuple ys) bs) (hal : alikeAll xs ys = true)
    (hu : A.units + min (PyData.tuple xs).depth (PyData.tuple ys).depth < cLine) (hq : Q (dataLt (.tuple xs) (.tuple ys)) s) : wpAny (model prog w) A (PyProof.Rows.oneLt' true a b) Q E s := by
  cases ra with
  | @tuple l o vs n _ as₁ h1 h2 h3 h4 =>
    cases rb with
    | @tuple l' o' vs' n' _ bs₁ k1 k2 k3 k4 =>
      have n1 : vs.size = xs.length := by simpa using SeqAt.ReadsAll.length _ _ _ h4
      have n2 : vs'.size = ys.length := by simpa using SeqAt.ReadsAll.length _ _ _ k4
      rw [dataLt_tuple, ← PySem.W.firstLt_toks xs ys hal, ← n1, ← n2] at hq
      rw [PyProof.Rows.oneLt'_eq]
      simp only [if_true]
      obtain ⟨cls1, dd1, data1, sl1⟩ := o
      obtain ⟨cls2, dd2, data2, sl2⟩ := o'
      simp only at h2 h3 k2 k3
      subst h2 h3 k2 k3
      refine wpAny_bind (wpAny_cRoomFor (SeqAt.room_here hu) ?_)
      refine wpAny_bind (wpAny_callSpecialIfBound?_slot (T := "tuple") ⟨_, h1, rfl⟩ F.slot_tuple_lt (call_meets F.slot_tuple_lt ⟨_, h1, rfl⟩ F.entry_tuple_lt (F.args_tuple_lt_2 _ _) (SeqAt.tuple_ltAt l l' vs vs' n n' dd1 dd2 sl1 sl2 (SeqAt.pairEq xs ys) (fun j => dataLt (xs.getD j .none) (ys.getD j .none))) ⟨h1, k1, fun j j1 j2 => ?_, fun j j1 j2 hj => ?_, ?_⟩))
      · have := PySem.W.eqAt_alikeAll xs ys A.in1 s vs.toList vs'.toList _ _ h4 k4 hal (SeqAt.room_in hu) j (by simpa using j1) (by simpa using j2)
        simpa using this
      · have := PySem.W.rcLt_alikeAll xs ys A.in1 s vs.toList vs'.toList _ _ h4 k4 hal (SeqAt.room_in hu) j (by simpa using j1) (by simpa using j2) hj
        simpa using this
      · exact wpAny_truthy_bool hq
def nonE : PyData → Bool | .tuple (_ :: _) => true | _ => false
theorem firsts_any {M : Model} {A : Around} {E : Value → Shared → Prop} {s : Shared} : ∀ {vs : List Value} {ds : List PyData}, EachIs (fun v d => ∃ as, Reads s.heap v d as) vs ds → (∀ d ∈ ds, ∃ xs, d = .tuple xs) →
    ∃ fs : List (Option Value), fs.map Option.isSome = ds.map nonE ∧ ∀ Q : List (Option Value) → Shared → Prop, Q fs s → wpAny M A (vs.mapM PyProof.Rows.firstOfTuple') Q E s
  | _, _, .nil, _ => ⟨[], rfl, fun Q h => by rw [List.mapM_nil]; exact wpAny_pure h⟩
  | _, _, .cons (a := v) (as := vs) (b := d) (bs := ds) ⟨as, r⟩ t, ht => by
    obtain ⟨fs, h1, h2⟩ := firsts_any (M := M) (A := A) (E := E) t fun d hd => ht d (List.mem_cons_of_mem _ hd)
    obtain ⟨xs, rfl⟩ := ht d (List.mem_cons_self ..)
    cases r with
    | @tuple a o its n _ _ ho hc hd hr =>
      refine ⟨its[0]? :: fs, ?_, fun Q hq => ?_⟩
      · rw [List.map_cons, List.map_cons, h1]
        congr 1
        have hl : its.size = xs.length := by simpa using SeqAt.ReadsAll.length _ _ _ hr
        cases xs with
        | nil =>
          have : its.size = 0 := hl
          simp [this, nonE]
        | cons x xs =>
          have : 0 < its.size := by rw [hl]; exact Nat.succ_pos _
          simp [this, nonE]
      · rw [List.mapM_cons]
        refine wpAny_bind ?_
        rw [kas_first_eq]
        refine wpAny_bind (Looks.here (show Looks M s.heap (typeOf (.ref a)) o.cls from (Looks.ld ho).andThen .now) ?_)
        rw [hc, if_neg (by first | decide | simp)]
        refine wpAny_bind (PyProof.Rows.listItems_at ho hd (wpAny_pure ?_))
        exact wpAny_bind (h2 (fun bs s' => wpAny M A (pure (its[0]? :: bs)) Q E s') (wpAny_pure hq))
theorem kind_some {M : Model} {A : Around} {E : Value → Shared → Prop} {s : Shared} {vs : List Value} {ds : List PyData} {Q : PyProof.Rows.SortKind → Shared → Prop} (h2 : 2 ≤ vs.length) (e : EachIs (fun v d => ∃ as, Reads s.heap v d as) vs ds) (ht : ∀ d ∈ ds, ∃ xs, d = .tuple xs) (hn : ds.all nonE = false)
    (h : Q (if (ds.map nonE).head? = some true then PyProof.Rows.general' else PyProof.Rows.oneType') s) : wpAny M A (PyProof.Rows.keyKind' vs.toArray) Q E s := by
  obtain ⟨fs, h1, hf⟩ := firsts_any (M := M) (A := A) (E := E) e ht
  rw [PyProof.Rows.kat_kind_eq, List.mapM_toArray, map_eq_pure_bind]
  refine wpAny_bind (wpAny_bind (hf _ (wpAny_pure ?_)))
  have hall : (fs.toArray.all fun x => x.isSome) = false := by
    have : (fs.toArray.all fun x => x.isSome) = (fs.map Option.isSome).all id := by simp [List.all_map]
    rw [this, h1]
    simpa [List.all_map] using hn
  rw [if_neg (by rw [hall]; decide)]
  have h0 : (fs.toArray[0]?.bind id).isSome = ((ds.map nonE).head? == some true) := by
    rw [← h1]
    cases fs with
    | nil => rfl
    | cons f fs => cases f <;> rfl
  rw [h0]
  by_cases hh : (ds.map nonE).head? = some true
  · rw [if_pos (by rw [hh]; rfl)]
    rw [if_pos hh] at h
    exact wpAny_pure h
  · rw [if_neg (by simpa using hh)]
    rw [if_neg hh] at h
    have hT : ∀ v ∈ vs, Looks M s.heap (typeOf v) (.type "tuple") := fun v hv => by
      obtain ⟨d, hd, as, r⟩ := e.left v hv
      obtain ⟨xs, rfl⟩ := ht d hd
      exact looks_reads r
    obtain ⟨v₁, v₂, rest, rfl⟩ : ∃ v₁ v₂ rest, vs = v₁ :: v₂ :: rest := by
      match vs, h2 with
      | [], h2 => simp at h2
      | [_], h2 => simp at h2
      | v₁ :: v₂ :: rest, _ => exact ⟨v₁, v₂, rest, rfl⟩
    rw [PyProof.Rows.oneTypeOnly'_eq, List.mapM_toArray, map_eq_pure_bind]
    refine wpAny_bind (wpAny_bind (wpAny_bind (kas_mapM (r := Value.type "tuple") _ (fun v hv Q' hq => (hT v hv).here hq) (wpAny_pure ?_))))
    have hall : ((List.map (fun _ => Value.type "tuple") (v₁ :: v₂ :: rest)).toArray.all fun x => x == Value.type "tuple") = true := by
      simp only [List.all_toArray, List.all_map, List.all_eq_true]
      intro _ _
      exact beq_self_eq_true _
    have h0 : (List.map (fun _ => Value.type "tuple") (v₁ :: v₂ :: rest)).toArray[0]? = some (Value.type "tuple") := by simp
    rw [h0]
    simp only [hall, if_true]
    exact wpAny_pure (wpAny_pure h)
theorem sorts_tups {prog : Program} {w : World} {A : Around} {s : Shared} {vs : List Value} {ds : List PyData} (e : EachIs (fun v d => ∃ as, Reads s.heap v d as) vs ds) (hal : AllAlike ds) (ht : ∀ d ∈ ds, ∃ xs, d = .tuple xs) (hu : ∀ d, d ∈ ds → A.units + d.depth < cLine) : SortsAt prog w A s (dataKind s.heap ds) vs := by
  by_cases hk : ds.all nonE = true
  · refine SortsAt.data e hal (.inl fun d hd => ?_) hu
    have := List.all_eq_true.mp hk d hd
    obtain ⟨xs, rfl⟩ := ht d hd
    cases xs with
    | nil => cases this
    | cons x r => exact ⟨x, r, rfl⟩
  · have room : ∀ {d d' : PyData}, d ∈ ds → A.units + min d.depth d'.depth < cLine := fun {d d'} hd => Nat.lt_of_le_of_lt (Nat.add_le_add_left (Nat.min_le_left _ _) _) (hu d hd)
    refine ⟨fun v hv => ?_, (if (ds.map nonE).head? = some true then PyProof.Rows.general' else PyProof.Rows.oneType'), ?_, fun h2 E Q hq => kind_some h2 e ht (by simpa using hk) hq⟩
    · obtain ⟨d, hd, as, r⟩ := e.left v hv
      exact ⟨_, dataKind_some hal hd r⟩
    · intro E x y a b Q ha hb hq
      obtain ⟨d, as, hd, ra, rfl⟩ := dataKind_inv ha
      obtain ⟨d', as', hd', rb, rfl⟩ := dataKind_inv hb
      have hdd := hal d hd d' hd'
      have hroom := room (d' := d') hd
      obtain ⟨xs, rfl⟩ := ht d hd
      obtain ⟨ys, rfl⟩ := ht d' hd'
      split
      · show wpAny _ _ (PyProof.Rows.oneLt' false x y) _ _ _
        exact oneLt_alike (fun z => by cases z) ra rb hdd (fun z => by cases z) hroom hq
      · rw [PyProof.Rows.keyLt'_oneType]
        exact oneLt_tup ra rb (by simpa [alike] using hdd) hroom hq
def SortsX (ps : List PyData) : Prop := (∀ d ∈ ps, ∃ xs, d = PyData.tuple xs) ∨ Sortable ps
def rSortX (K : PySem.W.Frag) : List V → Hp → VK → Prop := fun vs H Q => ∃ (a : Addr) (xs : List V) (ps : List PyData), vs = [.ref a] ∧ SqL K H a xs ∧ DpAll K H xs ps ∧ AllAlike ps ∧ SortsX ps ∧ (∀ d ∈ ps, d.depth ≤ 16) ∧
  ∀ p, H p = none → Q (.ref p) (upd H p (.lst (((xs.zip ps).mergeSort (dataLe false Prod.snd)).map Prod.fst)))
theorem each_zip {X : Cx} {pins : List (Addr × Obj)} {s : Shared} {σ : St} {H : Hp} (I : Inv X pins σ H s) : ∀ {xs : List V} {its : List Value} {ps : List PyData}, Vals xs its → DpAll X.K H xs ps →
    EachIs (fun v (b : V × PyData) => RelV b.1 v) its (xs.zip ps) ∧ EachIs (fun v (b : V × PyData) => ∃ as, Reads s.heap v b.2 as) its (xs.zip ps)
  | _, _, _, .nil, .nil => ⟨.nil, .nil⟩
  | _, _, _, .cons r1 r, .cons d1 d => by
    obtain ⟨h1, h2⟩ := each_zip I r d
    exact ⟨.cons r1 h1, .cons (Dp.reads I _ _ _ d1 r1) h2⟩
theorem each_vals : ∀ {out : List Value} {bs : List (V × PyData)}, EachIs (fun v (b : V × PyData) => RelV b.1 v) out bs → Vals (bs.map Prod.fst) out
  | _, _, .nil => .nil
  | _, _, .cons h t => .cons h (each_vals t)
theorem dpAll_len {K : PySem.W.Frag} {H : Hp} : ∀ {xs : List V} {ps : List PyData}, DpAll K H xs ps → xs.length = ps.length
  | _, _, .nil => rfl
  | _, _, .cons _ t => congrArg Nat.succ (dpAll_len t)
theorem snd_zip {α β : Type} : ∀ {xs : List α} {ps : List β}, xs.length = ps.length → (xs.zip ps).map Prod.snd = ps
  | [], [], _ => rfl
  | [], _ :: _, h => by cases h
  | _ :: _, [], h => by cases h
  | x :: xs, p :: ps, h => by simp only [List.zip_cons_cons, List.map_cons]; rw [snd_zip (Nat.succ.inj h)]
theorem cr_sortX {X : Cx} (hu : X.A.units + 64 < cLine) : CallR X (.builtin "sorted") (rSortX X.K) := by
  intro pins s σ H vs us Q I r h
  obtain ⟨a, xs, ps, rfl, hs, hd, hal, hso, hdep, q⟩ := h
  obtain ⟨its, rv, hl, hz⟩ := I.list hs
  rw [Vals.ref1 r]
  obtain ⟨e1, e2⟩ := each_zip I rv hd
  have hlen := dpAll_len hd
  have hsnd := snd_zip hlen
  have hzl : (xs.zip ps).length = xs.length := by rw [List.length_zip, ← hlen, Nat.min_self]
  have er' : EachIs (fun v (b : V × PyData) => ∃ as, Reads (sortingHeap (copyHeap s.heap its) (s.heap.objs.size + 1) its) v b.2 as) its (xs.zip ps) := e2.mono fun _ _ ⟨as, r⟩ => ⟨as, PyProof.Rows.Reads.keeps (fun _ _ => sorting_copy_old) r⟩
  have er2 := each_map (R := fun v d => ∃ as, Reads (sortingHeap (copyHeap s.heap its) (s.heap.objs.size + 1) its) v d as) Prod.snd er'
  have hu' : ∀ d, d ∈ (xs.zip ps).map Prod.snd → X.A.in1.in1.units + d.depth < cLine := fun d hd => by
    rw [hsnd] at hd
    have := hdep _ hd
    show X.A.units + 2 + d.depth < cLine
    omega
  have hal' : AllAlike ((xs.zip ps).map Prod.snd) := by rw [hsnd]; exact hal
  have so : SortsAt X.prog X.w X.A.in1.in1 { s with heap := sortingHeap (copyHeap s.heap its) (s.heap.objs.size + 1) its } (dataKind (sortingHeap (copyHeap s.heap its) (s.heap.objs.size + 1) its) ((xs.zip ps).map Prod.snd)) its := by
    rcases hso with hso | hso
    · exact sorts_tups (s := { s with heap := sortingHeap (copyHeap s.heap its) (s.heap.objs.size + 1) its }) er2 hal' (by rw [hsnd]; exact hso) hu'
    · exact SortsAt.data (s := { s with heap := sortingHeap (copyHeap s.heap its) (s.heap.objs.size + 1) its }) er2 hal' (by rw [hsnd]; exact hso) hu'
  refine sorted_vals hl.isList so (by rw [e1.length, hzl]; exact hz) ?_
  have heo := sortVals_data false e1 er' hal'
  have hol := sortVals_length (κ := dataKind (sortingHeap (copyHeap s.heap its) (s.heap.objs.size + 1) its) ((xs.zip ps).map Prod.snd)) false (rfl : its.length = its.length)
  generalize sortVals (dataKind (sortingHeap (copyHeap s.heap its) (s.heap.objs.size + 1) its) ((xs.zip ps).map Prod.snd)) false its its = out at heo hol ⊢
  obtain ⟨ep, he'⟩ := PyProof.Rows.sortedAll_at s.heap its out.toArray
  have hv := each_vals heo
  have hl2 : (((xs.zip ps).mergeSort (dataLe false Prod.snd)).map Prod.fst).length ≤ sizeLine := by
    rw [List.length_map, List.length_mergeSort, hzl]; exact hz
  exact ⟨.ref _, upd H (s.heap.objs.size + 1) (.lst (((xs.zip ps).mergeSort (dataLe false Prod.snd)).map Prod.fst)), I.laid (t' := s.toks) (fun _ _ => PyProof.Rows.sortedAll_old) (Nat.le_succ _) ⟨hl2, out, ep, hv, he'⟩, rfl, q _ (I.hok.fresh (Nat.le_succ _))⟩
/-! its mirror -/
def isTupP : PyData → Bool | .tuple _ => true | _ => false
def noTupP : PyData → Bool | .none => false | .tuple _ => false | _ => true
def leD (d d' : D) : Bool := dataLe false D.toP d d'
def sortOk (ds : List D) : Bool := D.okPs ds && ((D.toPs ds).all fun p => (D.toPs ds).all fun q => alike p q) && ((D.toPs ds).all isTupP || (D.toPs ds).all noTupP) && (D.toPs ds).all (fun p => decide (p.depth ≤ 16))
def dSorted : List D → Option D
  | [x] => (match lsD x with | some ds => if sortOk ds = true then some (.mls (ds.mergeSort leD)) else none | none => none)
  | _ => none
theorem toPs_map : ∀ ds : List D, D.toPs ds = ds.map D.toP
  | [] => rfl
  | d :: ds => by rw [D.toPs, toPs_map ds]; rfl
theorem zip_map_sort (xs : List V) (ds : List D) : ((xs.zip (ds.map D.toP)).mergeSort (dataLe false Prod.snd)).map Prod.fst = ((xs.zip ds).mergeSort (fun p q => leD p.2 q.2)).map Prod.fst := by
  have e : xs.zip (ds.map D.toP) = (xs.zip ds).map fun p => (p.1, p.2.toP) := by
    rw [List.zip_map_right]; rfl
  rw [e, ← List.map_mergeSort (r := fun p q : V × D => leD p.2 q.2) (s := dataLe false Prod.snd) (f := fun p : V × D => (p.1, p.2.toP)) (fun a _ b _ => rfl), List.map_map]
  rfl
theorem snd_sort {xs : List V} {ds : List D} (h : xs.length = ds.length) : ((xs.zip ds).mergeSort (fun p q => leD p.2 q.2)).map Prod.snd = ds.mergeSort leD := by
  rw [List.map_mergeSort (s := leD) (fun a _ b _ => rfl), snd_zip h]
theorem DtA.of_pairs {K : KC} {ps : Addr → Prop} {H : Hp} {zs : List (V × D)} (h : ∀ p ∈ zs, Dt K ps H p.1 p.2) : DtA K ps H (zs.map Prod.fst) (zs.map Prod.snd) := by
  refine ⟨by simp, fun i x d e1 e2 => ?_⟩
  rw [List.getElem?_map] at e1 e2
  cases e : zs[i]? with
  | none => rw [e] at e1; cases e1
  | some p =>
    rw [e] at e1 e2
    cases e1; cases e2
    exact h p (List.mem_of_getElem? e)
theorem DtA.sort {K : KC} {ps : Addr → Prop} {H : Hp} {xs : List V} {ds : List D} (h : DtA K ps H xs ds) : DtA K ps H (((xs.zip (ds.map D.toP)).mergeSort (dataLe false Prod.snd)).map Prod.fst) (ds.mergeSort leD) := by
  rw [zip_map_sort, ← snd_sort h.1]
  refine DtA.of_pairs fun p hp => ?_
  have hp : p ∈ xs.zip ds := List.mem_mergeSort.mp hp
  obtain ⟨i, hi⟩ := List.mem_iff_getElem?.mp hp
  rw [List.getElem?_zip_eq_some] at hi
  exact h.2 i _ _ hi.1 hi.2
theorem p_sorted {K : KC} : PN K (rSortX K) dSorted := by
  intro ps H xs ds e Q ht p h hq
  unfold dSorted at h
  split at h
  · split at h
    · rename_i ds' hds
      split at h
      · rename_i hb
        cases h
        obtain ⟨x, rfl, px⟩ := p.one
        obtain ⟨a, xs, rfl, hs, hA⟩ := px.ls hds
        unfold sortOk at hb
        simp only [Bool.and_eq_true, Bool.or_eq_true, List.all_eq_true, decide_eq_true_eq] at hb
        obtain ⟨⟨⟨h1, h2⟩, h3⟩, h4⟩ := hb
        refine ⟨a, xs, D.toPs ds', rfl, hs, hA.dp h1, fun d hd d' hd' => h2 d hd d' hd', ?_, h4, fun p hp => hq _ _ ?_⟩
        · rcases h3 with h3 | h3
          · refine .inl fun d hd => ?_
            have := h3 d hd
            unfold isTupP at this
            split at this
            · exact ⟨_, rfl⟩
            · cases this
          · refine .inr (.inr fun d hd => ?_)
            have := h3 d hd
            refine ⟨fun z => ?_, fun ys z => ?_⟩ <;> (subst z; cases this)
        · rw [toPs_map]
          exact Post.lst hp hA.sort
      · cases h
    · cases h
  · cases h
end Q


/-! if and for in a generator -/
namespace Q
open PySem PySem.Spec PyProof.Rows L2 GenW
section
variable {M : Model} {A : Around} {R : GenEnd} {Y : Protocol} {n : Nat} {s₀ : Shared} {c : Code} {fs : List Frame} {s : Shared} {env : PySem.Env}
  {K : Flow → Sem PySem.Fin} {H : Value → Sem PySem.Fin} {gd : Bool → Bool} {lv : List Value → List Value}
theorem seg_If {test : Expr} {body orelse : List Stmt} {pos : Pos}
    (h : wpAny M (A.over c fs) (isTrue test env (eval test env)) (fun b s' => if b = true then Seg M A R Y n s₀ c ((execs body env).wrap K H gd lv) fs s' else Seg M A R Y n s₀ c ((execs orelse env).wrap K H gd lv) fs s')
      (fun x s' => Seg M A R Y n s₀ c (H x) fs s') s) : Seg M A R Y n s₀ c ((exec (.If test body orelse pos) env).wrap K H gd lv) fs s := by
  rw [exec_If]
  show Seg M A R Y n s₀ c (.at pos fun _ => ((isTrue test env (eval test env)) >>= fun b => if b = true then execs body env else execs orelse env).wrap K H gd lv) fs s
  refine seg_at ?_
  rw [Sem.bind_eq_wrap', Sem.wrap_wrap]
  refine seg_wrap (wpAny_mono h (fun b s' h' => ?_) fun _ _ x => x)
  cases b with
  | true => rw [if_pos rfl] at h' ⊢; exact h'
  | false => rw [if_neg Bool.false_ne_true] at h' ⊢; exact h'
theorem seg_For {tg iter : Expr} {body orelse : List Stmt} {pos : Pos} (hs : ∀ x, foldedSetIterable iter env x = pure x)
    (h : wpAny M (A.over c fs) (eval iter env) (fun v s1 => wpAny M (A.over c fs) (pyIter v) (fun it s2 => ∀ p, Seg M A R Y n s₀ (.forLoop tg it body orelse env) (M.den (.forLoop tg it body orelse env))
      (.ret (fun r => ((match r with | .ok f => (.pure f : Sem Flow) | .error e => .raise e).onRaise (cameBack env)).wrap K H gd lv) none (gd false) (lv []) c p [] :: fs) s2)
      (fun x s' => Seg M A R Y n s₀ c (H x) fs s') s1) (fun x s' => Seg M A R Y n s₀ c (H x) fs s') s) :
    Seg M A R Y n s₀ c ((exec (.For tg iter body orelse pos) env).wrap K H gd lv) fs s := by
  rw [exec_For]
  show Seg M A R Y n s₀ c (.at pos fun _ => ((eval iter env) >>= fun x0 => foldedSetIterable iter env x0 >>= fun x => standAt iter.pos >>= fun _ => holding [x] (pyIter x) >>= fun it => runOwn (.forLoop tg it body orelse env) env).wrap K H gd lv) fs s
  refine seg_at ?_
  rw [Sem.bind_eq_wrap', Sem.wrap_wrap]
  refine seg_wrap (wpAny_mono h (fun v s1 h1 => ?_) fun _ _ x => x)
  rw [hs v]
  show Seg M A R Y n s₀ c (.at iter.pos fun _ => (holding [v] (pyIter v) >>= fun it => runOwn (.forLoop tg it body orelse env) env).wrap K H gd lv) fs s1
  refine seg_at ?_
  rw [Sem.bind_eq_wrap', Sem.wrap_wrap]
  refine seg_wrap (wpAny_holding (wpAny_mono h1 (fun it s2 h2 => ?_) fun _ _ x => x))
  exact seg_call h2
end
section
variable {prog : Program} {w : World} {A : Around} {R : GenEnd} {Y : Protocol} {n : Nat} {s₀ : Shared} {fs : List Frame} {s : Shared} {env : PySem.Env}
theorem seg_forLoop {tg : Expr} {it : Value} {body : List Stmt} {E : Value → Shared → Prop}
    (hE : ∀ x s', E x s' → Seg (model prog w) A R Y n s₀ (.forLoop tg it body [] env) ((do noteFrame x env; theTreesLotGoes x : Sem Unit).wrap (fun _ => .raise x) .raise id id) fs s')
    (h : wpAny (model prog w) (A.over (.forLoop tg it body [] env) fs) (pyNext it) (fun r s₁ => match r with
      | none => Seg (model prog w) A R Y n s₀ (.forLoop tg it body [] env) (.pure (.again (.block [] env))) fs s₁
      | some v => wpAny (model prog w) (A.over (.forLoop tg it body [] env) fs) (letOwnedTupleGo tg it v) (fun _ s₁' =>
          wpAny (model prog w) (A.over (.forLoop tg it body [] env) fs) (assign tg env v) (fun _ s₂ =>
            Seg (model prog w) A R Y n s₀ (.forLoop tg it body [] env) ((execs body env).wrap (fun f => match f with
              | .next | .cont => .pure (.again (.forLoop tg it body [] env))
              | .brk => .pure (.done .next)
              | .ret v => .pure (.done (.ret v))) (fun e => (do noteFrame e env; theTreesLotGoes e : Sem Unit).wrap (fun _ => .raise e) .raise id id) id id) fs s₂) E s₁') E s₁) E s) :
    Seg (model prog w) A R Y n s₀ (.forLoop tg it body [] env) ((model prog w).den (.forLoop tg it body [] env)) fs s := by
  show Seg _ A R Y n s₀ _ ((forTurn tg it body [] env).onRaise (fun x => do noteFrame x env; theTreesLotGoes x)) fs s
  have hE' : ∀ x s', E x s' → Seg (model prog w) A R Y n s₀ (.forLoop tg it body [] env) ((do noteFrame x env; theTreesLotGoes x : Sem Unit).bind fun _ => .raise x) fs s' := fun x s' hx => by
    rw [Sem.bind_eq_wrap]; exact hE x s' hx
  rw [Sem.onRaise_eq_wrap]
  unfold forTurn
  show Seg _ A R Y n s₀ _ (.at tg.pos fun _ => (((pyNext it).onRaise (fun _ => standAt { tg.pos with line := 0 })) >>= fun r => match r with
    | none => again (.block [] env)
    | some v => letOwnedTupleGo tg it v >>= fun _ => assign tg env v >>= fun _ => execs body env >>= fun f => match f with
      | .next | .cont => again (.forLoop tg it body [] env)
      | .brk => pure (.done .next)
      | .ret v => pure (.done (.ret v))).wrap _ _ _ _) fs s
  refine seg_at ?_
  rw [Sem.bind_eq_wrap', Sem.wrap_wrap]
  refine seg_wrap (wpAny_onRaise (wpAny_mono h (fun r s₁ h₁ => ?_) fun x s' hx => wpAny_standAt (hE' x s' hx)))
  cases r with
  | none => exact h₁
  | some v =>
    show Seg _ A R Y n s₀ _ ((letOwnedTupleGo tg it v >>= fun _ => assign tg env v >>= fun _ => execs body env >>= fun f => match f with
      | .next | .cont => again (.forLoop tg it body [] env)
      | .brk => pure (.done .next)
      | .ret v => pure (.done (.ret v))).wrap _ _ _ _) fs s₁
    rw [Sem.bind_eq_wrap', Sem.wrap_wrap]
    refine seg_wrap (wpAny_mono h₁ (fun _ s₁' h₁' => ?_) fun x s' hx => hE' x s' hx)
    rw [Sem.bind_eq_wrap', Sem.wrap_wrap]
    refine seg_wrap (wpAny_mono h₁' (fun _ s₂ h₂ => ?_) fun x s' hx => hE' x s' hx)
    rw [Sem.bind_eq_wrap', Sem.wrap_wrap]
    rw [Sem.wrap_congr (execs body env) _ _ (K' := fun f => match f with
            | .next | .cont => .pure (.again (.forLoop tg it body [] env))
            | .brk => .pure (.done .next)
            | .ret v => .pure (.done (.ret v))) (H' := (fun e => (do noteFrame e env; theTreesLotGoes e : Sem Unit).wrap (fun _ => .raise e) .raise id id))
        (fun f => by cases f <;> rfl)
        (fun e => by first | exact Sem.bind_eq_wrap _ _ | (show (do noteFrame e env; theTreesLotGoes e : Sem Unit).bind (fun _ => .raise e) = _; rw [Sem.bind_eq_wrap]))]
    exact h₂
theorem seg_block0 (h : Seg (model prog w) A R Y n s₀ (.block [] env) (.pure (.done .next)) fs s) : Seg (model prog w) A R Y n s₀ (.block [] env) ((model prog w).den (.block [] env)) fs s := h
end
section
variable {X : Cx}
def tGIf (c : TT) (t u : TGn) : TGn := fun D ys σ H => c σ H fun b H1 => if b = true then t D ys σ H1 else u D ys σ H1
theorem gs_if {test : Expr} {body orelse : List Stmt} {pos : Pos} {tc : TT} {t u : TGn} (hc : PT X test tc) (ht : GSs X body t) (hu : GSs X orelse u) : GS X (.If test body orelse pos) (tGIf tc t u) := by
  refine ⟨fun A S ip R n ys s₀ c fs K J gd lv s σ H D g hn k hI hq => ?_⟩
  refine seg_If ?_
  rw [g.over]
  obtain ⟨acc, cc, r, I⟩ := hI
  refine wpAny_mono (hc.run _ s σ H _ I hq) (fun b s' hb => ?_) fun x s' hx => k.exc n s₀ x s' hx
  obtain ⟨H2, I2, q2⟩ := hb
  cases b with
  | true =>
    rw [if_pos rfl] at q2 ⊢
    exact ht.run A S ip R n ys s₀ c fs K J gd lv s' σ H2 D g hn k ⟨acc, cc, r, I2⟩ q2
  | false =>
    rw [if_neg Bool.false_ne_true] at q2 ⊢
    exact hu.run A S ip R n ys s₀ c fs K J gd lv s' σ H2 D g hn k ⟨acc, cc, r, I2⟩ q2
def tGFor (wi : TI) (g : TG) (tb : TGn) : TGn := fun D ys σ H => wi σ H fun J H1 => ∃ W : Nat → Nat → List V → L2.St → Hp → Prop, (∃ m, W 0 m ys σ H1) ∧ ∀ i m ys σ H, W i m ys σ H →
  (J.stop i H ∧ D.nx ys σ H) ∨ (J.go i H ∧ ∃ N : List V → L2.St → Hp → Prop, (∀ ys' σ' H', N ys' σ' H' → ∃ m', m' < m ∧ W (i + 1) m' ys' σ' H') ∧ ∀ x H', J.yld i H x H' → g x σ H' fun σ2 H2 => tb { D with nx := N, ct := N, bk := D.nx } ys σ2 H2)
theorem gs_for {tg iter : Expr} {body : List Stmt} {wi : TI} {g : TG} {tb : TGn} {pos : Pos} (hp : PassesOwn (model X.prog X.w) X.A X.env X.xe) (hcm : X.calm = true) (hi : PI X tg iter wi) (hg : PG X tg g) (hb : GSs X body tb)
    (hs : ∀ x, foldedSetIterable iter X.env x = pure x := by intro _; rfl) : GS X (.For tg iter body [] pos) (tGFor wi g tb) := by
  refine ⟨fun A S ip R n ys s₀ c fs K J gd lv s σ H D gc hn k hI hq => ?_⟩
  refine seg_For hs ?_
  rw [gc.over]
  obtain ⟨acc, cc, r, I⟩ := hI
  refine wpAny_mono (hi.run _ s σ H _ I hq) (fun v s1 h1 => ?_) fun x s' hx => k.exc n s₀ x s' hx
  refine wpAny_mono h1 (fun itv s2 h2 => ?_) fun x s' hx => k.exc n s₀ x s' hx
  obtain ⟨it, fp, tn, Jt, H2, e, I2, T, st2, f2, W, ⟨m0, w0⟩, turn⟩ := h2
  subst e
  intro p
  have hSf : ∀ b ∈ fp, S ≠ b := fun b hb' => (f2 b hb').2.2.2.2.2 (S, lstObj acc cc) (List.mem_append_right _ List.mem_cons_self)
  have stat : ∀ {H' : Hp} {acc' : Array Value} {cc' : Nat}, (∀ b ∈ fp, H' b = none) → ∀ b ∈ fp, FpOk X ((S, lstObj acc' cc') :: ip) H' b := fun {H' acc' cc'} hn b hb' => by
    obtain ⟨_, z2, z3, z4, z5, z6⟩ := f2 b hb'
    refine ⟨hn b hb', z2, z3, z4, z5, fun q hq => ?_⟩
    rcases List.mem_append.mp hq with hq | hq
    · exact z6 q (List.mem_append_left _ hq)
    · rcases List.mem_cons.mp hq with rfl | hq
      · exact hSf b hb'
      · exact z6 q (List.mem_append_right _ (List.mem_cons_of_mem _ hq))
  have gl := fun (kk : Result → Sem PySem.Fin) => gc_loop (k := kk) (c' := .forLoop tg (.ref it) body [] X.env) (l := lv []) (kp := []) (p := p) gc rfl rfl
  have loop : ∀ (m i n : Nat) (ys : List V) (s₀ s : Shared) (σ : L2.St) (H : Hp), n + ys.length = sizeLine → W i m ys σ H → GI X S ip ys σ H s → tn i s.heap → (∀ b ∈ fp, H b = none) →
      Seg (model X.prog X.w) A R (GY X S) n s₀ (.forLoop tg (.ref it) body [] X.env) ((model X.prog X.w).den (.forLoop tg (.ref it) body [] X.env))
        (.ret (fun r => ((match r with | .ok f => (.pure f : Sem Flow) | .error e => .raise e).onRaise (cameBack X.env)).wrap K J gd lv) none (gd false) (lv []) c p [] :: fs) s := by
    intro m
    induction m using Nat.strongRecOn with
    | ind m ih =>
      intro i n ys s₀ s σ H hn w hI st3 fr3
      have ee : ∀ (n : Nat) (s₀ : Shared) (x : Value) (s' : Shared), X.xe x s' → Seg (model X.prog X.w) A R (GY X S) n s₀ (.forLoop tg (.ref it) body [] X.env)
          ((do noteFrame x X.env; theTreesLotGoes x : Sem Unit).wrap (fun _ => .raise x) .raise id id)
          (.ret (fun r => ((match r with | .ok f => (.pure f : Sem Flow) | .error e => .raise e).onRaise (cameBack X.env)).wrap K J gd lv) none (gd false) (lv []) c p [] :: fs) s' := fun n s₀ x s' hx => by
        refine seg_wrap ?_
        rw [(gl _).over]
        refine wpAny_bind (wpAny_mono (hp x s' hx) (fun _ s'' hcb => wpAny_theTreesLotGoes ?_) fun y s'' hcb => ?_)
        · exact seg_leaf (.error x) (seg_cameBack gc k hcb)
        · exact seg_leaf (.error y) (seg_cameBack gc k hcb)
      refine seg_forLoop (E := X.xe) (fun x s' hx => ee n s₀ x s' hx) ?_
      rw [(gl _).over]
      obtain ⟨acc, cc, r, I3⟩ := hI
      rcases turn i m ys σ H w with ⟨stop, qn⟩ | ⟨go, N, hN, step⟩
      · refine wpAny_mono (T.done X rfl rfl rfl hcm i _ s σ H X.xe I3 (stat fr3) st3 stop) (fun r' s4 h4 => ?_) fun x s' hx => hx
        obtain ⟨hr, I4⟩ := h4
        subst hr
        refine seg_again rfl (seg_block0 ?_)
        exact seg_leaf (.ok .next) (k.ok n ys s₀ s4 .next hn ⟨σ, H, ⟨acc, cc, r, I4⟩, qn⟩)
      · refine wpAny_mono (T.item X rfl rfl rfl hcm i _ s σ H X.xe I3 (stat fr3) st3 go) (fun r' s4 h4 => ?_) fun x s' hx => hx
        obtain ⟨u, hr, h4⟩ := h4
        subst hr
        refine wpAny_mono h4 (fun _ s5 h5 => ?_) fun x s' hx => hx
        obtain ⟨x, H5, I5, r5, y5, st5, fr5⟩ := h5
        have I5' := I5.pinned (stat fr5) (T.obj _ _ st5)
        refine wpAny_mono (hg.run _ s5 σ H5 x u _ I5' r5 (step x H5 y5)) (fun _ s6 h6 => ?_) fun x s' hx => hx
        obtain ⟨σ6, H6, I6, q6⟩ := h6
        have gc' : GC X S (ip ++ pinsAt fp s5.heap) A (.forLoop tg (.ref it) body [] X.env) (.ret (fun r => ((match r with | .ok f => (.pure f : Sem Flow) | .error e => .raise e).onRaise (cameBack X.env)).wrap K J gd lv) none (gd false) (lv []) c p [] :: fs) id := by
          have g0 := gl (fun r => ((match r with | .ok f => (.pure f : Sem Flow) | .error e => .raise e).onRaise (cameBack X.env)).wrap K J gd lv)
          refine ⟨g0.pn, fun q hq => ?_, g0.apart, g0.over, g0.split, g0.guard, g0.gd⟩
          rcases List.mem_append.mp hq with hq | hq
          · exact g0.ip q hq
          · exact (hSf q.1 (of_pinsAt hq).1).symm
        refine hb.run A S (ip ++ pinsAt fp s5.heap) R n ys s₀ _ _ _ _ id id s6 σ6 H6 { D with nx := N, ct := N, bk := D.nx } gc' hn ⟨fun n' ys' s₀' s7 f hn' hs' => ?_, fun n' s₀' x s7 hx => ee n' s₀' x s7 hx⟩ ⟨acc, cc, r, by simpa using I6⟩ q6
        have back : ∀ {σ7 : L2.St} {H7 : Hp}, GI X S (ip ++ pinsAt fp s5.heap) ys' σ7 H7 s7 → GI X S ip ys' σ7 H7 s7 ∧ tn (i + 1) s7.heap ∧ ∀ b ∈ fp, H7 b = none := fun {σ7 H7} hI7 => by
          obtain ⟨acc7, c7, r7, I7⟩ := hI7
          have I7' : Inv X (((S, lstObj acc7 c7) :: ip) ++ pinsAt fp s5.heap) σ7 H7 s7 := by simpa using I7
          refine ⟨⟨acc7, c7, r7, I7'.unpinned⟩, T.keep _ _ _ st5 fun b hb' o e => (I7'.pin (b, o) (List.mem_append_right _ (List.mem_append_right _ (mem_pinsAt hb' e)))).1, fun b hb' => ?_⟩
          obtain ⟨o, e, d⟩ := T.obj _ _ st5 b hb'
          exact (I7'.pin (b, o) (List.mem_append_right _ (List.mem_append_right _ (mem_pinsAt hb' e)))).2.1
        cases f with
        | next =>
          obtain ⟨σ7, H7, I7, n7⟩ := hs'
          obtain ⟨b1, b2, b3⟩ := back I7
          obtain ⟨m', hm, w7⟩ := hN ys' σ7 H7 n7
          exact seg_again rfl (ih m' hm (i + 1) n' ys' s₀' s7 σ7 H7 hn' w7 b1 b2 b3)
        | cont =>
          obtain ⟨σ7, H7, I7, n7⟩ := hs'
          obtain ⟨b1, b2, b3⟩ := back I7
          obtain ⟨m', hm, w7⟩ := hN ys' σ7 H7 n7
          exact seg_again rfl (ih m' hm (i + 1) n' ys' s₀' s7 σ7 H7 hn' w7 b1 b2 b3)
        | brk =>
          obtain ⟨σ7, H7, I7, q7⟩ := hs'
          exact seg_leaf (.ok .next) (k.ok n' ys' s₀' s7 .next hn' ⟨σ7, H7, (back I7).1, q7⟩)
        | ret v =>
          obtain ⟨x7, σ7, H7, I7, r7, q7⟩ := hs'
          exact seg_leaf (.ok (.ret v)) (k.ok n' ys' s₀' s7 (.ret v) hn' ⟨x7, σ7, H7, (back I7).1, r7, q7⟩)
  exact loop m0 0 n ys s₀ s2 σ H2 hn w0 ⟨acc, cc, r, I2⟩ st2 fun b hb' => (f2 b hb').1
end
end Q


namespace Q
open PySem L2
/-! ### generators: what they hand out -/
abbrev MY := Env → List D → Option (Fl × Env × List D)
def y0 : MY := fun e ds => some (.nx, e, ds)
def ySeq (a b : MY) : MY := fun e ds => match a e ds with
  | some (.nx, e1, d1) => b e1 d1
  | r => r
def yPlain (m : MS) : MY := fun e ds => match m e with
  | some (.ok .nx e1) => some (.nx, e1, ds)
  | some (.ok .bk e1) => some (.bk, e1, ds)
  | some (.ok .ct e1) => some (.ct, e1, ds)
  | some (.ok (.rt .non) e1) => some (.rt .non, e1, ds)
  | _ => none
def yIf (c : MT) (a b : MY) : MY := fun e ds => match c e with
  | some (.ok true e1) => a e1 ds
  | some (.ok false e1) => b e1 ds
  | _ => none
def yYield (a : ME) : MY := fun e ds => match a e with
  | some (.ok x e1) => (match tkf x e1 with
    | some (y, e2) => if ds.length < 16777216 then some (.nx, e2, ds ++ [y]) else none
    | none => none)
  | _ => none
def yLoop (g : MG) (b : MY) : List D → Env → List D → Option (Fl × Env × List D)
  | [], e, ds => some (.nx, e, ds)
  | x :: xs, e, ds => match g x e with
    | some e1 => (match b e1 ds with
      | some (.nx, e2, d2) => yLoop g b xs e2 d2
      | some (.ct, e2, d2) => yLoop g b xs e2 d2
      | some (.bk, e2, d2) => some (.nx, e2, d2)
      | some (.rt d, e2, d2) => some (.rt d, e2, d2)
      | none => none)
    | none => none
def yFor (i : MI) (g : MG) (b : MY) : MY := fun e ds => match i e with
  | some (.ok xs e1) => yLoop g b xs e1 ds
  | _ => none
def FrZ (fr : List (V × D)) : Prop := ∀ p ∈ fr, isFz p.2 = true
theorem FrZ.noAl {fr : List (V × D)} (h : FrZ fr) : NoAl fr := fun p hp => by
  have := h p hp
  obtain ⟨v, d⟩ := p
  cases d <;> first | rfl | cases this
section
variable {C : Cn} {B : Bs} {σ0 σ : St} {H H1 : Hp} {env env1 : Env} {ts ts1 : List (V × D)} {S : Ix → Addr → Prop} {v : V} {d : D}
/-- temporaries that are all data, in any order -/
theorem Rep.frz (r : Rep C B σ0 H σ env ts) (hz : FrZ ts) (hs : ∀ p ∈ ts1, p ∈ ts) : Rep C B σ0 H σ env ts1 := by
  obtain ⟨S, g⟩ := r
  let U : Ix → Addr → Prop := fun i a => S i a ∧ ∃ j, i = .inl j
  have hU : ∀ a, pset B U a → pset B S a := by
    rintro a (h | ⟨i, h, _⟩)
    · exact .inl h
    · exact .inr ⟨i, h⟩
  refine ⟨U, g.kp, g.fr, fun i a h => g.sub i a h.1, fun i a h => g.trk i a h.1, fun i j a h1 h2 => g.dis i j a h1.1 h2.1, g.len, g.keep, fun i d e => ?_, fun j v d e => ?_, fun p hp => (g.hld p hp).move .refl fun a z => .inl (hU a z), g.fx⟩
  · obtain ⟨v, h1, h2⟩ := g.slot i d e
    exact ⟨v, h1, (h2.move .refl (fun a z => .inl (hU a z)) fun a _ => rfl).iff fun b => ⟨fun z => z.1, fun z => ⟨z, i, rfl⟩⟩⟩
  · have hm := hs _ (List.mem_of_getElem? e)
    obtain ⟨k, hk⟩ := List.mem_iff_getElem?.mp hm
    have hf := hz _ hm
    rcases g.tmp k v d hk with ⟨i, rfl, _⟩ | ho
    · cases hf
    · exact .inr (.fz ((ho.dt hf).move .refl fun a z => .inl (hU a z)) fun b z => by obtain ⟨_, i, z⟩ := z; cases z)
end
def YOk (C : Cn) (B : Bs) (σ0 : St) (fr : List (V × D)) (E : GEnds) : Fl × Env × List D → Prop
  | (.nx, e, ds) => (∀ d ∈ ds, isFz d = true) → ∀ vs σ' H', vs.length = ds.length → Rep C B σ0 H' σ' e (fr ++ vs.zip ds) → E.nx vs σ' H'
  | (.bk, e, ds) => (∀ d ∈ ds, isFz d = true) → ∀ vs σ' H', vs.length = ds.length → Rep C B σ0 H' σ' e (fr ++ vs.zip ds) → E.bk vs σ' H'
  | (.ct, e, ds) => (∀ d ∈ ds, isFz d = true) → ∀ vs σ' H', vs.length = ds.length → Rep C B σ0 H' σ' e (fr ++ vs.zip ds) → E.ct vs σ' H'
  | (.rt _, e, ds) => (∀ d ∈ ds, isFz d = true) → ∀ vs σ' H', vs.length = ds.length → Rep C B σ0 H' σ' e (fr ++ vs.zip ds) → E.rt vs .non H'
def SY (C : Cn) (t : TGn) (m : MY) : Prop := ∀ B σ0 σ H env fr vs ds, FrZ fr → (∀ d ∈ ds, isFz d = true) → vs.length = ds.length → Rep C B σ0 H σ env (fr ++ vs.zip ds) → ∀ r, m env ds = some r → ∀ E, YOk C B σ0 fr E r → t E vs σ H
theorem zip_frz {vs : List V} {ds : List D} (h : ∀ d ∈ ds, isFz d = true) : FrZ (vs.zip ds) := fun p hp => h p.2 (List.of_mem_zip hp).2
theorem FrZ.app {a b : List (V × D)} (h : FrZ a) (k : FrZ b) : FrZ (a ++ b) := fun p hp => by
  rcases List.mem_append.mp hp with hp | hp
  · exact h p hp
  · exact k p hp
section
variable {C : Cn} {te ta tb tc : TE} {ma mb mc : ME} {tt tu : TT} {mt mu : MT} {tr : TA} {mr : MA} {t u : TS} {ms mv : MS} {ty tz : TGn} {my mz : MY}
theorem sy_0 : SY C tG0 y0 := by
  intro B σ0 σ H env fr vs ds hf hd hl R r hm E hE
  cases hm
  exact hE hd vs σ H hl R
theorem sy_plain (h : SS C t ms) : SY C (tPlain t) (yPlain ms) := by
  intro B σ0 σ H env fr vs ds hf hd hl R r hm E hE
  have hna := (hf.app (zip_frz (vs := vs) hd)).noAl
  unfold yPlain at hm
  split at hm
  · rename_i e1 h1; cases hm
    exact h B σ0 σ H env _ R hna _ h1 _ fun σ' H' R' => hE hd vs σ' H' hl R'
  · rename_i e1 h1; cases hm
    exact h B σ0 σ H env _ R hna _ h1 _ fun σ' H' R' => hE hd vs σ' H' hl R'
  · rename_i e1 h1; cases hm
    exact h B σ0 σ H env _ R hna _ h1 _ fun σ' H' R' => hE hd vs σ' H' hl R'
  · rename_i e1 h1; cases hm
    refine h B σ0 σ H env _ R hna _ h1 _ fun v σ' H' ha R' => ?_
    have hv : v = .non := by
      obtain ⟨S, g⟩ := R'
      rcases g.tmp (fr ++ vs.zip ds).length v .non (by simp) with ⟨k, e, _⟩ | ho
      · cases e
      · exact (ho.dt rfl).inv_non
    subst hv
    exact hE hd vs σ' H' hl R'.pop
  · cases hm
theorem sy_seq (ha : SY C ty my) (hb : SY C tz mz) : SY C (tGThen ty tz) (ySeq my mz) := by
  intro B σ0 σ H env fr vs ds hf hd hl R r hm E hE
  unfold ySeq at hm
  split at hm
  · rename_i e1 d1 h1
    exact ha B σ0 σ H env fr vs ds hf hd hl R _ h1 _ fun hd1 vs' σ' H' hl' R' => hb B σ0 σ' H' e1 fr vs' d1 hf hd1 hl' R' _ hm E hE
  · rename_i hne
    refine ha B σ0 σ H env fr vs ds hf hd hl R r hm _ ?_
    obtain ⟨f, e, d'⟩ := r
    cases f with
    | nx => exact absurd hm (hne e d')
    | bk => exact hE
    | ct => exact hE
    | rt d => exact hE
theorem sy_if (hc : ST C tt mt) (ha : SY C ty my) (hb : SY C tz mz) : SY C (tGIf tt ty tz) (yIf mt my mz) := by
  intro B σ0 σ H env fr vs ds hf hd hl R r hm E hE
  unfold yIf at hm
  split at hm
  · rename_i e1 h1
    refine hc B σ0 σ H env _ R _ h1 _ fun H1 R1 => ?_
    rw [if_pos rfl]
    exact ha B σ0 σ H1 e1 fr vs ds hf hd hl R1 _ hm E hE
  · rename_i e1 h1
    refine hc B σ0 σ H env _ R _ h1 _ fun H1 R1 => ?_
    rw [if_neg Bool.false_ne_true]
    exact hb B σ0 σ H1 e1 fr vs ds hf hd hl R1 _ hm E hE
  · cases hm
theorem zip_snoc {vs : List V} {ds : List D} {v : V} {d : D} (h : vs.length = ds.length) : (vs ++ [v]).zip (ds ++ [d]) = vs.zip ds ++ [(v, d)] := by
  rw [List.zip_append h]; rfl
theorem sy_yield (ha : SE C ta ma) : SY C (tGYield ta) (yYield ma) := by
  intro B σ0 σ H env fr vs ds hf hd hl R r hm E hE
  unfold yYield at hm
  split at hm
  · rename_i x e1 h1
    split at hm
    · rename_i y e2 h2
      split at hm
      · rename_i hz
        cases hm
        refine ⟨by rw [hl, sizeLine_eq]; exact hz, ha B σ0 σ H env _ R _ h1 _ fun v H1 ⟨S, g⟩ => ?_⟩
        obtain ⟨S1, g1, hy⟩ := g.takenF (ts1 := []) h2
        have hyf : isFz y = true := by cases hy <;> rfl
        refine hE (fun d hd' => ?_) (vs ++ [v]) σ H1 (by simp [hl]) ?_
        · rcases List.mem_append.mp hd' with h | h
          · exact hd d h
          · simp at h; subst h; exact hyf
        · rw [zip_snoc hl, ← List.append_assoc]
          exact ⟨S1, g1⟩
      · cases hm
    · cases hm
  · cases hm
theorem sy_for {wi : TI} {mi : MI} {g : TG} {mg : MG} (hi : SI C wi mi) (hg : SG C g mg) (hb : SY C ty my) : SY C (tGFor wi g ty) (yFor mi mg my) := by
  intro B σ0 σ H env fr vs ds hf hd hl R z hm E hE
  unfold yFor at hm
  split at hm
  case h_2 => cases hm
  rename_i xs e1 h1
  refine hi B σ0 σ H env _ R _ h1 _ fun J H1 fr2 yd hfr2 R1 => ?_
  have hf2 : FrZ fr2 := hfr2
  have hff : FrZ (fr ++ fr2) := hf.app hf2
  have R1' : Rep C B σ0 H1 σ e1 ((fr ++ fr2) ++ vs.zip ds) := R1.frz ((hf.app (zip_frz hd)).app hf2) fun p hp => by
    simp only [List.mem_append] at hp ⊢
    rcases hp with (h | h) | h
    · exact .inl (.inl h)
    · exact .inr h
    · exact .inl (.inr h)
  refine ⟨fun i m vs' σ' H' => m = xs.length - i ∧ i ≤ xs.length ∧ ∃ e' ds', (∀ d ∈ ds', isFz d = true) ∧ vs'.length = ds'.length ∧ Rep C B σ0 H' σ' e' ((fr ++ fr2) ++ vs'.zip ds') ∧ yLoop mg my (xs.drop i) e' ds' = some z, ⟨xs.length, rfl, Nat.zero_le _, e1, ds, hd, hl, R1', hm⟩, ?_⟩
  rintro i m vs' σ' H' ⟨rfl, hil, e', ds', hd', hl', R', hz⟩
  obtain ⟨S, g'⟩ := R'
  have hdt : ∀ p ∈ fr2, Dt C.K (pset B S) H' p.1 p.2 := fun p hp => by
    have hm' : p ∈ (fr ++ fr2) ++ vs'.zip ds' := List.mem_append_left _ (List.mem_append_right _ hp)
    obtain ⟨k, hk⟩ := List.mem_iff_getElem?.mp hm'
    rcases g'.tmp k p.1 p.2 hk with ⟨i, e3, _⟩ | h
    · have := hf2 p hp; rw [e3] at this; cases this
    · exact h.dt (hf2 p hp)
  obtain ⟨y1, y2⟩ := yd (pset B S) H' (fun a z => g'.ptrk z) hdt i
  have out : ∀ {vs3 : List V} {ds3 : List D} {σ3 : St} {H3 : Hp} {e3 : Env}, (∀ d ∈ ds3, isFz d = true) → Rep C B σ0 H3 σ3 e3 ((fr ++ fr2) ++ vs3.zip ds3) → Rep C B σ0 H3 σ3 e3 (fr ++ vs3.zip ds3) := fun hd3 R3 => R3.frz (hff.app (zip_frz hd3)) fun p hp => by
    simp only [List.mem_append] at hp ⊢
    rcases hp with h | h
    · exact .inl (.inl h)
    · exact .inr h
  by_cases hlt : i < xs.length
  · obtain ⟨d, hdx⟩ : ∃ d, xs[i]? = some d := ⟨xs[i], by simp [hlt]⟩
    obtain ⟨hgo, hy⟩ := y1 d hdx
    have hdr : xs.drop i = d :: xs.drop (i + 1) := by
      have := List.drop_eq_getElem_cons hlt
      rw [this]
      congr 1
      have e9 : xs[i]? = some xs[i] := by simp [hlt]
      rw [hdx] at e9; cases e9; rfl
    rw [hdr] at hz
    simp only [yLoop] at hz
    split at hz
    · rename_i e2 h3
      refine .inr ⟨hgo, fun vs2 σ2 H2 => ∃ e3 ds3, (∀ d ∈ ds3, isFz d = true) ∧ vs2.length = ds3.length ∧ Rep C B σ0 H2 σ2 e3 ((fr ++ fr2) ++ vs2.zip ds3) ∧ yLoop mg my (xs.drop (i + 1)) e3 ds3 = some z, fun vs2 σ2 H2 ⟨e3, ds3, q0, q1, q2, q3⟩ => ⟨xs.length - (i + 1), by omega, rfl, hlt, e3, ds3, q0, q1, q2, q3⟩, fun v H2 yy => ?_⟩
      obtain ⟨k2, d2⟩ := hy v H2 yy
      have R2 : Rep C B σ0 H2 σ' e' ((fr ++ fr2) ++ vs'.zip ds' ++ [(v, d)]) := Good.prim (ts1 := []) (by rw [List.append_nil]; exact g') ⟨k2, fun _ => False, fun _ h => h.elim, .fz (d2.move .refl fun a z => .inl (z.resolve_right id)) fun _ h => h⟩
      have hda : isAl d = false := by cases d2 <;> rfl
      refine hg B σ0 σ' H2 e' _ v d e2 R2 hda (hff.app (zip_frz hd')).noAl h3 _ fun σ3 H3 R3 => ?_
      split at hz
      · rename_i e3 d3 h4
        exact hb B σ0 σ3 H3 e2 (fr ++ fr2) vs' ds' hff hd' hl' R3 _ h4 _ fun hd4 vs4 σ4 H4 hl4 R4 => ⟨e3, d3, hd4, hl4, R4, hz⟩
      · rename_i e3 d3 h4
        exact hb B σ0 σ3 H3 e2 (fr ++ fr2) vs' ds' hff hd' hl' R3 _ h4 _ fun hd4 vs4 σ4 H4 hl4 R4 => ⟨e3, d3, hd4, hl4, R4, hz⟩
      · rename_i e3 d3 h4
        cases hz
        exact hb B σ0 σ3 H3 e2 (fr ++ fr2) vs' ds' hff hd' hl' R3 _ h4 _ fun hd4 vs4 σ4 H4 hl4 R4 => hE hd4 vs4 σ4 H4 hl4 (out hd4 R4)
      · rename_i dd e3 d3 h4
        cases hz
        exact hb B σ0 σ3 H3 e2 (fr ++ fr2) vs' ds' hff hd' hl' R3 _ h4 _ fun hd4 vs4 σ4 H4 hl4 R4 => hE hd4 vs4 σ4 H4 hl4 (out hd4 R4)
      · cases hz
    · cases hz
  · have : i = xs.length := by omega
    subst this
    rw [List.drop_length] at hz
    cases hz
    exact .inl ⟨y2 (Nat.le_refl _), hE hd' vs' σ' H' hl' (out hd' ⟨S, g'⟩)⟩
end
/-! ### a generator def, and list(g(..)) -/
abbrev MYF := List D → Option (List D)
def spY (K : KC) (my : MYF) : SpG := fun vs H Q _ => ∃ (ps : Addr → Prop) (ds out : List D), vs.length = ds.length ∧ (∀ a, ps a → H a ≠ none) ∧ DtA K ps H vs ds ∧ my ds = some out ∧ ∀ ys H', Kp (fun _ => False) H H' → DtA K ps H' ys out → Q ys H'
def mGen (np nl : Nat) (body : MY) : MYF := fun ds => if ds.length = np ∧ ds.all isFz = true then (match body (ds.map some ++ List.replicate nl none) [] with
  | some (.nx, _, out) => some out
  | some (.rt _, _, out) => some out
  | _ => none) else none
theorem spY_len {K : KC} {np nl : Nat} {body : MY} (vs : List V) (H : Hp) (Q : List V → Hp → Prop) (E : XK) (h : spY K (mGen np nl body) vs H Q E) : vs.length = np := by
  obtain ⟨ps, ds, out, hl, _, _, hm, _⟩ := h
  unfold mGen at hm
  split at hm
  · rename_i hc; omega
  · cases hm
theorem body_gen {K : KC} {np nl : Nat} {asg : List Nat} {W : WX} {body : MY} {t : TGn} {N : List Str} {vs : List V} {H : Hp} {Q : List V → Hp → Prop} {E : XK} (hN : N.length = np + nl)
    (hb : SY (bC K W np asg) t body) (h : spY K (mGen np nl body) vs H Q E) : t { nx := fun ys _ H' => Q ys H', rt := fun ys v H' => v = .non ∧ Q ys H' } [] (L2.start N vs) H := by
  obtain ⟨ps, ds, out, hl, hps, hA, hm, hq⟩ := h
  unfold mGen at hm
  split at hm
  case isFalse => cases hm
  rename_i hc
  obtain ⟨hnp, hfz⟩ := hc
  have hvl : vs.length = np := by omega
  have hst : L2.start N vs = vs.map some ++ List.replicate nl none := by
    unfold L2.start
    rw [hN, hvl, Nat.add_sub_cancel_left]
  rw [hst]
  let B1 : Bs := ⟨ps, H, fun _ => False⟩
  have g1 : Good (bC K W np asg) B1 (vs.map some ++ List.replicate nl none) H (vs.map some ++ List.replicate nl none) (ds.map some ++ List.replicate nl none) [] (fun _ _ => False) := by
    refine ⟨.refl, fun a h => ⟨hps a h, fun z => z⟩, fun i a h => h.elim, fun i a h => h.elim, fun i j a h => h.elim, by simp [hl], ⟨fun _ _ => rfl, rfl⟩, fun i d e => ?_, fun j v d e => by simp at e, fun p hp => (nomatch hp), trivial⟩
    by_cases hi : i < np
    · rw [List.getElem?_append_left (by simp; omega), List.getElem?_map] at e
      cases e2 : ds[i]? with
      | none => rw [e2] at e; cases e
      | some d2 =>
        rw [e2] at e; cases e
        obtain ⟨x, hx, hdx⟩ := hA.get e2
        refine ⟨x, by rw [List.getElem?_append_left (by simp; omega), List.getElem?_map, hx]; rfl, .fz (hdx.move .refl fun a z => ?_) fun b z => z⟩
        rcases z with z | ⟨_, z⟩
        · exact .inl z
        · exact z.elim
    · rw [List.getElem?_append_right (by simp; omega), List.getElem?_replicate] at e
      split at e <;> cases e
  have fin : ∀ {vs' : List V} {σ' : St} {H' : Hp} {e' : Env}, vs'.length = out.length → (∀ d ∈ out, isFz d = true) → Rep (bC K W np asg) B1 (vs.map some ++ List.replicate nl none) H' σ' e' ([] ++ vs'.zip out) → Q vs' H' := by
    rintro vs' σ' H' e' hl' hf' ⟨S', g'⟩
    refine hq vs' H' g'.kp ⟨hl', fun i x d e1 e2 => ?_⟩
    have e3 : (vs'.zip out)[i]? = some (x, d) := by rw [List.getElem?_zip_eq_some]; exact ⟨e1, e2⟩
    rcases g'.tmp i x d (by simpa using e3) with ⟨k, e, _⟩ | ho
    · have := hf' d (List.mem_of_getElem? e2); rw [e] at this; cases this
    · exact (ho.dt (hf' d (List.mem_of_getElem? e2))).move .refl fun a z => .inl (.inl z)
  split at hm
  · rename_i e o h1
    cases hm
    exact hb B1 _ _ H _ [] [] [] (fun p hp => nomatch hp) (fun d hd => nomatch hd) rfl ⟨_, g1⟩ _ h1 _ fun hf vs' σ' H' hl' R' => fin hl' hf R'
  · rename_i d e o h1
    cases hm
    exact hb B1 _ _ H _ [] [] [] (fun p hp => nomatch hp) (fun d hd => nomatch hd) rfl ⟨_, g1⟩ _ h1 _ fun hf vs' σ' H' hl' R' => ⟨rfl, fin hl' hf R'⟩
  · cases hm
theorem Post.lst' {K : KC} {ps : Addr → Prop} {H H2 : Hp} {p : Addr} {xs : List V} {ds : List D} (k : Kp (fun _ => False) H H2) (hp : H2 p = none) (h : DtA K ps H2 xs ds) : Post K ps H (upd H2 p (.lst xs)) (.ref p) (.mls ds) :=
  ⟨k.trans (.new hp), fun a => a = p, fun a e => by subst e; exact ⟨k.dom _ hp, by rw [upd_same]; simp⟩, .mls upd_same (h.move (.new hp) fun a z => z.elim .inl fun e => .inr (by rw [e]; exact hp)) fun _ => Iff.rfl⟩
def mListG (my : MYF) (a : MA) : ME := fun e => bnd (a e) fun xs e1 => match tkfA xs e1 with
  | some (ys, e2) => (match my ys with | some out => some (.ok (.mls out) e2) | none => none)
  | none => none
section
variable {C : Cn} {tr : TA} {mr : MA}
theorem se_listG {my : MYF} (ha : SA C tr mr) : SE C (tListG (tCallG (spY C.K my) [] (fun _ _ _ => False) tr)) (mListG my mr) := by
  intro B σ0 σ H env ts R z hm Q hq
  rcases bnd_inv hm with ⟨x, e, h1, rfl⟩ | ⟨xs, e1, h1, h2⟩
  · exact ha B σ0 σ H env ts R _ h1 _ hq
  · refine ha B σ0 σ H env ts R _ h1 _ fun vs H1 hl ⟨S, g⟩ => ?_
    split at h2
    · rename_i ys e2 h3
      split at h2
      · rename_i out h4
        cases h2
        obtain ⟨S1, g1, hl1, hf⟩ := g.takenA hl h3
        have hA := g1.dtA hl1 hf
        refine ⟨pset B S1, ys, out, by rw [List.append_nil]; exact hl1, fun a z => g1.ptrk z, by rw [List.append_nil]; exact hA, h4, fun zs H' k hz p hp => ?_⟩
        exact hq _ _ (g1.prim (Post.lst' k hp hz))
      · cases h2
    · cases h2
end
section
open PySem.Spec PyProof.Rows
theorem passes0 {X : Cx} : Passes (CX X.prog X.w) X (fun _ _ _ => False) := fun _ _ _ _ _ _ _ h => by
  obtain ⟨_, _, _, _, _, _, _, _, _, _, _, _, z⟩ := h
  exact z.elim
theorem noStop0 {K : PySem.W.Frag} : NoStop K (fun _ _ _ => False) := fun _ _ _ h => h.elim
end
end Q


namespace Q
open PySem PySem.Spec PyProof.Rows L2
section
variable {P : Program} {w : World} {K : PySem.W.Frag} {mg : Str → Option Value} {base : Heap}
theorem Fun.genN {x qual : Str} {st : Stmt} {f : Addr} {fd : FuncData} {N ps : List Str} {k : Nat} {sp : SpG} (F : Fun K x qual st f fd) (S : GScope N ps (defScope st)) (len : ∀ vs H Q E, sp vs H Q E → vs.length = ps.length)
    (hbody : ∀ (cdv : Value) (A : Around) (outer : List PySem.Env) (s : Shared) (H : Hp) (vs : List V) (Q : List V → Hp → Prop) (E : XK) (pn : List (Addr × Obj)), Room k (A.deeper (envOfC qual (defScope st) s.heap.objs.size f cdv)) → sp vs H Q E →
      ∃ t, GSs (gcxOf P w K mg base N qual (defScope st) f cdv A outer s H E pn) (defBody st) t ∧ t { nx := fun ys _ H' => Q ys H', rt := fun ys v H' => v = .non ∧ Q ys H' } [] (start N vs) H) : GFn P w K mg base (k + 1) f fd ps sp := by
  obtain ⟨oc, od, kV, doc, pm, an, cdv, ct, osl, rfl, lk, hcd⟩ := F.ex
  exact gfn_of lk hcd S len fun A outer s H vs Q E pn hr hsp => hbody cdv A outer s H vs Q E pn hr hsp
end
/-! reckoning -/
theorem ev_y0 (e : Q.Env) (ds : List D) : y0 e ds = some (.nx, e, ds) := nr rfl
def kYs (r : Option (Fl × Q.Env × List D)) (b : MY) : Option (Fl × Q.Env × List D) := match r with
  | some (.nx, e1, d1) => b e1 d1
  | r => r
theorem ev_yseq (a b : MY) (e : Q.Env) (ds : List D) : ySeq a b e ds = kYs (a e ds) b := nr rfl
theorem kYs_nx (e : Q.Env) (ds : List D) (b : MY) : kYs (some (.nx, e, ds)) b = b e ds := nr rfl
def kYi (r : Option (Rs Bool)) (a b : MY) (ds : List D) : Option (Fl × Q.Env × List D) := match r with
  | some (.ok true e1) => a e1 ds
  | some (.ok false e1) => b e1 ds
  | _ => none
theorem ev_yif (c : MT) (a b : MY) (e : Q.Env) (ds : List D) : yIf c a b e ds = kYi (c e) a b ds := nr rfl
theorem kYi_t (e : Q.Env) (a b : MY) (ds : List D) : kYi (some (.ok true e)) a b ds = a e ds := nr rfl
theorem kYi_f (e : Q.Env) (a b : MY) (ds : List D) : kYi (some (.ok false e)) a b ds = b e ds := nr rfl
def kYy2 (r : Option (D × Q.Env)) (ds : List D) : Option (Fl × Q.Env × List D) := match r with
    | some (y, e2) => if ds.length < 16777216 then some (.nx, e2, ds ++ [y]) else none
    | none => none
def kYy (r : Option (Rs D)) (ds : List D) : Option (Fl × Q.Env × List D) := match r with
  | some (.ok x e1) => kYy2 (tkf x e1) ds
  | _ => none
theorem ev_yy (a : ME) (e : Q.Env) (ds : List D) : yYield a e ds = kYy (a e) ds := nr rfl
theorem kYy_ok (x : D) (e : Q.Env) (ds : List D) : kYy (some (.ok x e)) ds = kYy2 (tkf x e) ds := nr rfl
theorem kYy2_ok {y : D} {e : Q.Env} {ds : List D} (h : ds.length < 16777216) : kYy2 (some (y, e)) ds = some (.nx, e, ds ++ [y]) := by
  unfold kYy2; simp only [h, if_true]
def kYf (r : Option (Rs (List D))) (g : MG) (b : MY) (ds : List D) : Option (Fl × Q.Env × List D) := match r with
  | some (.ok xs e1) => yLoop g b xs e1 ds
  | _ => none
theorem ev_yfor (i : MI) (g : MG) (b : MY) (e : Q.Env) (ds : List D) : yFor i g b e ds = kYf (i e) g b ds := nr rfl
theorem kYf_ok (xs : List D) (e : Q.Env) (g : MG) (b : MY) (ds : List D) : kYf (some (.ok xs e)) g b ds = yLoop g b xs e ds := nr rfl
def kLg (r : Option (Rs (List D))) (my : MYF) : Option (Rs D) := bnd r fun xs e1 => match tkfA xs e1 with
  | some (ys, e2) => (match my ys with | some out => some (.ok (.mls out) e2) | none => none)
  | none => none
def kLg2 (r : Option (List D × Q.Env)) (my : MYF) : Option (Rs D) := match r with
  | some (ys, e2) => (match my ys with | some out => some (.ok (.mls out) e2) | none => none)
  | none => none
def kLg3 (r : Option (List D)) (e : Q.Env) : Option (Rs D) := match r with | some out => some (.ok (.mls out) e) | none => none
theorem ev_lg (my : MYF) (a : MA) (e : Q.Env) : mListG my a e = kLg (a e) my := nr rfl
theorem kLg_ok (xs : List D) (e : Q.Env) (my : MYF) : kLg (some (.ok xs e)) my = kLg2 (tkfA xs e) my := nr rfl
theorem kLg2_ok (ys : List D) (e : Q.Env) (my : MYF) : kLg2 (some (ys, e)) my = kLg3 (my ys) e := nr rfl
theorem kLg3_ok (out : List D) (e : Q.Env) : kLg3 (some out) e = some (.ok (.mls out) e) := nr rfl
/-- a generator's loop by an invariant -/
theorem yloop_inv {g : MG} {b : MY} (I : Nat → List D → Q.Env → Prop) : ∀ (xs : List D) (n : Nat) (e : Q.Env) (ds : List D), I n ds e → (∀ (k : Nat) (x : D) e ds, xs[k]? = some x → I (n + k) ds e → ∃ e1 f e2 ds2, g x e = some e1 ∧ b e1 ds = some (f, e2, ds2) ∧ (f = .nx ∨ f = .ct) ∧ I (n + k + 1) ds2 e2) →
    ∃ e' ds', yLoop g b xs e ds = some (.nx, e', ds') ∧ I (n + xs.length) ds' e'
  | [], n, e, ds, h0, _ => ⟨e, ds, rfl, h0⟩
  | x :: xs, n, e, ds, h0, hs => by
    obtain ⟨e1, f, e2, ds2, h1, h2, h3, h4⟩ := hs 0 x e ds rfl h0
    obtain ⟨e', ds', h5, h6⟩ := yloop_inv I xs (n + 1) e2 ds2 h4 fun k y e ds hk hI => by
      have := hs (k + 1) y e ds (by simpa using hk) (by rw [show n + (k + 1) = n + 1 + k by omega]; exact hI)
      rw [show n + (k + 1) = n + 1 + k by omega] at this
      exact this
    refine ⟨e', ds', ?_, by rw [List.length_cons, show n + (xs.length + 1) = n + 1 + xs.length by omega]; exact h6⟩
    simp only [yLoop, h1, h2]
    rcases h3 with rfl | rfl <;> exact h5
end Q


namespace Q
open PySem L2
/-! ### instances: fields -/
def objD : D → Option (Nat × List Str × List D)
  | .obj c fs ds => some (c, fs, ds) | .mob c fs ds => some (c, fs, ds) | _ => none
theorem Peek.ob {K : KC} {ps : Addr → Prop} {H : Hp} {v : V} {d : D} {c : Nat} {fs : List Str} {ds : List D} (p : Peek K ps H v d) (e : objD d = some (c, fs, ds)) : ∃ a C dx xs, v = .ref a ∧ H a = some (.ins C dx (fs.zip xs)) ∧ K.cv c = .ref C ∧ fs.length = ds.length ∧ DtA K ps H xs ds := by
  obtain ⟨S, o, _⟩ := p
  cases d with
  | obj c' fs' ds' => cases e; exact (o.dt rfl).inv_obj
  | mob c' fs' ds' =>
    cases e
    cases o with
    | fz h _ => cases h
    | mob h1 h5 h4 h2 h3 => exact ⟨_, _, _, _, rfl, h1, h5, h4, h2⟩
  | _ => cases e
def rFld (K : PySem.W.Frag) (f : Str) : V → Hp → VK → Prop := fun x H1 Q => ∃ a C dx fs v, x = .ref a ∧ H1 a = some (.ins C dx fs) ∧ Cls K C ∧ NoAttr K C f ∧ fs.lookup f = some v ∧ Q v H1
def dFld (cs : List Nat) (f : Str) : D → Option D := fun d => match objD d with
  | some (c, fs, ds) => if cs.contains c = true then findD fs ds f else none
  | none => none
def FldOk (K : KC) (cs : List Nat) (f : Str) : Prop := ∀ c, cs.contains c = true → ∃ C, K.cv c = .ref C ∧ Cls K C ∧ NoAttr K C f
theorem p_fld {K : KC} {cs : List Nat} {f : Str} (h : FldOk K cs f) : P1 K (rFld K f) (dFld cs f) := by
  intro ps H x d e Q ht px hf hq
  unfold dFld at hf
  split at hf
  · rename_i c fs ds hd
    split at hf
    · rename_i hc
      obtain ⟨a, C, dx, xs, rfl, h1, h2, h3, hA⟩ := px.ob hd
      obtain ⟨C', e1, h4, h5⟩ := h c hc
      rw [h2] at e1; cases e1
      obtain ⟨v, hv, hdt⟩ := lookup_zip hA h3 hf
      exact ⟨a, C, dx, _, v, rfl, h1, h4, h5, hv, hq _ _ (Post.dt hdt)⟩
    · cases hf
  · cases hf
section
variable {C : Cn} {te ta tb tc : TE} {ma mb mc : ME} {tt tu : TT} {mt mu : MT} {tr : TA} {mr : MA} {t u : TS} {ms mv : MS}
theorem se_fld {cs : List Nat} {f g : Str} (hfg : f = g) (h : FldOk C.K cs f) (ha : SE C ta ma) : SE C (tFld C.K ta f) (mUn (dFld cs g) ma) := by
  subst hfg
  exact se_un (p_fld h) ha
end
/-! a field's store -/
def putN (f : Str) : List Str → List Str
  | [] => [f]
  | g :: r => if g = f then g :: r else g :: putN f r
def putX {α : Type} (f : Str) (y : α) : List Str → List α → List α
  | [], _ => [y]
  | g :: r, x :: xs => if g = f then y :: xs else x :: putX f y r xs
  | _ :: _, [] => []
theorem putF_zip (f : Str) (y : V) : ∀ {fs : List Str} {xs : List V}, fs.length = xs.length → putF f y (fs.zip xs) = (putN f fs).zip (putX f y fs xs)
  | [], [], _ => rfl
  | [], _ :: _, h => by cases h
  | _ :: _, [], h => by cases h
  | g :: r, x :: xs, h => by
    have h' : r.length = xs.length := by simpa using h
    show (if g = f then (g, y) :: r.zip xs else (g, x) :: putF f y (r.zip xs)) = _
    unfold putN putX
    by_cases e : g = f
    · rw [if_pos e, if_pos e, if_pos e]; rfl
    · rw [if_neg e, if_neg e, if_neg e, putF_zip f y h']; rfl
theorem putX_len {α : Type} (f : Str) (y : α) : ∀ {fs : List Str} {xs : List α}, fs.length = xs.length → (putN f fs).length = (putX f y fs xs).length
  | [], [], _ => rfl
  | [], _ :: _, h => by cases h
  | _ :: _, [], h => by cases h
  | g :: r, x :: xs, h => by
    have h' : r.length = xs.length := by simpa using h
    unfold putN putX
    by_cases e : g = f
    · rw [if_pos e, if_pos e]; simpa using h'
    · rw [if_neg e, if_neg e]; simp [putX_len f y h']
theorem DtA.putX {K : KC} {ps : Addr → Prop} {H : Hp} (f : Str) {v : V} {d : D} (hv : Dt K ps H v d) : ∀ {fs : List Str} {xs : List V} {ds : List D}, DtA K ps H xs ds → fs.length = ds.length → DtA K ps H (putX f v fs xs) (putX f d fs ds)
  | [], xs, ds, _, h => .cons hv .nil
  | g :: r, [], ds, h, hl => by
    have := h.1
    rw [← this] at hl
    cases hl
  | g :: r, x :: xs, [], h, hl => by cases hl
  | g :: r, x :: xs, e :: es, h, hl => by
    have hl' : r.length = es.length := by simpa using hl
    have hx : Dt K ps H x e := h.2 0 x e rfl rfl
    have ht : DtA K ps H xs es := ⟨by simpa using h.1, fun i y f e1 e2 => h.2 (i + 1) y f (by simpa using e1) (by simpa using e2)⟩
    unfold Q.putX
    by_cases e : g = f
    · rw [if_pos e, if_pos e]; exact .cons hv ht
    · rw [if_neg e, if_neg e]; exact .cons hx (DtA.putX f hv ht hl')
def mSetF (k : Nat) (cs : List Nat) (f : Str) (v : ME) : MS := fun e => bnd (v e) fun x e1 => match tkf x e1 with
  | some (y, e2) => (match e2[k]? with
    | some (some (.mob c fs ds)) => if cs.contains c = true ∧ fs.length < 1000 then some (.ok .nx (e2.set k (some (.mob c (putN f fs) (putX f y fs ds))))) else none
    | _ => none)
  | none => none
section
variable {C : Cn} {te ta tb tc : TE} {ma mb mc : ME} {tt tu : TT} {mt mu : MT} {tr : TA} {mr : MA} {t u : TS} {ms mv : MS}
theorem Good.mobAt {B : Bs} {σ0 σ : St} {H : Hp} {env : Env} {ts : List (V × D)} {S : Ix → Addr → Prop} {n c : Nat} {fs : List Str} {ds : List D} (g : Good C B σ0 H σ env ts S) (he : env[n]? = some (some (.mob c fs ds))) : ∃ a Ca dx xs, σ[n]? = some (some (.ref a)) ∧ H a = some (.ins Ca dx (fs.zip xs)) ∧ C.K.cv c = .ref Ca ∧ fs.length = ds.length ∧ DtA C.K (pset B S) H xs ds := by
  obtain ⟨v, hv, ho⟩ := g.slot n _ he
  cases ho with
  | fz h _ => cases h
  | mob h1 h5 h4 h2 h3 => exact ⟨_, _, _, _, hv, h1, h5, h4, h2⟩
theorem Good.mutF {B : Bs} {σ0 σ : St} {H : Hp} {env : Env} {ts : List (V × D)} {S : Ix → Addr → Prop} (g : Good C B σ0 H σ env ts S) {n c : Nat} {fs fs' : List Str} {ds ds' : List D} {a Ca dx : Addr} {xs xs' : List V} (he : env[n]? = some (some (.mob c fs ds))) (hv : σ[n]? = some (some (.ref a))) (ha : H a = some (.ins Ca dx (fs.zip xs))) (hc : C.K.cv c = .ref Ca) (hl : fs'.length = ds'.length) (h' : DtA C.K (pset B S) H xs' ds') :
    Rep C B σ0 (L2.upd H a (.ins Ca dx (fs'.zip xs'))) σ (env.set n (some (.mob c fs' ds'))) ts := by
  obtain ⟨v, hv', ho⟩ := g.slot n _ he
  rw [hv] at hv'; cases hv'
  cases ho with
  | fz h _ => cases h
  | mob h1 h5 h4 h2 h3 =>
    have hsa : S (.inl n) a := (h3 a).mpr rfl
    refine ⟨_, g.put he hv (S (.inl n)) (.mut hsa) (fun b hb => ⟨.inl hb, ?_⟩) ?_⟩
    · rw [(h3 b).mp hb, upd_same]; simp
    · refine .mob upd_same hc hl (h'.move (.mut (.inr ⟨_, hsa⟩)) fun b z => ?_) h3
      rcases z with z | ⟨i, z⟩
      · exact .inl (.inl z)
      · by_cases hi : i = .inl n
        · subst hi; exact .inl (.inr ⟨_, su_same.mp z⟩)
        · exact .inl (.inr ⟨_, (su_ne hi).mp z⟩)
theorem ss_setF {k : Nat} {cs : List Nat} {f g : Str} (hfg : f = g) (h : FldOk C.K cs f) (hv : SE C ta ma) : SS C (sFld C.K (tVar k) ta f) (mSetF k cs g ma) := by
  subst hfg
  intro B σ0 σ H env ts R ht z hm E hE
  rcases bnd_inv hm with ⟨x, e, h1, rfl⟩ | ⟨x, e1, h1, h2⟩
  · exact hv B σ0 σ H env ts R _ h1 _ (hE σ)
  · refine hv B σ0 σ H env ts R _ h1 _ fun v H1 ⟨S, g⟩ => ?_
    split at h2
    · rename_i y e2 h3
      split at h2
      · rename_i c fs ds h4
        split at h2
        · rename_i hc
          cases h2
          obtain ⟨S2, g2, hy⟩ := g.takenF (ts1 := []) h3
          obtain ⟨a, Ca, dx, xs, hs, ha, hcv, hl, hA⟩ := g2.mobAt h4
          obtain ⟨C', e1, q4, q5⟩ := h c hc.1
          rw [hcv] at e1; cases e1
          refine ⟨_, hs, a, Ca, dx, _, rfl, ha, q4, q5, ?_, ?_⟩
          · rw [List.length_zip, hA.1, ← hl, Nat.min_self]; exact hc.2
          · rw [putF_zip f v (by rw [hA.1]; exact hl)]
            have R3 := g2.mutF (fs' := putN f fs) (xs' := putX f v fs xs) h4 hs ha hcv (putX_len f y hl) (DtA.putX f hy hA hl)
            exact hE σ _ R3.pop
        · cases h2
      · cases h2
    · cases h2
end
/-! ### temporaries in another order, a slot's thing as a temporary -/
section
variable {C : Cn} {B : Bs} {σ0 σ : St} {H H1 : Hp} {env env1 : Env} {ts ts1 : List (V × D)} {S : Ix → Addr → Prop} {v : V} {d : D}
theorem Good.reord (g : Good C B σ0 H σ env ts S) (π : Nat → Nat) (hπ : ∀ j p, ts1[j]? = some p → ts[π j]? = some p) (inj : ∀ i j, i < ts1.length → j < ts1.length → π i = π j → i = j) : Rep C B σ0 H σ env ts1 := by
  let U : Ix → Addr → Prop := fun i a => match i with
    | .inl k => S (.inl k) a
    | .inr j => j < ts1.length ∧ S (.inr (π j)) a
  have hU : ∀ i a, U i a → ∃ k, S k a ∧ ((∃ n, i = .inl n ∧ k = .inl n) ∨ ∃ n, i = .inr n ∧ n < ts1.length ∧ k = .inr (π n)) := by
    intro i a h
    cases i with
    | inl n => exact ⟨.inl n, h, .inl ⟨n, rfl, rfl⟩⟩
    | inr j => exact ⟨.inr (π j), h.2, .inr ⟨j, rfl, h.1, rfl⟩⟩
  have hp : ∀ a, pset B U a → pset B S a := by
    rintro a (h | ⟨i, h⟩)
    · exact .inl h
    · obtain ⟨k, h, _⟩ := hU i a h; exact .inr ⟨k, h⟩
  refine ⟨U, g.kp, g.fr, fun i a h => ?_, fun i a h => ?_, fun i j a h1 h2 => ?_, g.len, g.keep, fun i d e => ?_, fun j v d e => ?_, fun p hq => (g.hld p hq).move .refl fun a z => .inl (hp a z), g.fx⟩
  · obtain ⟨k, h, _⟩ := hU i a h; exact g.sub k a h
  · obtain ⟨k, h, _⟩ := hU i a h; exact g.trk k a h
  · obtain ⟨k1, q1, w1⟩ := hU i a h1
    obtain ⟨k2, q2, w2⟩ := hU j a h2
    have e := g.dis _ _ a q1 q2
    subst e
    rcases w1 with ⟨n1, rfl, e1⟩ | ⟨n1, rfl, l1, e1⟩ <;> rcases w2 with ⟨n2, rfl, e2⟩ | ⟨n2, rfl, l2, e2⟩
    · rw [e1] at e2; injection e2 with e2; rw [e2]
    · rw [e1] at e2; cases e2
    · rw [e1] at e2; cases e2
    · rw [e1] at e2; injection e2 with e2; rw [inj n1 n2 l1 l2 e2]
  · obtain ⟨v, h1, h2⟩ := g.slot i d e
    exact ⟨v, h1, h2.move .refl (fun a z => .inl (hp a z)) fun _ _ => rfl⟩
  · have hj : j < ts1.length := (List.getElem?_eq_some_iff.mp e).1
    rcases g.tmp (π j) v d (hπ j _ e) with h | h
    · exact .inl h
    · exact .inr ((h.move .refl (fun a z => .inl (hp a z)) fun _ _ => rfl).iff fun b => ⟨fun z => z.2, fun z => ⟨hj, z⟩⟩)
/-- slot k's thing becomes a temporary; the slot keeps its bare value -/
theorem Good.slotOut (g : Good C B σ0 H σ env [] S) {k : Nat} (he : env[k]? = some (some d)) (hv : σ[k]? = some (some v)) : ∃ S', Good C B σ0 H σ (env.set k (some (.cst v))) [(v, d)] S' := by
  obtain ⟨v', hv', ho⟩ := g.slot k d he
  rw [hv] at hv'; cases hv'
  have hkl : k < env.length := (List.getElem?_eq_some_iff.mp he).1
  let U : Ix → Addr → Prop := fun i a => (i = .inr 0 ∧ S (.inl k) a) ∨ (∃ n, i = .inl n ∧ n ≠ k ∧ S (.inl n) a)
  have hp : ∀ a, pset B U a → pset B S a := by
    rintro a (h | ⟨i, ⟨_, h⟩ | ⟨n, _, _, h⟩⟩)
    · exact .inl h
    · exact .inr ⟨_, h⟩
    · exact .inr ⟨_, h⟩
  refine ⟨U, g.kp, g.fr, fun i a h => ?_, fun i a h => ?_, fun i j a h1 h2 => ?_, by rw [List.length_set]; exact g.len, g.keep, fun i d' e => ?_, fun j v' d' e => ?_, fun p hq => (g.hld p hq).move .refl fun a z => .inl (hp a z), g.fx⟩
  · rcases h with ⟨_, h⟩ | ⟨n, _, _, h⟩ <;> exact g.sub _ a h
  · rcases h with ⟨_, h⟩ | ⟨n, _, _, h⟩ <;> exact g.trk _ a h
  · rcases h1 with ⟨rfl, h1⟩ | ⟨n1, rfl, l1, h1⟩ <;> rcases h2 with ⟨rfl, h2⟩ | ⟨n2, rfl, l2, h2⟩
    · rfl
    · have := g.dis _ _ a h1 h2; injection this with this; exact absurd this.symm l2
    · have := g.dis _ _ a h1 h2; injection this with this; exact absurd this l1
    · have := g.dis _ _ a h1 h2; injection this with this; rw [this]
  · by_cases hi : i = k
    · subst hi
      rw [List.getElem?_set_self hkl] at e
      cases e
      refine ⟨v, hv, .fz (.cst v) fun b z => ?_⟩
      rcases z with ⟨z, _⟩ | ⟨n, z, l, _⟩
      · cases z
      · injection z with z; exact l z.symm
    · rw [List.getElem?_set_ne (Ne.symm hi)] at e
      obtain ⟨w, h1, h2⟩ := g.slot i d' e
      refine ⟨w, h1, (h2.move .refl (fun a z => .inl (hp a z)) fun _ _ => rfl).iff fun b => ⟨fun z => ?_, fun z => .inr ⟨i, rfl, hi, z⟩⟩⟩
      rcases z with ⟨z, _⟩ | ⟨n, z, _, w⟩
      · cases z
      · injection z with z; subst z; exact w
  · cases j with
    | zero =>
      simp at e
      obtain ⟨rfl, rfl⟩ := e
      refine .inr ((ho.move .refl (fun a z => .inl (hp a z)) fun _ _ => rfl).iff fun b => ⟨fun z => ?_, fun z => .inl ⟨rfl, z⟩⟩)
      rcases z with ⟨_, z⟩ | ⟨n, z, _, _⟩
      · exact z
      · cases z
    | succ j => simp at e
end
end Q


/-! ### instances: making, methods (with slots' exceptions) -/
namespace L2
open PySem PySem.Spec PyProof.Rows
section
variable {X : Cx} {CX : CXT} {k : Nat} {f C : Addr} {fd : FuncData} {ps : List Str} {sp : Sp} {E : St → XK} {x m : Str} {p pos apos : Pos} {e o : Expr} {es : List Expr} {ta : TE} {t : TA}
def tMakeS (C : Addr) (sp : Sp) (E : St → XK) (t : TA) : TE := fun σ H Q => t σ H fun vs H1 => ∀ x dx, H1 x = none → H1 dx = none → dx ≠ x → sp (.ref x :: vs) (upd (upd H1 dx (.own x)) x (.ins C dx [])) (fun v H2 => v = .non ∧ Q (.ref x) H2) (E σ)
theorem run_makeS {pins : List (Addr × Obj)} {σ : St} {H : Hp} {s : Shared} {Q : VK} {us : List Value} {vs : List V} (M : Mk X.K C f) (F : FnOk X.prog X.w X.K X.mg X.base CX k f fd ps sp) (hr : Room (k + 1) X.A) (hb : Binds X.K fd ps [])
    (hx : PassesAt CX X σ (E σ)) (I : Inv X pins σ H s) (r : Vals vs us)
    (h : ∀ x dx, H x = none → H dx = none → dx ≠ x → sp (.ref x :: vs) (upd (upd H dx (.own x)) x (.ins C dx [])) (fun v H2 => v = .non ∧ Q (.ref x) H2) (E σ)) :
    wpAny (model X.prog X.w) X.A (call (.ref C) us) (EP X pins σ Q) X.xe s := by
  have hq := h (s.heap.objs.size + 1) s.heap.objs.size (I.hok.fresh (Nat.le_succ _)) (I.hok.fresh (Nat.le_refl _)) (Nat.ne_of_lt (Nat.lt_succ_self _))
  have I2 := Inv.made (C := C) I
  have r2 : Vals (V.ref (s.heap.objs.size + 1) :: vs) (Value.ref (s.heap.objs.size + 1) :: us) := .cons rfl r
  have hl : (Value.ref (s.heap.objs.size + 1) :: us ++ []).length = ps.length := by
    have e := r2.length
    rw [F.len _ _ _ _ hq] at e
    rw [List.append_nil]
    exact e.symm
  have b := hb _ (Value.ref (s.heap.objs.size + 1) :: us) I2.kIn hl
  rw [List.append_nil] at b
  refine wpAny_call (make_map (f := f) I.kIn M.makes M.init (beq_iff_eq.mp M.fn) (codeAny_mono (F.run _ X.stack _ _ ⟨Value.ref (s.heap.objs.size + 1) :: us, []⟩ (Value.ref (s.heap.objs.size + 1) :: us) _ _ (E σ) (hr.make C us [])
    (I2.env0.make C us []) b r2 hq) fun r s' hq' => ?_))
  cases r with
  | error e => exact hx pins _ _ e s' I2 hq'
  | ok fl =>
    cases fl with
    | ret u =>
      obtain ⟨v, H', I3, rv, ev, q3⟩ := I2.after hq'
      subst ev
      exact ⟨rv, ⟨V.ref (s.heap.objs.size + 1), H', I3, rfl, q3⟩⟩
    | next => exact False.elim hq'
    | brk => exact False.elim hq'
    | cont => exact False.elim hq'
theorem pe_makeS (M : Mk X.K C f) (F : FnOk X.prog X.w X.K X.mg X.base CX k f fd ps sp) (hr : Room (k + 1) X.A) (hg : Gl X x) (hm : X.mg x = some (.ref C)) (hb : Binds X.K fd ps []) (hx : ∀ σ, PassesAt CX X σ (E σ))
    (ha : PA X (e :: es) t) (hdb : (x == ("__debug__" : Str)) = false := by decide) (he : starEach (e :: es) X.env = (false, eval e X.env) :: starEach es X.env := by rfl) (hpl : (backTo pos (starEach es X.env)).any (·.1) = false := by rfl) :
    PE X (.Call (.Name x p) (e :: es) [] pos) (tMakeS C sp E t) := by
  refine ⟨fun pins s σ H Q I h => ?_⟩
  refine wpAny_Call_Name_kw (ld_glob I hg hm ?_ hdb)
  refine PySem.W.callWith_K (h₀ := X.base) I.ok.mod.kin M.kp (thn (ha.run pos pins s σ H _ I h) fun us s1 ⟨vs, H1, I1, r, q⟩ => ⟨I1.kIn, ?_⟩) he hpl
  exact run_makeS M F hr hb (hx σ) I1 r q
theorem pe_make0S (M : Mk X.K C f) (F : FnOk X.prog X.w X.K X.mg X.base CX k f fd ps sp) (hr : Room (k + 1) X.A) (hg : Gl X x) (hm : X.mg x = some (.ref C)) (hb : Binds X.K fd ps []) (hx : ∀ σ, PassesAt CX X σ (E σ))
    (hdb : (x == ("__debug__" : Str)) = false := by decide) : PE X (.Call (.Name x p) [] [] pos) (tMakeS C sp E tNil) := by
  refine ⟨fun pins s σ H Q I h => ?_⟩
  refine wpAny_Call_Name_kw (ld_glob I hg hm ?_ hdb)
  exact PySem.W.callWith_K0 I.kIn M.kp (run_makeS (us := []) M F hr hb (hx σ) I .nil h)
/-- a class without an __init__ of its own -/
structure Mk0 (K : PySem.W.Frag) (C : Addr) : Prop where
  makes : PySem.W.makesIn K C = true
  init : PySem.W.findIn K (.ref C) "__init__" = some (some (.builtin "object.__init__"))
  top : PySem.W.mroIn K C (.type "object") = some true
  kp : PySem.W.keepIn K (.ref C) = true
def tMakeO (C : Addr) : TE := fun _ H Q => ∀ x dx, H x = none → H dx = none → dx ≠ x → Q (.ref x) (upd (upd H dx (.own x)) x (.ins C dx []))
theorem pe_makeO (M : Mk0 X.K C) (hg : Gl X x) (hm : X.mg x = some (.ref C)) (hdb : (x == ("__debug__" : Str)) = false := by decide) : PE X (.Call (.Name x p) [] [] pos) (tMakeO C) := by
  refine ⟨fun pins s σ H Q I h => ?_⟩
  refine wpAny_Call_Name_kw (ld_glob I hg hm ?_ hdb)
  refine PySem.W.callWith_K0 I.kIn M.kp (wpAny_call (make_map0 I.kIn M.makes M.init (fun self => PySem.W.Looks.of_pure (PySem.W.oi_bind _)) ?_))
  have I2 := Inv.made (C := C) I
  have ho : ((s.heap.push PySem.W.emptyDict).push (PySem.W.instObj C s.heap.objs.size)).get? (s.heap.objs.size + 1) = some (PySem.W.instObj C s.heap.objs.size) := by
    have := Heap.get?_push_size (s.heap.push PySem.W.emptyDict) (o := PySem.W.instObj C s.heap.objs.size) rfl
    rw [Heap.size_push] at this
    exact this
  have t1 : PySem.W.Looks (model X.prog X.w) ((s.heap.push PySem.W.emptyDict).push (PySem.W.instObj C s.heap.objs.size)) (typeOf (.ref (s.heap.objs.size + 1))) (.ref C) := NwA.type_at ho rfl
  have t2 : PySem.W.Looks (model X.prog X.w) ((s.heap.push PySem.W.emptyDict).push (PySem.W.instObj C s.heap.objs.size)) (isInstance (.ref (s.heap.objs.size + 1)) (.type "object")) true := t1.andThen (PySem.W.looks_mroIn I2.kIn M.top)
  refine codeAny_call_builtin PySem.W.oi_plain PySem.W.entry_oi (@PySem.W.check_slot (model X.prog X.w) _ _ _ "object.__init__" "object" "__init__" (.ref (s.heap.objs.size + 1)) [] [] _ PySem.W.oi_kind PySem.W.oi_split t2 (NwA.oi_args_any (.ref (s.heap.objs.size + 1)) [] []) ?_)
  rw [PySem.W.oi_run]
  exact wpAny_pure (And.intro rfl ⟨V.ref (s.heap.objs.size + 1), _, I2, rfl, h _ _ (I.hok.fresh (Nat.le_succ _)) (I.hok.fresh (Nat.le_refl _)) (Nat.ne_of_lt (Nat.lt_succ_self _))⟩)
/-! methods -/
def tMethSt (C : Addr) (m : Str) (sp : Sp) (E : St → XK) (ta : TE) (t : TA) : TE := fun σ H Q => ta σ H fun x H1 => ∃ a dx fs, x = .ref a ∧ H1 a = some (.ins C dx fs) ∧ fs.lookup m = none ∧ t σ H1 fun vs H2 => sp (x :: vs) H2 Q (E σ)
theorem pe_methSt {pl : Sem Bool} (he : PE X o ta) (c : Cls X.K C) (hm : Meth X.K C m f) (F : FnOk X.prog X.w X.K X.mg X.base CX k f fd ps sp) (hr : Room k X.A) (hb : Binds X.K fd ps []) (hx : ∀ σ, PassesAt CX X σ (E σ)) (ha : PA X (e :: es) t)
    (hst : starEach (e :: es) X.env = (false, eval e X.env) :: starEach es X.env := by rfl) (hpl : (backTo pos (starEach es X.env)).any (·.1) = false := by rfl)
    (ht : eval (.Call (.Attribute o m apos) (e :: es) [] pos) X.env = (do
      let ov ← eval o X.env
      standAt apos.atName
      let (f, first) ← holding [ov] (getMethod ov m pl)
      callWith pos f first (backTo pos (starEach (e :: es) X.env)) (backToKw pos (keywordEach [] X.env))) := by rfl) :
    PE X (.Call (.Attribute o m apos) (e :: es) [] pos) (tMethSt C m sp E ta t) := by
  refine ⟨fun pins s σ H Q I h => ?_⟩
  refine PySem.W.methodCall_KW (pl := pl) (thn (he.run pins s σ H _ I h) fun u s1 ⟨x, H1, I1, rx, a, dx, fs, ex, ea, l, q⟩ => ?_) ht
  subst ex
  obtain rfl : u = Value.ref a := rx
  refine getmeth_ok I1 ea c hm l ?_
  refine PySem.W.callWith_K (first := [.ref a]) (h₀ := X.base) I.ok.mod.kin hm.kp (thn (ha.run pos pins s1 σ H1 _ I1 q) fun us s2 ⟨vs, H2, I2, r, q2⟩ => ⟨I2.kIn, ?_⟩) hst hpl
  exact run_fnS (us := .ref a :: us) (vs := .ref a :: vs) F hr hb (hx σ) I2 (.cons rfl r) q2
theorem pe_methSt0 {pl : Sem Bool} (he : PE X o ta) (c : Cls X.K C) (hm : Meth X.K C m f) (F : FnOk X.prog X.w X.K X.mg X.base CX k f fd ps sp) (hr : Room k X.A) (hb : Binds X.K fd ps []) (hx : ∀ σ, PassesAt CX X σ (E σ))
    (ht : eval (.Call (.Attribute o m apos) [] [] pos) X.env = (do
      let ov ← eval o X.env
      standAt apos.atName
      let (f, first) ← holding [ov] (getMethod ov m pl)
      callWith pos f first (backTo pos (starEach [] X.env)) (backToKw pos (keywordEach [] X.env))) := by rfl) :
    PE X (.Call (.Attribute o m apos) [] [] pos) (tMethSt C m sp E ta tNil) := by
  refine ⟨fun pins s σ H Q I h => ?_⟩
  refine PySem.W.methodCall_KW (pl := pl) (thn (he.run pins s σ H _ I h) fun u s1 ⟨x, H1, I1, rx, a, dx, fs, ex, ea, l, q⟩ => ?_) ht
  subst ex
  obtain rfl : u = Value.ref a := rx
  refine getmeth_ok I1 ea c hm l ?_
  exact PySem.W.callWith_K0 (first := [.ref a]) I1.kIn hm.kp (run_fnS (us := [.ref a]) (vs := [.ref a]) F hr hb (hx σ) I1 (.cons rfl .nil) q)
theorem pe_or2 {t u : TE} (h : PE X e t) (k : PE X e u) : PE X e (fun σ H Q => t σ H Q ∨ u σ H Q) := ⟨fun pins s σ H Q I h' => h'.elim (h.run pins s σ H Q I) (k.run pins s σ H Q I)⟩
end
end L2


namespace L2
open PySem PySem.Spec PyProof.Rows
section
variable {X : Cx} {CX : CXT} {k : Nat} {E : St → XK} {m : Str} {pos apos : Pos} {e o : Expr} {es : List Expr} {ta : TE} {t : TA}
/-- a class's method, by its promise -/
def MethF (X : Cx) (CX : CXT) (m : Str) (p : Addr × Sp) : Prop := ∃ (k : Nat) (f : Addr) (fd : FuncData) (ps : List Str), Cls X.K p.1 ∧ Meth X.K p.1 m f ∧ FnOk X.prog X.w X.K X.mg X.base CX k f fd ps p.2 ∧ Room k X.A ∧ Binds X.K fd ps []
def tMethT (L : List (Addr × Sp)) (m : Str) (E : St → XK) (ta : TE) (t : TA) : TE := fun σ H Q => ta σ H fun x H1 => ∃ p ∈ L, ∃ a dx fs, x = .ref a ∧ H1 a = some (.ins p.1 dx fs) ∧ fs.lookup m = none ∧ t σ H1 fun vs H2 => p.2 (x :: vs) H2 Q (E σ)
theorem pe_methT {pl : Sem Bool} {L : List (Addr × Sp)} (hL : ∀ p ∈ L, MethF X CX m p) (he : PE X o ta) (hx : ∀ σ, PassesAt CX X σ (E σ)) (ha : PA X (e :: es) t)
    (hst : starEach (e :: es) X.env = (false, eval e X.env) :: starEach es X.env := by rfl) (hpl : (backTo pos (starEach es X.env)).any (·.1) = false := by rfl)
    (ht : eval (.Call (.Attribute o m apos) (e :: es) [] pos) X.env = (do
      let ov ← eval o X.env
      standAt apos.atName
      let (f, first) ← holding [ov] (getMethod ov m pl)
      callWith pos f first (backTo pos (starEach (e :: es) X.env)) (backToKw pos (keywordEach [] X.env))) := by rfl) :
    PE X (.Call (.Attribute o m apos) (e :: es) [] pos) (tMethT L m E ta t) := by
  refine ⟨fun pins s σ H Q I h => ?_⟩
  refine PySem.W.methodCall_KW (pl := pl) (thn (he.run pins s σ H _ I h) fun u s1 ⟨x, H1, I1, rx, p, hp, a, dx, fs, ex, ea, l, q⟩ => ?_) ht
  subst ex
  obtain rfl : u = Value.ref a := rx
  obtain ⟨k, f, fd, ps, c, hm, F, hr, hb⟩ := hL p hp
  refine getmeth_ok I1 ea c hm l ?_
  refine PySem.W.callWith_K (first := [.ref a]) (h₀ := X.base) I.ok.mod.kin hm.kp (thn (ha.run pos pins s1 σ H1 _ I1 q) fun us s2 ⟨vs, H2, I2, r, q2⟩ => ⟨I2.kIn, ?_⟩) hst hpl
  exact run_fnS (us := .ref a :: us) (vs := .ref a :: vs) F hr hb (hx σ) I2 (.cons rfl r) q2
theorem pe_methT0 {pl : Sem Bool} {L : List (Addr × Sp)} (hL : ∀ p ∈ L, MethF X CX m p) (he : PE X o ta) (hx : ∀ σ, PassesAt CX X σ (E σ))
    (ht : eval (.Call (.Attribute o m apos) [] [] pos) X.env = (do
      let ov ← eval o X.env
      standAt apos.atName
      let (f, first) ← holding [ov] (getMethod ov m pl)
      callWith pos f first (backTo pos (starEach [] X.env)) (backToKw pos (keywordEach [] X.env))) := by rfl) :
    PE X (.Call (.Attribute o m apos) [] [] pos) (tMethT L m E ta tNil) := by
  refine ⟨fun pins s σ H Q I h => ?_⟩
  refine PySem.W.methodCall_KW (pl := pl) (thn (he.run pins s σ H _ I h) fun u s1 ⟨x, H1, I1, rx, p, hp, a, dx, fs, ex, ea, l, q⟩ => ?_) ht
  subst ex
  obtain rfl : u = Value.ref a := rx
  obtain ⟨k, f, fd, ps, c, hm, F, hr, hb⟩ := hL p hp
  refine getmeth_ok I1 ea c hm l ?_
  exact PySem.W.callWith_K0 (first := [.ref a]) I1.kIn hm.kp (run_fnS (us := [.ref a]) (vs := [.ref a]) F hr hb (hx σ) I1 (.cons rfl .nil) q)
end
end L2
namespace Q
open PySem L2
theorem Post.mobNew {K : KC} {ps : Addr → Prop} {H : Hp} {x dx Ca : Addr} {c : Nat} (hx : H x = none) (hd : H dx = none) (hne : dx ≠ x) (hc : K.cv c = .ref Ca) : Post K ps H (upd (upd H dx (.own x)) x (.ins Ca dx [])) (.ref x) (.mob c [] []) := by
  have h1 : (upd H dx (.own x)) x = none := by rw [upd_ne (Ne.symm hne)]; exact hx
  refine ⟨(Kp.new hd).trans (.new h1), fun a => a = x, fun a e => by subst e; exact ⟨hx, by rw [upd_same]; simp⟩, ?_⟩
  exact .mob (xs := []) upd_same hc rfl .nil fun _ => Iff.rfl
def mMakeO (c : Nat) : ME := fun e => some (.ok (.mob c [] []) e)
def mMake (c : Nat) (mf : MF) (a : MA) : ME := fun e => bnd (a e) fun xs e1 => match lend (.mob c [] [] :: xs) e1 with
  | some ds => if alsOk xs = true then (match mf ds with
    | some (.ok .non (.mob c' fs' ds0 :: ds')) => if ds'.length + 1 = ds.length then some (.ok (.mob c' fs' ds0) (back xs ds' e1)) else none
    | some (.ex x ds') => if ds'.length = ds.length then some (.ex x (back (.mob c [] [] :: xs) ds' e1)) else none
    | _ => none) else none
  | none => none
def mMeth (tab : Nat → Option MF) (m : Str) (o : ME) (a : MA) : ME := fun e => bnd (o e) fun x e1 => match res e1 x with
  | some d => (match objD d with
    | some (c, fs, _) => if hasK fs m = false then (match tab c with
      | some mf => bnd (a e1) fun xs e2 => (match lend (x :: xs) e2 with
        | some ds => if alsOk (x :: xs) = true then (match mf ds with
          | some (.ok d ds') => if ds'.length = ds.length then some (.ok d (back (x :: xs) ds' e2)) else none
          | some (.ex x' ds') => if ds'.length = ds.length then some (.ex x' (back (x :: xs) ds' e2)) else none
          | none => none) else none
        | none => none)
      | none => none) else none
    | none => none)
  | none => none
theorem lookup_none {fs : List Str} {m : Str} (h : hasK fs m = false) : ∀ (xs : List V), (fs.zip xs).lookup m = none := by
  induction fs with
  | nil => intro xs; rfl
  | cons g r ih =>
    intro xs
    cases xs with
    | nil => rfl
    | cons x xs =>
      simp only [hasK, List.any_cons, Bool.or_eq_false_iff, decide_eq_false_iff_not] at h
      rw [List.zip_cons_cons, List.lookup_cons]
      have : (m == g) = false := by simpa using fun z => h.1 z.symm
      rw [this]
      exact ih h.2 xs
section
variable {C : Cn} {te ta tb tc : TE} {ma mb mc : ME} {tt tu : TT} {mt mu : MT} {tr : TA} {mr : MA} {t u : TS} {ms mv : MS}
theorem se_makeO {c : Nat} {Ca : Addr} (hc : C.K.cv c = .ref Ca) : SE C (tMakeO Ca) (mMakeO c) := by
  rintro B σ0 σ H env ts ⟨S, g⟩ r hm Q hq
  cases hm
  intro x dx hx hd hne
  exact hq _ _ (Good.prim (ts1 := []) (by rw [List.append_nil]; exact g) (Post.mobNew hx hd hne hc))
theorem se_make {c : Nat} {Ca : Addr} {mf : MF} (hc : C.K.cv c = .ref Ca) (ha : SA C tr mr) : SE C (tMakeS Ca (spM C.K mf) (fun σ c o H => C.W c o σ H) tr) (mMake c mf mr) := by
  intro B σ0 σ H env ts R z hm Q hq
  rcases bnd_inv hm with ⟨x, e, h1, rfl⟩ | ⟨xs, e1, h1, h2⟩
  · exact ha B σ0 σ H env ts R _ h1 _ hq
  · refine ha B σ0 σ H env ts R _ h1 _ fun vs H1 hl ⟨S, g⟩ => ?_
    intro x dx hx hd hne
    obtain ⟨S1, g1⟩ := Good.prim (ts := ts ++ vs.zip xs) (ts1 := []) (by rw [List.append_nil]; exact g) (Post.mobNew (K := C.K) (ps := pset B S) hx hd hne hc)
    have hz : (vs.zip xs).length = vs.length := by rw [List.length_zip, hl, Nat.min_self]
    have R2 : Rep C B σ0 (upd (upd H1 dx (.own x)) x (.ins Ca dx [])) σ e1 (ts ++ ((.ref x :: vs).zip (.mob c [] [] :: xs))) := by
      refine g1.reord (fun j => if j < ts.length then j else if j = ts.length then ts.length + vs.length else j - 1) (fun j p e => ?_) fun i j hi hj e => ?_
      · by_cases c1 : j < ts.length
        · rw [if_pos c1]
          rw [List.getElem?_append_left c1] at e
          rw [List.append_assoc, List.getElem?_append_left c1]; exact e
        · rw [if_neg c1]
          rw [List.getElem?_append_right (by omega), List.zip_cons_cons] at e
          by_cases c2 : j = ts.length
          · subst c2
            rw [Nat.sub_self, List.getElem?_cons_zero] at e
            rw [if_pos rfl, List.getElem?_append_right (by rw [List.length_append]; omega), List.length_append, hz, Nat.sub_self]
            simpa using e
          · rw [if_neg c2]
            obtain ⟨n, hn⟩ : ∃ n, j - ts.length = n + 1 := ⟨j - ts.length - 1, by omega⟩
            rw [hn, List.getElem?_cons_succ] at e
            have hnl : n < (vs.zip xs).length := (List.getElem?_eq_some_iff.mp e).1
            rw [List.getElem?_append_left (by rw [List.length_append]; omega), List.getElem?_append_right (by omega)]
            have : j - 1 - ts.length = n := by omega
            rw [this]; exact e
      · have hlen : (ts ++ ((V.ref x :: vs).zip (D.mob c [] [] :: xs))).length = ts.length + (vs.length + 1) := by
          rw [List.length_append, List.zip_cons_cons, List.length_cons, hz]
        rw [hlen] at hi hj
        split at e <;> split at e <;> (try split at e) <;> (try split at e) <;> omega
    obtain ⟨S2, g2⟩ := R2
    split at h2
    · rename_i ds hds
      split at h2
      · rename_i hal
        obtain ⟨B', hB, R', hback⟩ := g2.call (by simp [hl]) hds (show alsOk (.mob c [] [] :: xs) = true from hal)
        have hdl := lend_len hds
        split at h2
        · rename_i c' fs' ds0 ds' hf
          split at h2
          · rename_i hl2
            cases h2
            refine ⟨B', ds, _, hB, by rw [← hdl]; simp [hl], hf, R', fun v H' hd' ⟨S', g'⟩ => ?_⟩
            have hv : v = .non := by
              rcases g'.tmp 0 v .non rfl with ⟨k, e, _⟩ | ho
              · cases e
              · exact (ho.dt rfl).inv_non
            refine ⟨hv, ?_⟩
            have g'' : Good (fC C.K) B' ((V.ref x :: vs).map some) H' ((V.ref x :: vs).map some) ((D.mob c' fs' ds0 :: ds').map some) [] S' := Good.pop (ts := []) (ts1 := [(v, .non)]) g'
            obtain ⟨S3, g3⟩ := g''.slotOut (k := 0) (d := .mob c' fs' ds0) (v := .ref x) rfl rfl
            obtain ⟨U, gU, _⟩ := hback H' (.cst (.ref x) :: ds') [(.ref x, .mob c' fs' ds0)] S3 (by simpa using hl2) (fun p hp => by simp at hp; subst hp; rfl) (by simpa using g3)
            exact hq _ _ ⟨U, gU⟩
          · cases h2
        · rename_i x' ds' hf
          split at h2
          · rename_i hl2
            cases h2
            refine ⟨B', ds, _, hB, by rw [← hdl]; simp [hl], hf, R', fun c o H' ⟨S', g', hx'⟩ => ?_⟩
            obtain ⟨U, gU, hU⟩ := hback H' ds' _ S' hl2 (fun p hp => by simp at hp) g'
            exact hq c o H' ⟨U, by simpa using gU, XOk.less (C := C) hx' hU⟩
          · cases h2
        · cases h2
      · cases h2
    · cases h2
theorem se_methT {tab : Nat → Option MF} {m m' : Str} {L : List (Addr × Sp)} (hmm : m = m') (hT : ∀ c mf, tab c = some mf → ∃ Ca, C.K.cv c = .ref Ca ∧ (Ca, spM C.K mf) ∈ L) (ho : SE C ta ma) (ha : SA C tr mr) :
    SE C (tMethT L m (fun σ c o H => C.W c o σ H) ta tr) (mMeth tab m' ma mr) := by
  subst hmm
  intro B σ0 σ H env ts R z hm Q hq
  rcases bnd_inv hm with ⟨x, e, h1, rfl⟩ | ⟨x, e1, h1, h2⟩
  · exact ho B σ0 σ H env ts R _ h1 _ hq
  · refine ho B σ0 σ H env ts R _ h1 _ fun v H1 R1 => ?_
    split at h2
    · rename_i d hr
      split at h2
      · rename_i c fs dd hd
        split at h2
        · rename_i hk
          split at h2
          · rename_i mf htab
            obtain ⟨S, g⟩ := R1
            have px : Peek C.K (pset B S) H1 v d := g.look (j := ts.length) (v := v) (d := x) (by simp) hr
            obtain ⟨a, Ca, dx, xs0, rfl, h3, h4, h5, hA⟩ := px.ob hd
            obtain ⟨Ca', e5, hm5⟩ := hT c mf htab
            rw [h4] at e5; cases e5
            refine ⟨(Ca, spM C.K mf), hm5, a, dx, _, rfl, h3, lookup_none hk xs0, ?_⟩
            rcases bnd_inv h2 with ⟨y, e, h6, rfl⟩ | ⟨xs, e2, h6, h7⟩
            · exact ha B σ0 σ H1 e1 _ ⟨S, g⟩ _ h6 _ (XW.push hq)
            · refine ha B σ0 σ H1 e1 _ ⟨S, g⟩ _ h6 _ fun vs H2 hl ⟨S2, g2⟩ => ?_
              have g2' : Good C B σ0 H2 σ e2 (ts ++ ((.ref a :: vs).zip (x :: xs))) S2 := by
                rw [List.zip_cons_cons]
                have : ts ++ [(V.ref a, x)] ++ vs.zip xs = ts ++ (V.ref a, x) :: vs.zip xs := by simp
                rw [← this]; exact g2
              split at h7
              · rename_i ds hds
                split at h7
                · rename_i hal
                  obtain ⟨B', hB, R', hback⟩ := g2'.call (by simp [hl]) hds hal
                  have hdl := lend_len hds
                  split at h7
                  · rename_i d' ds' hf
                    split at h7
                    · rename_i hl2
                      cases h7
                      refine ⟨B', ds, _, hB, by rw [← hdl]; simp [hl], hf, R', fun v H' hd ⟨S', g'⟩ => ?_⟩
                      obtain ⟨U, gU, _⟩ := hback H' ds' _ S' hl2 (fun p hp => by simp at hp; subst hp; exact hd) g'
                      exact hq _ _ ⟨U, gU⟩
                    · cases h7
                  · rename_i x' ds' hf
                    split at h7
                    · rename_i hl2
                      cases h7
                      refine ⟨B', ds, _, hB, by rw [← hdl]; simp [hl], hf, R', fun c o H' ⟨S', g', hx⟩ => ?_⟩
                      obtain ⟨U, gU, hU⟩ := hback H' ds' _ S' hl2 (fun p hp => by simp at hp) g'
                      exact hq c o H' ⟨U, by simpa using gU, XOk.less (C := C) hx hU⟩
                    · cases h7
                  · cases h7
                · cases h7
              · cases h7
          · cases h2
        · cases h2
      · cases h2
    · cases h2
end
end Q


namespace Q
open PySem L2
theorem methL_nil {X : Cx} {CX : CXT} {m : Str} : ∀ p ∈ ([] : List (Addr × Sp)), MethF X CX m p := fun p h => by cases h
theorem methL_cons {X : Cx} {CX : CXT} {m : Str} {p : Addr × Sp} {L : List (Addr × Sp)} (h : MethF X CX m p) (t : ∀ p ∈ L, MethF X CX m p) : ∀ q ∈ p :: L, MethF X CX m q := fun q hq => by
  rcases List.mem_cons.mp hq with rfl | hq
  · exact h
  · exact t q hq
/-! ### d.get(k) -/
def tGet1 (K : PySem.W.Frag) (td ty : TE) : TE := fun σ H Z => td σ H fun x H1 => ∃ a, x = .ref a ∧ IsD H1 a ∧ ty σ H1 fun y H2 => ∃ o, DGetS K H2 a y o ∧ Z (o.getD .non) H2
theorem pe_get1 {X : Cx} {o e : Expr} {apos cpos : Pos} {td ty : TE} (hu : X.A.units + 64 < cLine) (ho : PE X o td) (he : PE X e ty)
    (base : attributeBase o "get" X.env (eval o X.env) = eval o X.env := by rfl)
    (few : ((backTo cpos (starEach [e] X.env)).all (fun x => !x.1) && (backToKw cpos (keywordEach [] X.env)).all (fun x => x.1.isSome)
      && decide (([e] : List Expr).length + ([] : List Keyword).length + (if ([] : List Keyword).isEmpty then 0 else 1) < 30)) = true := by rfl)
    (line : (apos.endLine == cpos.line) = true := by rfl)
    (trees : backTo cpos (starEach [e] X.env) = [(false, eval e X.env)] := by rfl) : PE X (.Call (.Attribute o "get" apos) [e] [] cpos) (tGet1 X.K td ty) := by
  refine ⟨fun pins s σ H Z I h => ?_⟩
  refine wpAny_Call_method base few line PySem.F.plainAttrs_dict PySem.F.slot_dict_get PySem.F.type_dict_get (thn (ho.run pins s σ H _ I h) fun u s1 ⟨x, H1, I1, rx, a, ex, d, q1⟩ => ?_)
  subst ex
  obtain rfl : u = Value.ref a := rx
  obtain ⟨t1, t2, _⟩ := isD_at I1 d
  refine ⟨t1, t2, ?_⟩
  rw [trees]
  refine Calls.callWith_builtin rfl (Calls.evalArgs_plain (Calls.spliced_cons (thn (he.run pins s1 σ H1 _ I1 q1) fun iv s2 ⟨y, H2, I2, ry, ov, g, q2⟩ => Calls.spliced_nil ?_)))
  exact d_get1S (Nat.lt_of_le_of_lt (by omega) hu) I2 g ry fun w' s3 I3 rw' => ⟨_, H2, I3, rw', q2⟩
def isDic : D → Bool | .dct _ _ => true | .mdc _ _ => true | .dtt _ _ => true | .mdt _ _ => true | _ => false
def dGet1 : D → D → Option D
  | .dct ks ds, y => (match keyD y with | some k => some ((findD ks ds k).getD .non) | none => none)
  | .mdc ks ds, y => (match keyD y with | some k => some ((findD ks ds k).getD .non) | none => none)
  | .dtt ks ds, y => (match keysD y with | some k => some ((findD ks ds k).getD .non) | none => none)
  | .mdt ks ds, y => (match keysD y with | some k => some ((findD ks ds k).getD .non) | none => none)
  | _, _ => none
def mGet1 (a b : ME) : ME := fun e => bnd (a e) fun x e1 => match res e1 x with
  | some d => if isDic d = true then bnd (b e1) fun y e2 => ap2 dGet1 x y e2 else none
  | none => none
theorem Peek.isD {K : KC} {ps : Addr → Prop} {H : Hp} {v : V} {d : D} (p : Peek K ps H v d) (e : isDic d = true) : ∃ a, v = .ref a ∧ IsD H a := by
  cases d <;> first | cases e | skip
  · obtain ⟨a, xs, rfl, h1, _⟩ := p.dct; exact ⟨a, rfl, .inl ⟨_, h1⟩⟩
  · obtain ⟨a, xs, rfl, h1, _⟩ := p.mdc; exact ⟨a, rfl, .inl ⟨_, .inl h1⟩⟩
  · obtain ⟨a, xs, rfl, h1, _⟩ := p.dtt; exact ⟨a, rfl, .inr ⟨_, h1⟩⟩
  · obtain ⟨a, xs, rfl, h1, _⟩ := p.mdt; exact ⟨a, rfl, .inr ⟨_, .inl h1⟩⟩
theorem get1_ok {K : KC} {ps : Addr → Prop} {H : Hp} {x y : V} {d d' e : D} (px : Peek K ps H x d) (py : Peek K ps H y d') (h : dGet1 d d' = some e) : ∃ a o, x = .ref a ∧ DGetS K H a y o ∧ Dt K ps H (o.getD .non) e := by
  have dk : ∀ {ks : List Key} {ds : List D}, dctD d = some (ks, ds) → (match keyD d' with | some k => some ((findD ks ds k).getD .non) | none => none) = some e → ∃ a o, x = .ref a ∧ DGetS K H a y o ∧ Dt K ps H (o.getD .non) e := by
    intro ks ds e h
    split at h
    · rename_i k hk
      obtain ⟨a, xs, rfl, h1, h2, h3⟩ := px.dk e
      refine ⟨a, _, rfl, .inl (.inl ⟨_, k, h1, py.key hk, rfl⟩), ?_⟩
      rcases findD_ok (ks := ks) (k := k) h3 h2 with ⟨e1, e2, _⟩ | ⟨v, d2, e1, e2, e4, _⟩
      · rw [e2] at h; cases h; rw [e1]; exact .non
      · rw [e2] at h; cases h; rw [e1]; exact e4
    · cases h
  have tk : ∀ {ks : List (List Key)} {ds : List D}, dttD d = some (ks, ds) → (match keysD d' with | some k => some ((findD ks ds k).getD .non) | none => none) = some e → ∃ a o, x = .ref a ∧ DGetS K H a y o ∧ Dt K ps H (o.getD .non) e := by
    intro ks ds e h
    split at h
    · rename_i k hk
      obtain ⟨a, xs, rfl, h1, h2, h3⟩ := px.tk e
      obtain ⟨b', rfl, hb⟩ := py.keys hk
      refine ⟨a, _, rfl, .inr ⟨_, k, b', h1, rfl, hb, rfl⟩, ?_⟩
      rcases findD_ok (ks := ks) (k := k) h3 h2 with ⟨e1, e2, _⟩ | ⟨v, d2, e1, e2, e4, _⟩
      · rw [e2] at h; cases h; rw [e1]; exact .non
      · rw [e2] at h; cases h; rw [e1]; exact e4
    · cases h
  unfold dGet1 at h
  split at h
  · exact dk rfl h
  · exact dk rfl h
  · exact tk rfl h
  · exact tk rfl h
  · cases h
section
variable {C : Cn} {te ta tb tc : TE} {ma mb mc : ME} {tt tu : TT} {mt mu : MT} {tr : TA} {mr : MA} {t u : TS} {ms mv : MS}
theorem se_get1 (ha : SE C ta ma) (hb : SE C tb mb) : SE C (tGet1 C.K ta tb) (mGet1 ma mb) := by
  intro B σ0 σ H env ts R z hm Q hq
  rcases bnd_inv hm with ⟨x, e, h1, rfl⟩ | ⟨x, e1, h1, h2⟩
  · exact ha B σ0 σ H env ts R _ h1 _ hq
  · refine ha B σ0 σ H env ts R _ h1 _ fun v H1 R1 => ?_
    split at h2
    · rename_i d hr
      split at h2
      · rename_i hd
        obtain ⟨S1, g1⟩ := id R1
        obtain ⟨a, rfl, hD⟩ := (g1.look (j := ts.length) (v := v) (d := x) (by simp) hr).isD hd
        refine ⟨a, rfl, hD, ?_⟩
        rcases bnd_inv h2 with ⟨x2, e, h3, rfl⟩ | ⟨y, e2, h3, h4⟩
        · exact hb B σ0 σ H1 e1 _ R1 _ h3 _ (XW.push hq)
        · refine hb B σ0 σ H1 e1 _ R1 _ h3 _ fun w H2 ⟨S, g⟩ => ?_
          rw [List.append_assoc] at g
          unfold ap2 at h4
          split at h4
          · rename_i x' hx
            split at h4
            · rename_i y' hy
              split at h4
              · rename_i d hd
                cases h4
                obtain ⟨a', o, e5, h6, h7⟩ := get1_ok (g.look (j := ts.length) (v := .ref a) (d := x) (by simp) hx) (g.look (j := ts.length + 1) (v := w) (d := y) (by simp) hy) hd
                cases e5
                exact ⟨o, h6, hq _ _ (g.prim (Post.dt h7))⟩
              · cases h4
            · cases h4
          · cases h4
      · cases h2
    · cases h2
/-! ### {} with tuple keys -/
theorem Post.mdt0 {K : KC} {ps : Addr → Prop} {H : Hp} {p : Addr} (hp : H p = none) : Post K ps H (upd H p (.dT [])) (.ref p) (.mdt [] []) :=
  ⟨.new hp, fun a => a = p, fun a e => by subst e; exact ⟨hp, by rw [upd_same]; simp⟩, .mdt (xs := []) upd_same rfl .nil fun _ => Iff.rfl⟩
def mDnT : ME := fun e => some (.ok (.mdt [] []) e)
theorem se_dnT : SE C tDNewT mDnT := by
  rintro B σ0 σ H env ts ⟨S, g⟩ r hm Q hq
  cases hm
  intro p hp
  exact hq _ _ (Good.prim (ts1 := []) (by rw [List.append_nil]; exact g) (Post.mdt0 hp))
/-! ### d[k] = v, k a tuple -/
def putKs {κ : Type} [DecidableEq κ] (ks : List κ) (k : κ) : List κ := if hasK ks k = true then ks else ks ++ [k]
def putDs {κ α : Type} [DecidableEq κ] (ks : List κ) (ds : List α) (k : κ) (d : α) : List α := if hasK ks k = true then List.zipWith (fun q x => if q = k then d else x) ks ds else ds ++ [d]
theorem any_zip {κ : Type} [DecidableEq κ] (k : κ) : ∀ {ks : List κ} {xs : List V}, ks.length = xs.length → ((ks.zip xs).any fun kv => decide (kv.1 = k)) = hasK ks k
  | [], [], _ => rfl
  | [], _ :: _, h => by cases h
  | _ :: _, [], h => by cases h
  | q :: ks, x :: xs, h => by
    have := any_zip k (ks := ks) (xs := xs) (by simpa using h)
    unfold hasK at this ⊢
    simp only [List.zip_cons_cons, List.any_cons, this]
theorem map_zip {κ : Type} [DecidableEq κ] (k : κ) (v : V) : ∀ {ks : List κ} {xs : List V}, ks.length = xs.length → (ks.zip xs).map (fun kv => if kv.1 = k then (kv.1, v) else kv) = ks.zip (List.zipWith (fun q x => if q = k then v else x) ks xs)
  | [], [], _ => rfl
  | [], _ :: _, h => by cases h
  | _ :: _, [], h => by cases h
  | q :: ks, x :: xs, h => by
    have := map_zip k v (ks := ks) (xs := xs) (by simpa using h)
    simp only [List.zip_cons_cons, List.map_cons, List.zipWith_cons_cons, this]
    by_cases e : q = k
    · simp [e]
    · simp [e]
theorem putK_zip {κ : Type} [DecidableEq κ] (k : κ) (v : V) {ks : List κ} {xs : List V} (h : ks.length = xs.length) : putK (ks.zip xs) k v = (putKs ks k).zip (putDs ks xs k v) := by
  unfold putK putKs putDs
  rw [any_zip k h]
  by_cases e : hasK ks k = true
  · rw [if_pos e, if_pos e, if_pos e, map_zip k v h]
  · rw [if_neg e, if_neg e, if_neg e, List.zip_append h]; rfl
theorem putDs_len {κ α : Type} [DecidableEq κ] (k : κ) (d : α) {ks : List κ} {ds : List α} (h : ks.length = ds.length) : (putKs ks k).length = (putDs ks ds k d).length := by
  unfold putKs putDs
  by_cases e : hasK ks k = true
  · rw [if_pos e, if_pos e, List.length_zipWith, ← h, Nat.min_self]
  · rw [if_neg e, if_neg e, List.length_append, List.length_append, h]; rfl
theorem DtA.putDs {K : KC} {ps : Addr → Prop} {H : Hp} {κ : Type} [DecidableEq κ] {ks : List κ} {xs : List V} {ds : List D} {k : κ} {v : V} {d : D} (hA : DtA K ps H xs ds) (h : ks.length = ds.length) (hv : Dt K ps H v d) : DtA K ps H (putDs ks xs k v) (putDs ks ds k d) := by
  unfold Q.putDs
  by_cases e : hasK ks k = true
  · rw [if_pos e, if_pos e]
    refine ⟨by rw [List.length_zipWith, List.length_zipWith, hA.1], fun i y f e1 e2 => ?_⟩
    rw [List.getElem?_zipWith] at e1 e2
    cases hk : ks[i]? with
    | none => rw [hk] at e1; simp at e1
    | some q =>
      cases hx : xs[i]? with
      | none => rw [hk, hx] at e1; simp at e1
      | some x =>
        cases hd : ds[i]? with
        | none => rw [hk, hd] at e2; simp at e2
        | some dd =>
          rw [hk, hx] at e1
          rw [hk, hd] at e2
          simp only [Option.some.injEq] at e1 e2
          subst e1 e2
          by_cases c : q = k
          · simp only [c, if_true]; exact hv
          · simp only [c, if_false]; exact hA.2 i x dd hx hd
  · rw [if_neg e, if_neg e]; exact hA.snoc hv
theorem Good.mdtAt {B : Bs} {σ0 σ : St} {H : Hp} {env : Env} {ts : List (V × D)} {S : Ix → Addr → Prop} {n : Nat} {ks : List (List Key)} {ds : List D} (g : Good C B σ0 H σ env ts S) (he : env[n]? = some (some (.mdt ks ds))) : ∃ a xs, σ[n]? = some (some (.ref a)) ∧ H a = some (.dT (ks.zip xs)) ∧ ks.length = ds.length ∧ DtA C.K (pset B S) H xs ds := by
  obtain ⟨v, hv, ho⟩ := g.slot n _ he
  cases ho with
  | fz h _ => cases h
  | mdt h1 h4 h2 h3 => exact ⟨_, _, hv, h1, h4, h2⟩
theorem Good.mutT {B : Bs} {σ0 σ : St} {H : Hp} {env : Env} {ts : List (V × D)} {S : Ix → Addr → Prop} (g : Good C B σ0 H σ env ts S) {n : Nat} {ks ks' : List (List Key)} {ds ds' : List D} {a : Addr} {xs xs' : List V} (he : env[n]? = some (some (.mdt ks ds))) (hv : σ[n]? = some (some (.ref a))) (ha : H a = some (.dT (ks.zip xs))) (hl : ks'.length = ds'.length) (h' : DtA C.K (pset B S) H xs' ds') :
    Rep C B σ0 (L2.upd H a (.dT (ks'.zip xs'))) σ (env.set n (some (.mdt ks' ds'))) ts := by
  obtain ⟨v, hv', ho⟩ := g.slot n _ he
  rw [hv] at hv'; cases hv'
  cases ho with
  | fz h _ => cases h
  | mdt h1 h4 h2 h3 =>
    have hsa : S (.inl n) a := (h3 a).mpr rfl
    refine ⟨_, g.put he hv (S (.inl n)) (.mut hsa) (fun b hb => ⟨.inl hb, ?_⟩) ?_⟩
    · rw [(h3 b).mp hb, upd_same]; simp
    · refine .mdt upd_same hl (h'.move (.mut (.inr ⟨_, hsa⟩)) fun b z => ?_) h3
      rcases z with z | ⟨i, z⟩
      · exact .inl (.inl z)
      · by_cases hi : i = .inl n
        · subst hi; exact .inl (.inr ⟨_, su_same.mp z⟩)
        · exact .inl (.inr ⟨_, (su_ne hi).mp z⟩)
def gIxT (n : Nat) (a : ME) : MG := fun d e => match e[n]? with
  | some (some _) => (match a e with
    | some (.ok (.tup us) e1) => (match e1[n]? with
      | some (some (.mdt ks ds)) => (match keysD (.tup us) with
        | some k => if isFz d = true ∧ ks.length < 1000000 then some (e1.set n (some (.mdt (putKs ks k) (putDs ks ds k d)))) else none
        | none => none)
      | _ => none)
    | _ => none)
  | _ => none
theorem sg_ixT {n : Nat} (hw : ∀ xs, ¬ C.K.wt xs) (ha : SE C ta ma) : SG C (gSub (tVar n) ta rSetD) (gIxT n ma) := by
  rintro B σ0 σ H env ts v d e' ⟨S, g⟩ hd ht hm N hN
  unfold gIxT at hm
  split at hm
  case h_2 => cases hm
  rename_i d9 h9
  obtain ⟨w, hw9, _⟩ := g.slot n _ h9
  split at hm
  · rename_i us e1 h1
    split at hm
    · rename_i ks ds h4
      split at hm
      · rename_i k hk
        split at hm
        · rename_i hfz
          cases hm
          refine ⟨w, hw9, ha B σ0 σ H env _ ⟨S, g⟩ _ h1 _ fun u H1 ⟨S1, g1⟩ => ?_⟩
          obtain ⟨a, xs, hv, ha', hl, hA⟩ := g1.mdtAt h4
          rw [hw9] at hv; cases hv
          have hu : Dt C.K (pset B S1) H1 u (.tup us) := by
            rcases g1.tmp (ts ++ [(v, d)]).length u (.tup us) (by simp) with ⟨k, e, _⟩ | h
            · cases e
            · exact h.dt rfl
          obtain ⟨b, ys, rfl, hb, hB⟩ := hu.inv_tup
          rcases hb with ⟨hb, _⟩ | ⟨hb, _⟩
          · rw [keys_dt hB hk] at hb
            have hdv : Dt C.K (pset B S1) H1 v d := by
              rcases g1.tmp ts.length v d (by simp) with ⟨k, rfl, _⟩ | h
              · cases hd
              · exact h.dt hfz.1
            have hxl : ks.length = xs.length := by rw [hA.1]; exact hl
            refine .inr ⟨a, _, rfl, DPut.t ha' hb (by rw [List.length_zip, hxl, Nat.min_self, ← hxl, sizeLine_eq]; omega), ?_⟩
            rw [putK_zip k v hxl]
            obtain ⟨S3, g3⟩ := g1.pop.mutT (ks' := putKs ks k) (xs' := Q.putDs ks xs k v) (ds' := Q.putDs ks ds k d) h4 hw9 ha' (putDs_len k d hl) (hA.putDs hl hdv)
            exact hN _ _ ⟨S3, g3.pop⟩
          · exact absurd hb (hw _)
        · cases hm
      · cases hm
    · cases hm
  · cases hm
end
end Q


namespace Q
open PySem L2
/-! ### reckoning objects and dicts -/
theorem kVar_mdc (ks : List Key) (ds : List D) (i : Nat) (e : Env) : kVar (some (some (.mdc ks ds))) i e = some (.ok (.al i) e) := nr rfl
theorem tkf_mdc (ks : List Key) (ds : List D) (e : Env) : tkf (.mdc ks ds) e = some (.dct ks ds, e) := nr rfl
theorem tk_mdc (ks : List Key) (ds : List D) (e : Env) : tk (.mdc ks ds) e = some (.mdc ks ds, e) := nr rfl
theorem frz_mdc (ks : List Key) (ds : List D) : frz (.mdc ks ds) = .dct ks ds := nr rfl
theorem res_mdc (ks : List Key) (ds : List D) (e : Env) : res e (.mdc ks ds) = some (.mdc ks ds) := nr rfl
theorem out_mdc (np : Nat) (ks : List Key) (ds : List D) (e : Env) : out np (.mdc ks ds) e = some (.mdc ks ds, e) := nr rfl
theorem outA_mdc (ks : List Key) (ds : List D) (dz : List D) (o : Option D) (e : Env) : outA (.mdc ks ds :: dz) (o :: e) = kO o (outA dz e) := by cases o <;> rfl
theorem isFz_mdc (ks : List Key) (ds : List D) : isFz (D.mdc ks ds) = false := nr rfl
theorem isAl_mdc (ks : List Key) (ds : List D) : isAl (D.mdc ks ds) = false := nr rfl
theorem isAlK_mdc (j : Nat) (ks : List Key) (ds : List D) : isAlK j (D.mdc ks ds) = false := nr rfl
theorem dIs_mdc (ks : List Key) (ds : List D) : dIs (D.mdc ks ds) .non = some (.bl false) := nr rfl
theorem dIsNot_mdc (ks : List Key) (ds : List D) : dIsNot (D.mdc ks ds) .non = some (.bl true) := nr rfl
theorem kVar_mdt (ks : List (List Key)) (ds : List D) (i : Nat) (e : Env) : kVar (some (some (.mdt ks ds))) i e = some (.ok (.al i) e) := nr rfl
theorem tkf_mdt (ks : List (List Key)) (ds : List D) (e : Env) : tkf (.mdt ks ds) e = some (.dtt ks ds, e) := nr rfl
theorem tk_mdt (ks : List (List Key)) (ds : List D) (e : Env) : tk (.mdt ks ds) e = some (.mdt ks ds, e) := nr rfl
theorem frz_mdt (ks : List (List Key)) (ds : List D) : frz (.mdt ks ds) = .dtt ks ds := nr rfl
theorem res_mdt (ks : List (List Key)) (ds : List D) (e : Env) : res e (.mdt ks ds) = some (.mdt ks ds) := nr rfl
theorem out_mdt (np : Nat) (ks : List (List Key)) (ds : List D) (e : Env) : out np (.mdt ks ds) e = some (.mdt ks ds, e) := nr rfl
theorem outA_mdt (ks : List (List Key)) (ds : List D) (dz : List D) (o : Option D) (e : Env) : outA (.mdt ks ds :: dz) (o :: e) = kO o (outA dz e) := by cases o <;> rfl
theorem isFz_mdt (ks : List (List Key)) (ds : List D) : isFz (D.mdt ks ds) = false := nr rfl
theorem isAl_mdt (ks : List (List Key)) (ds : List D) : isAl (D.mdt ks ds) = false := nr rfl
theorem isAlK_mdt (j : Nat) (ks : List (List Key)) (ds : List D) : isAlK j (D.mdt ks ds) = false := nr rfl
theorem dIs_mdt (ks : List (List Key)) (ds : List D) : dIs (D.mdt ks ds) .non = some (.bl false) := nr rfl
theorem dIsNot_mdt (ks : List (List Key)) (ds : List D) : dIsNot (D.mdt ks ds) .non = some (.bl true) := nr rfl
theorem kVar_mob (c : Nat) (fs : List Str) (ds : List D) (i : Nat) (e : Env) : kVar (some (some (.mob c fs ds))) i e = some (.ok (.al i) e) := nr rfl
theorem tkf_mob (c : Nat) (fs : List Str) (ds : List D) (e : Env) : tkf (.mob c fs ds) e = some (.obj c fs ds, e) := nr rfl
theorem tk_mob (c : Nat) (fs : List Str) (ds : List D) (e : Env) : tk (.mob c fs ds) e = some (.mob c fs ds, e) := nr rfl
theorem frz_mob (c : Nat) (fs : List Str) (ds : List D) : frz (.mob c fs ds) = .obj c fs ds := nr rfl
theorem res_mob (c : Nat) (fs : List Str) (ds : List D) (e : Env) : res e (.mob c fs ds) = some (.mob c fs ds) := nr rfl
theorem out_mob (np : Nat) (c : Nat) (fs : List Str) (ds : List D) (e : Env) : out np (.mob c fs ds) e = some (.mob c fs ds, e) := nr rfl
theorem outA_mob (c : Nat) (fs : List Str) (ds : List D) (dz : List D) (o : Option D) (e : Env) : outA (.mob c fs ds :: dz) (o :: e) = kO o (outA dz e) := by cases o <;> rfl
theorem isFz_mob (c : Nat) (fs : List Str) (ds : List D) : isFz (D.mob c fs ds) = false := nr rfl
theorem isAl_mob (c : Nat) (fs : List Str) (ds : List D) : isAl (D.mob c fs ds) = false := nr rfl
theorem isAlK_mob (j : Nat) (c : Nat) (fs : List Str) (ds : List D) : isAlK j (D.mob c fs ds) = false := nr rfl
theorem dIs_mob (c : Nat) (fs : List Str) (ds : List D) : dIs (D.mob c fs ds) .non = some (.bl false) := nr rfl
theorem dIsNot_mob (c : Nat) (fs : List Str) (ds : List D) : dIsNot (D.mob c fs ds) .non = some (.bl true) := nr rfl
theorem isFz_dct (ks : List Key) (ds : List D) : isFz (D.dct ks ds) = true := nr rfl
theorem isAl_dct (ks : List Key) (ds : List D) : isAl (D.dct ks ds) = false := nr rfl
theorem isAlK_dct (j : Nat) (ks : List Key) (ds : List D) : isAlK j (D.dct ks ds) = false := nr rfl
theorem dIs_dct (ks : List Key) (ds : List D) : dIs (D.dct ks ds) .non = some (.bl false) := nr rfl
theorem dIsNot_dct (ks : List Key) (ds : List D) : dIsNot (D.dct ks ds) .non = some (.bl true) := nr rfl
theorem isFz_dtt (ks : List (List Key)) (ds : List D) : isFz (D.dtt ks ds) = true := nr rfl
theorem isAl_dtt (ks : List (List Key)) (ds : List D) : isAl (D.dtt ks ds) = false := nr rfl
theorem isAlK_dtt (j : Nat) (ks : List (List Key)) (ds : List D) : isAlK j (D.dtt ks ds) = false := nr rfl
theorem dIs_dtt (ks : List (List Key)) (ds : List D) : dIs (D.dtt ks ds) .non = some (.bl false) := nr rfl
theorem dIsNot_dtt (ks : List (List Key)) (ds : List D) : dIsNot (D.dtt ks ds) .non = some (.bl true) := nr rfl
theorem isFz_obj (c : Nat) (fs : List Str) (ds : List D) : isFz (D.obj c fs ds) = true := nr rfl
theorem isAl_obj (c : Nat) (fs : List Str) (ds : List D) : isAl (D.obj c fs ds) = false := nr rfl
theorem isAlK_obj (j : Nat) (c : Nat) (fs : List Str) (ds : List D) : isAlK j (D.obj c fs ds) = false := nr rfl
theorem dIs_obj (c : Nat) (fs : List Str) (ds : List D) : dIs (D.obj c fs ds) .non = some (.bl false) := nr rfl
theorem dIsNot_obj (c : Nat) (fs : List Str) (ds : List D) : dIsNot (D.obj c fs ds) .non = some (.bl true) := nr rfl
theorem ev_makeO (c : Nat) (e : Env) : mMakeO c e = some (.ok (.mob c [] []) e) := nr rfl
def kMk3 (r : Option Rf) (n : Nat) (c : Nat) (xs : List D) (e : Env) : Option (Rs D) := match r with
    | some (.ok .non (.mob c' fs' ds0 :: ds')) => if ds'.length + 1 = n then some (.ok (.mob c' fs' ds0) (back xs ds' e)) else none
    | some (.ex x ds') => if ds'.length = n then some (.ex x (back (.mob c [] [] :: xs) ds' e)) else none
    | _ => none
def kMk2 (r : Option (List D)) (c : Nat) (mf : MF) (xs : List D) (e : Env) : Option (Rs D) := match r with
  | some ds => if alsOk xs = true then kMk3 (mf ds) ds.length c xs e else none
  | none => none
def kMk (r : Option (Rs (List D))) (c : Nat) (mf : MF) : Option (Rs D) := bnd r fun xs e1 => kMk2 (lend (.mob c [] [] :: xs) e1) c mf xs e1
theorem ev_make (c : Nat) (mf : MF) (a : MA) (e : Env) : mMake c mf a e = kMk (a e) c mf := by
  unfold mMake kMk kMk2 kMk3
  first | done | rfl
theorem kMk_ok (xs : List D) (e : Env) (c : Nat) (mf : MF) : kMk (some (.ok xs e)) c mf = kMk2 (lend (.mob c [] [] :: xs) e) c mf xs e := nr rfl
theorem kMk2_ok {ds : List D} {c : Nat} {mf : MF} {xs : List D} {e : Env} (h : alsOk xs = true) : kMk2 (some ds) c mf xs e = kMk3 (mf ds) ds.length c xs e := by
  unfold kMk2; simp only [h, if_true]
theorem kMk3_ok {c' : Nat} {fs : List Str} {ds0 ds' : List D} {n c : Nat} {xs : List D} {e : Env} (h : ds'.length + 1 = n) : kMk3 (some (.ok .non (.mob c' fs ds0 :: ds'))) n c xs e = some (.ok (.mob c' fs ds0) (back xs ds' e)) := by
  unfold kMk3; simp only [h, if_true]
def kMeth4 (r : Option MF) (a : MA) (x : D) (e : Env) : Option (Rs D) := match r with
  | some mf => bnd (a e) fun xs e2 => kC2 (lend (x :: xs) e2) mf (x :: xs) e2
  | none => none
def kMeth5 (r : Option (Rs (List D))) (mf : MF) (x : D) : Option (Rs D) := bnd r fun xs e2 => kC2 (lend (x :: xs) e2) mf (x :: xs) e2
def kMeth3 (r : Option (Nat × List Str × List D)) (tab : Nat → Option MF) (m : Str) (a : MA) (x : D) (e : Env) : Option (Rs D) := match r with
  | some (c, fs, _) => if hasK fs m = false then kMeth4 (tab c) a x e else none
  | none => none
def kMeth2 (r : Option D) (tab : Nat → Option MF) (m : Str) (a : MA) (x : D) (e : Env) : Option (Rs D) := match r with
  | some d => kMeth3 (objD d) tab m a x e
  | none => none
def kMeth (r : Option (Rs D)) (tab : Nat → Option MF) (m : Str) (a : MA) : Option (Rs D) := bnd r fun x e1 => kMeth2 (res e1 x) tab m a x e1
theorem ev_meth (tab : Nat → Option MF) (m : Str) (o : ME) (a : MA) (e : Env) : mMeth tab m o a e = kMeth (o e) tab m a := by
  unfold mMeth kMeth kMeth2 kMeth3 kMeth4 kC2
  rfl
theorem kMeth_ok (x : D) (e : Env) (tab : Nat → Option MF) (m : Str) (a : MA) : kMeth (some (.ok x e)) tab m a = kMeth2 (res e x) tab m a x e := nr rfl
theorem kMeth2_ok (d : D) (tab : Nat → Option MF) (m : Str) (a : MA) (x : D) (e : Env) : kMeth2 (some d) tab m a x e = kMeth3 (objD d) tab m a x e := nr rfl
theorem kMeth3_ok {c : Nat} {fs : List Str} {ds : List D} {tab : Nat → Option MF} {m : Str} {a : MA} {x : D} {e : Env} (h : hasK fs m = false) : kMeth3 (some (c, fs, ds)) tab m a x e = kMeth4 (tab c) a x e := by
  unfold kMeth3; simp only [h, if_true]
theorem kMeth4_ok (mf : MF) (a : MA) (x : D) (e : Env) : kMeth4 (some mf) a x e = kMeth5 (a e) mf x := nr rfl
theorem kMeth5_ok (xs : List D) (mf : MF) (x : D) (e : Env) : kMeth5 (some (.ok xs e)) mf x = kC2 (lend (x :: xs) e) mf (x :: xs) e := nr rfl
theorem objD_obj (c : Nat) (fs : List Str) (ds : List D) : objD (.obj c fs ds) = some (c, fs, ds) := nr rfl
theorem objD_mob (c : Nat) (fs : List Str) (ds : List D) : objD (.mob c fs ds) = some (c, fs, ds) := nr rfl
theorem dFld_obj {cs : List Nat} {f : Str} {c : Nat} {fs : List Str} {ds : List D} (h : cs.contains c = true) : dFld cs f (.obj c fs ds) = findD fs ds f := by
  unfold dFld; simp only [objD, h, if_true]
theorem dFld_mob {cs : List Nat} {f : Str} {c : Nat} {fs : List Str} {ds : List D} (h : cs.contains c = true) : dFld cs f (.mob c fs ds) = findD fs ds f := by
  unfold dFld; simp only [objD, h, if_true]
def kSf3 (r : Option (Option D)) (k : Nat) (cs : List Nat) (f : Str) (y : D) (e : Env) : Option (Rs Fl) := match r with
    | some (some (.mob c fs ds)) => if cs.contains c = true ∧ fs.length < 1000 then some (.ok .nx (e.set k (some (.mob c (putN f fs) (putX f y fs ds))))) else none
    | _ => none
def kSf2 (r : Option (D × Env)) (k : Nat) (cs : List Nat) (f : Str) : Option (Rs Fl) := match r with
  | some (y, e2) => kSf3 e2[k]? k cs f y e2
  | none => none
def kSf (r : Option (Rs D)) (k : Nat) (cs : List Nat) (f : Str) : Option (Rs Fl) := bnd r fun x e1 => kSf2 (tkf x e1) k cs f
theorem ev_setF (k : Nat) (cs : List Nat) (f : Str) (v : ME) (e : Env) : mSetF k cs f v e = kSf (v e) k cs f := by
  unfold mSetF kSf kSf2 kSf3
  first | done | rfl
theorem kSf_ok (x : D) (e : Env) (k : Nat) (cs : List Nat) (f : Str) : kSf (some (.ok x e)) k cs f = kSf2 (tkf x e) k cs f := nr rfl
theorem kSf2_ok (y : D) (e : Env) (k : Nat) (cs : List Nat) (f : Str) : kSf2 (some (y, e)) k cs f = kSf3 e[k]? k cs f y e := nr rfl
theorem kSf3_ok {c : Nat} {fs : List Str} {ds : List D} {k : Nat} {cs : List Nat} {f : Str} {y : D} {e : Env} (h : cs.contains c = true) (h2 : fs.length < 1000) : kSf3 (some (some (.mob c fs ds))) k cs f y e = some (.ok .nx (e.set k (some (.mob c (putN f fs) (putX f y fs ds))))) := by
  unfold kSf3; simp only [h, h2, and_self, if_true]
theorem putN_nil (f : Str) : putN f [] = [f] := nr rfl
theorem putX_nil (f : Str) (y : D) (xs : List D) : putX f y [] xs = [y] := nr rfl
theorem ev_dnT (e : Env) : mDnT e = some (.ok (.mdt [] []) e) := nr rfl
def kG1 (r : Option (Rs D)) (b : ME) : Option (Rs D) := bnd r fun x e1 => match res e1 x with
  | some d => if isDic d = true then bnd (b e1) fun y e2 => ap2 dGet1 x y e2 else none
  | none => none
def kG2 (r : Option D) (b : ME) (x : D) (e : Env) : Option (Rs D) := match r with
  | some d => if isDic d = true then bnd (b e) fun y e2 => ap2 dGet1 x y e2 else none
  | none => none
theorem ev_get1 (a b : ME) (e : Env) : mGet1 a b e = kG1 (a e) b := nr rfl
theorem kG1_ok (x : D) (e : Env) (b : ME) : kG1 (some (.ok x e)) b = kG2 (res e x) b x e := nr rfl
theorem kG2_mdt (ks : List (List Key)) (ds : List D) (b : ME) (x : D) (e : Env) : kG2 (some (.mdt ks ds)) b x e = kOp2 (b e) x dGet1 := nr rfl
theorem kG2_dtt (ks : List (List Key)) (ds : List D) (b : ME) (x : D) (e : Env) : kG2 (some (.dtt ks ds)) b x e = kOp2 (b e) x dGet1 := nr rfl
theorem kG2_mdc (ks : List Key) (ds : List D) (b : ME) (x : D) (e : Env) : kG2 (some (.mdc ks ds)) b x e = kOp2 (b e) x dGet1 := nr rfl
theorem kG2_dct (ks : List Key) (ds : List D) (b : ME) (x : D) (e : Env) : kG2 (some (.dct ks ds)) b x e = kOp2 (b e) x dGet1 := nr rfl
def kTt3 (r : Option (List Key)) (ks : List (List Key)) (ds : List D) (n : Nat) (d : D) (e : Env) : Option Env := match r with
        | some k => if isFz d = true ∧ ks.length < 1000000 then some (e.set n (some (.mdt (putKs ks k) (putDs ks ds k d)))) else none
        | none => none
def kTt2 (r : Option (Option D)) (us : List D) (n : Nat) (d : D) (e : Env) : Option Env := match r with
      | some (some (.mdt ks ds)) => kTt3 (keysD (.tup us)) ks ds n d e
      | _ => none
def kTt1 (r : Option (Rs D)) (n : Nat) (d : D) : Option Env := match r with
    | some (.ok (.tup us) e1) => kTt2 e1[n]? us n d e1
    | _ => none
def kTt0 (s : Option (Option D)) (r : Option (Rs D)) (n : Nat) (d : D) : Option Env := match s with
  | some (some _) => kTt1 r n d
  | _ => none
theorem ev_ixT (n : Nat) (a : ME) (d : D) (e : Env) : gIxT n a d e = kTt0 e[n]? (a e) n d := nr rfl
theorem kTt0_ok (d0 : D) (r : Option (Rs D)) (n : Nat) (d : D) : kTt0 (some (some d0)) r n d = kTt1 r n d := nr rfl
theorem kTt1_ok (us : List D) (e : Env) (n : Nat) (d : D) : kTt1 (some (.ok (.tup us) e)) n d = kTt2 e[n]? us n d e := nr rfl
theorem kTt2_ok (ks : List (List Key)) (ds us : List D) (n : Nat) (d : D) (e : Env) : kTt2 (some (some (.mdt ks ds))) us n d e = kTt3 (keysD (.tup us)) ks ds n d e := nr rfl
theorem kTt3_ok {k : List Key} {ks : List (List Key)} {ds : List D} {n : Nat} {d : D} {e : Env} (h : isFz d = true) (h2 : ks.length < 1000000) : kTt3 (some k) ks ds n d e = some (e.set n (some (.mdt (putKs ks k) (putDs ks ds k d)))) := by
  unfold kTt3; simp only [h, h2, and_self, if_true]
theorem dLen_mdt (ks : List (List Key)) (ds : List D) : dLen [.mdt ks ds] = some (.int ks.length) := nr rfl
def kWh (r : Option (Rs Bool)) (t : MT) (b : MS) (n : Nat) : Option (Rs Fl) := bnd r fun c e1 => if c = true then bnd (b e1) fun f e2 => (match f with
      | .nx => mWh t b n e2
      | .ct => mWh t b n e2
      | .bk => some (.ok .nx e2)
      | .rt d => some (.ok (.rt d) e2)) else some (.ok .nx e1)
def kWh2 (r : Option (Rs Fl)) (t : MT) (b : MS) (n : Nat) : Option (Rs Fl) := bnd r fun f e2 => (match f with
      | .nx => mWh t b n e2
      | .ct => mWh t b n e2
      | .bk => some (.ok .nx e2)
      | .rt d => some (.ok (.rt d) e2))
theorem wh_succ (t : MT) (b : MS) (n : Nat) (e : Env) : mWh t b (n + 1) e = kWh (t e) t b n := nr rfl
theorem kWh_t (e : Env) (t : MT) (b : MS) (n : Nat) : kWh (some (.ok true e)) t b n = kWh2 (b e) t b n := nr rfl
theorem kWh_f (e : Env) (t : MT) (b : MS) (n : Nat) : kWh (some (.ok false e)) t b n = some (.ok .nx e) := nr rfl
theorem kWh2_nx (e : Env) (t : MT) (b : MS) (n : Nat) : kWh2 (some (.ok .nx e)) t b n = mWh t b n e := nr rfl
theorem kWh2_ct (e : Env) (t : MT) (b : MS) (n : Nat) : kWh2 (some (.ok .ct e)) t b n = mWh t b n e := nr rfl
theorem kWh2_bk (e : Env) (t : MT) (b : MS) (n : Nat) : kWh2 (some (.ok .bk e)) t b n = some (.ok .nx e) := nr rfl
theorem kWh2_rt (d : D) (e : Env) (t : MT) (b : MS) (n : Nat) : kWh2 (some (.ok (.rt d) e)) t b n = some (.ok (.rt d) e) := nr rfl
end Q


namespace Q
open PySem L2
def topS (i : Nat) : Stmt := PySem.Challenge.pw_quickways_k24_picks_of_both_ways.main.body.getD i (.Pass ⟨0, 0, 0, 0⟩)
abbrev s_l_pool : Stmt := topS 6
def nm_l_pool : List Str := ["_law_script"]
theorem sc_l_pool : FnScope nm_l_pool ["_law_script"] (defScope s_l_pool) := ⟨rfl, rfl, rfl, by decide +kernel, rfl, by decide +kernel, by decide +kernel⟩
abbrev s_l_mixed : Stmt := topS 7
def nm_l_mixed : List Str := ["_law_cell", "_law_turn", "_law_limit", "_law_first", "_law_second", "_law_third"]
theorem sc_l_mixed : FnScope nm_l_mixed ["_law_cell", "_law_turn", "_law_limit"] (defScope s_l_mixed) := ⟨rfl, rfl, rfl, by decide +kernel, rfl, by decide +kernel, by decide +kernel⟩
abbrev s_l_draw : Stmt := topS 8
def nm_l_draw : List Str := ["_law_pool_here", "_law_limit", "_law_digit", "_law_cell"]
theorem sc_l_draw : FnScope nm_l_draw ["_law_pool_here", "_law_limit"] (defScope s_l_draw) := ⟨rfl, rfl, rfl, by decide +kernel, rfl, by decide +kernel, by decide +kernel⟩
abbrev s_l_numbers : Stmt := topS 11
def nm_l_numbers : List Str := ["_law_pool_here", "_law_size", "_law_numbers_here", "_law_k", "_law_number"]
theorem sc_l_numbers : FnScope nm_l_numbers ["_law_pool_here"] (defScope s_l_numbers) := ⟨rfl, rfl, rfl, by decide +kernel, rfl, by decide +kernel, by decide +kernel⟩
abbrev s_WovenTasks___init__ : Stmt := clsS (topS 3) 0
def nm_WovenTasks___init__ : List Str := ["self", "weaving"]
theorem sc_WovenTasks___init__ : FnScope nm_WovenTasks___init__ ["self", "weaving"] (defScope s_WovenTasks___init__) := ⟨rfl, rfl, rfl, by decide +kernel, rfl, by decide +kernel, by decide +kernel⟩
abbrev s_l_tasks : Stmt := topS 12
def nm_l_tasks : List Str := ["_law_pool_here", "_law_path", "_law_made", "_law_pairs", "_law_k", "_law_child", "_law_other", "_law_busy", "_law_pair", "_law_task"]
theorem sc_l_tasks : FnScope nm_l_tasks ["_law_pool_here"] (defScope s_l_tasks) := ⟨rfl, rfl, rfl, by decide +kernel, rfl, by decide +kernel, by decide +kernel⟩
abbrev s_l_waits : Stmt := topS 13
def nm_l_waits : List Str := ["_law_pairs", "_law_waits_here", "_law_pair"]
theorem sc_l_waits : FnScope nm_l_waits ["_law_pairs"] (defScope s_l_waits) := ⟨rfl, rfl, rfl, by decide +kernel, rfl, by decide +kernel, by decide +kernel⟩
abbrev s_l_chosen : Stmt := topS 14
def nm_l_chosen : List Str := ["_law_ready", "_law_woven", "_law_count", "_law_number"]
theorem sc_l_chosen : FnScope nm_l_chosen ["_law_ready", "_law_woven", "_law_count"] (defScope s_l_chosen) := ⟨rfl, rfl, rfl, by decide +kernel, rfl, by decide +kernel, by decide +kernel⟩
abbrev s_l_is_int : Stmt := topS 9
def nm_l_is_int : List Str := ["_law_thing"]
theorem sc_l_is_int : FnScope nm_l_is_int ["_law_thing"] (defScope s_l_is_int) := ⟨rfl, rfl, rfl, by decide +kernel, rfl, by decide +kernel, by decide +kernel⟩
abbrev s_l_same : Stmt := topS 10
def nm_l_same : List Str := ["_law_mine", "_law_due", "_law_k"]
theorem sc_l_same : FnScope nm_l_same ["_law_mine", "_law_due"] (defScope s_l_same) := ⟨rfl, rfl, rfl, by decide +kernel, rfl, by decide +kernel, by decide +kernel⟩
abbrev s_WaitTasks_pick : Stmt := clsS (topS 4) 0
def nm_WaitTasks_pick : List Str := ["self", "count", "ready", "waits", "path"]
theorem sc_WaitTasks_pick : FnScope nm_WaitTasks_pick ["self", "count", "ready", "waits"] (defScope s_WaitTasks_pick) := ⟨rfl, rfl, rfl, by decide +kernel, rfl, by decide +kernel, by decide +kernel⟩
abbrev s_WovenTasks_pick : Stmt := clsS (topS 3) 1
def nm_WovenTasks_pick : List Str := ["self", "count", "ready", "waits", "number"]
theorem sc_WovenTasks_pick : FnScope nm_WovenTasks_pick ["self", "count", "ready", "waits"] (defScope s_WovenTasks_pick) := ⟨rfl, rfl, rfl, by decide +kernel, rfl, by decide +kernel, by decide +kernel⟩
abbrev s_l_picked : Stmt := topS 15
def nm_l_picked : List Str := ["_law_tasks_here", "_law_woven", "_law_world", "_law_count", "_law_ready", "_law_pairs", "_law_end", "_law_given", "_law_waits_here", "_law_due", "_law_k", "_law_pair"]
theorem sc_l_picked : FnScope nm_l_picked ["_law_tasks_here", "_law_woven", "_law_world", "_law_count"] (defScope s_l_picked) := ⟨rfl, rfl, rfl, by decide +kernel, rfl, by decide +kernel, by decide +kernel⟩
abbrev s_law : Stmt := topS 16
def nm_law : List Str := ["_law_script", "_law_pool_here", "_law_woven", "_law_given", "_law_tasks_here", "_law_sizes", "_law_k", "_law_world", "_law_counts", "_law_count"]
theorem sc_law : FnScope nm_law ["_law_script"] (defScope s_law) := ⟨rfl, rfl, rfl, by decide +kernel, rfl, by decide +kernel, by decide +kernel⟩
/-! classes -/
/-- which tuples may be written ones -/
def wtT : List V → Prop := fun _ => False
/-! the mirrors -/
def fc_weaving : List Nat := [101]
def mb_l_pool : MS :=
    (mRet 1 (mLst (mCons (mCB dList (mCons (mVar 0) mNil)) (mCons (mC (.int 0)) (mCons (mC (.int 0)) (mCons (mC (.int 0)) (mCons (mC (.int 0)) mNil)))))))
def m_l_pool : MF := mFun 1 0 [] mb_l_pool
def mb_l_mixed : MS :=
    (mSeq (mAsg (mOp dMod (mCB dInt (mCons (mOp dAdd (mOp dAdd (mOp dMul (mVar 0) (mC (.int 48271))) (mOp dMul (mVar 1) (mC (.int 69621)))) (mC (.int 11))) mNil)) (mC (.int 2147483647))) (gNm 3))
    (mSeq (mAsg (mOp dMod (mCB dInt (mCons (mOp dAdd (mOp dAdd (mOp dMul (mVar 3) (mC (.int 40692))) (mOp dMul (mVar 0) (mC (.int 16807)))) (mOp dMul (mVar 1) (mC (.int 30269)))) mNil)) (mC (.int 2147483399))) (gNm 4))
    (mSeq (mAsg (mOp dMod (mCB dInt (mCons (mOp dAdd (mOp dMul (mVar 4) (mC (.int 39373))) (mOp dDiv (mVar 3) (mC (.int 7)))) mNil)) (mC (.int 1000000007))) (gNm 5))
    (mRet 3 (mOp dMod (mCB dInt (mCons (mVar 5) mNil)) (mVar 2))))))
def m_l_mixed : MF := mFun 3 3 [] mb_l_mixed
def mb_l_draw : MS :=
    (mSeq (mIfS (mTest (mOp dGt (mOp dIx (mVar 0) (mC (.int 2))) (mC (.int 0)))) (mSeq (mAsg (mOp dMod (mCB dInt (mCons (mOp dIx (mVar 0) (mC (.int 2))) mNil)) (mVar 1)) (gNm 2))
    (mSeq (mAsg (mOp dDiv (mOp dIx (mVar 0) (mC (.int 2))) (mVar 1)) (gIx 0 (mC (.int 2))))
    (mRet 2 (mVar 2)))) mNext)
    (mSeq (mIfS (mTest (mOp dGt (mOp dIx (mVar 0) (mC (.int 4))) (mC (.int 0)))) (mSeq (mAsg (mOp dSub (mOp dIx (mVar 0) (mC (.int 4))) (mC (.int 1))) (gIx 0 (mC (.int 4))))
    (mRet 2 (mCall m_l_mixed (mCons (mOp dIx (mVar 0) (mC (.int 3))) (mCons (mOp dIx (mVar 0) (mC (.int 4))) (mCons (mVar 1) mNil)))))) mNext)
    (mSeq (mIfS (mTest (mOp dGe (mOp dIx (mVar 0) (mC (.int 1))) (mCB dLen (mCons (mOp dIx (mVar 0) (mC (.int 0))) mNil)))) (mRet 2 (mC (.int 0))) mNext)
    (mSeq (mAsg (mOp dIx (mOp dIx (mVar 0) (mC (.int 0))) (mOp dIx (mVar 0) (mC (.int 1)))) (gNm 3))
    (mSeq (mAsg (mOp dAdd (mOp dIx (mVar 0) (mC (.int 1))) (mC (.int 1))) (gIx 0 (mC (.int 1))))
    (mSeq (mIfS (mTest (mOp dLt (mVar 3) (mC (.int 0)))) (mAsg (mOp dSub (mUn dNeg (mC (.int 1))) (mVar 3)) (gNm 3)) mNext)
    (mSeq (mIfS (mTest (mOp dGe (mVar 3) (mOp dPow (mC (.int 10)) (mC (.int 18))))) (mSeq (mAsg (mOp dDiv (mVar 3) (mVar 1)) (gIx 0 (mC (.int 2))))
    (mRet 2 (mOp dMod (mCB dInt (mCons (mVar 3) mNil)) (mVar 1)))) mNext)
    (mSeq (mAsg (mVar 3) (gIx 0 (mC (.int 3))))
    (mSeq (mAsg (mC (.int 7)) (gIx 0 (mC (.int 4))))
    (mRet 2 (mCall m_l_mixed (mCons (mVar 3) (mCons (mC (.int 7)) (mCons (mVar 1) mNil))))))))))))))
def m_l_draw : MF := mFun 2 2 [] mb_l_draw
def lb_l_numbers_1 : MS :=
    (mSeq (mAsg (mCall m_l_draw (mCons (mVar 0) (mCons (mOp dIx (mLst (mCons (mC (.int 2)) (mCons (mC (.int 9)) (mCons (mC (.int 1000)) (mCons (mOp dPow (mC (.int 10)) (mC (.int 6))) mNil))))) (mCall m_l_draw (mCons (mVar 0) (mCons (mC (.int 4)) mNil)))) mNil))) (gNm 4))
    (mSeq (mIfS (mTest (mOp dEq (mCall m_l_draw (mCons (mVar 0) (mCons (mC (.int 8)) mNil))) (mC (.int 7)))) (mAsg (mOp dAdd (mOp dMul (mOp dAdd (mVar 4) (mC (.int 1))) (mOp dPow (mC (.int 10)) (mC (.int 40)))) (mCall m_l_draw (mCons (mVar 0) (mCons (mOp dPow (mC (.int 10)) (mC (.int 6))) mNil)))) (gNm 4)) mNext)
    (mDrop (mApp 2 (mVar 4)))))
def mb_l_numbers : MS :=
    (mSeq (mAsg (mOp dIx (mLst (mCons (mCall m_l_draw (mCons (mVar 0) (mCons (mC (.int 4)) mNil))) (mCons (mCall m_l_draw (mCons (mVar 0) (mCons (mC (.int 12)) mNil))) (mCons (mCall m_l_draw (mCons (mVar 0) (mCons (mC (.int 61)) mNil))) mNil)))) (mCall m_l_draw (mCons (mVar 0) (mCons (mC (.int 3)) mNil)))) (gNm 1))
    (mSeq (mAsg (mLst mNil) (gNm 2))
    (mSeq (mFor (mRng1 (mCons (mVar 1) mNil)) (gNm 3) lb_l_numbers_1)
    (mRet 1 (mVar 2)))))
def m_l_numbers : MF := mFun 1 4 [] mb_l_numbers
def mb_WovenTasks___init__ : MS :=
    (mSetF 0 fc_weaving (st [119, 101, 97, 118, 105, 110, 103]) (mCB dTuple (mCons (mVar 1) mNil)))
def m_WovenTasks___init__ : MF := mFun 2 0 [] mb_WovenTasks___init__
def lb_l_tasks_1 : MS :=
    (mSeq (mAsg (mOp dAdd (mVar 1) (mTup (mCons (mOp dAdd (mC (.int 1)) (mCall m_l_draw (mCons (mVar 0) (mCons (mC (.int 12)) mNil)))) mNil))) (gNm 5))
    (mSeq (mDrop (mApp 3 (mTup (mCons (mVar 1) (mCons (mVar 5) mNil)))))
    (mSeq (mDrop (mApp 2 (mVar 5)))
    (mAsg (mVar 5) (gNm 1)))))
def lb_l_tasks_2 : MS :=
    (mSeq (mAsg (mOp dAdd (mOp dIx (mVar 2) (mCall m_l_draw (mCons (mVar 0) (mCons (mCB dLen (mCons (mVar 2) mNil)) mNil)))) (mTup (mCons (mOp dAdd (mC (.int 1)) (mCall m_l_draw (mCons (mVar 0) (mCons (mC (.int 12)) mNil)))) mNil))) (gNm 5))
    (mIfS (mTest (mOp dNotIn (mVar 5) (mVar 2))) (mSeq (mDrop (mApp 2 (mVar 5)))
    (mIfS (mTest (mOp dEq (mCall m_l_draw (mCons (mVar 0) (mCons (mC (.int 3)) mNil))) (mC (.int 2)))) (mSeq (mAsg (mOp dAdd (mVar 5) (mTup (mCons (mOp dAdd (mC (.int 1)) (mCall m_l_draw (mCons (mVar 0) (mCons (mC (.int 3)) mNil)))) mNil))) (gNm 6))
    (mSeq (mDrop (mApp 3 (mTup (mCons (mVar 5) (mCons (mVar 6) mNil)))))
    (mDrop (mApp 2 (mVar 6))))) mNext)) mNext))
def le_l_tasks_1 : ME :=
    (mOp dIx (mVar 8) (mC (.int 0)))
def le_l_tasks_2 : ME :=
    (mVar 9)
def lt_l_tasks_1 : MT :=
    (mTest (mOp dNotIn (mVar 9) (mVar 7)))
def mb_l_tasks : MS :=
    (mSeq (mAsg (mTup mNil) (gNm 1))
    (mSeq (mAsg (mLst (mCons (mTup mNil) mNil)) (gNm 2))
    (mSeq (mAsg (mLst mNil) (gNm 3))
    (mSeq (mFor (mRng1 (mCons (mCall m_l_draw (mCons (mVar 0) (mCons (mC (.int 7)) mNil))) mNil)) (gNm 4) lb_l_tasks_1)
    (mSeq (mFor (mRng1 (mCons (mCall m_l_draw (mCons (mVar 0) (mCons (mC (.int 8)) mNil))) mNil)) (gNm 4) lb_l_tasks_2)
    (mSeq (mAsg (mLc (mSeqI (mVar 3)) (gNm 8) (fun e => some (.ok true e)) le_l_tasks_1 [8]) (gNm 7))
    (mRet 1 (mLst (mCons (mCB dSorted (mCons (mLc (mSeqI (mVar 2)) (gNm 9) lt_l_tasks_1 le_l_tasks_2 [9]) mNil)) (mCons (mVar 3) (mCons (mVar 1) mNil)))))))))))
def m_l_tasks : MF := mFun 1 9 [] mb_l_tasks
def lb_l_waits_1 : MS :=
    (mAsg (mOp dIx (mVar 2) (mC (.int 1))) (gIxT 1 (mOp dIx (mVar 2) (mC (.int 0)))))
def mb_l_waits : MS :=
    (mSeq (mAsg mDnT (gNm 1))
    (mSeq (mFor (mSeqI (mVar 0)) (gNm 2) lb_l_waits_1)
    (mRet 1 (mVar 1))))
def m_l_waits : MF := mFun 1 2 [] mb_l_waits
def mb_l_chosen : MS :=
    (mSeq (mAsg (mC (.int 0)) (gNm 3))
    (mSeq (mIfS (mTest (mOp dLt (mVar 2) (mCB dLen (mCons (mVar 1) mNil)))) (mAsg (mOp dIx (mVar 1) (mVar 2)) (gNm 3)) mNext)
    (mRet 3 (mOp dIx (mVar 0) (mOp dMod (mCB dInt (mCons (mVar 3) mNil)) (mCB dLen (mCons (mVar 0) mNil)))))))
def m_l_chosen : MF := mFun 3 1 [] mb_l_chosen
def mb_l_is_int : MS :=
    (mRet 1 (mAndV (mCB dIsi (mCons (mVar 0) (mCons (mC (.cst (.ty "int"))) mNil))) (mNotV (mCB dIsi (mCons (mVar 0) (mCons (mC (.cst (.ty "bool"))) mNil))))))
def m_l_is_int : MF := mFun 1 0 [] mb_l_is_int
def lb_l_same_1 (mrec : MF) : MS :=
    (mIfS (mNot (mTru (mCall mrec (mCons (mOp dIx (mVar 0) (mVar 2)) (mCons (mOp dIx (mVar 1) (mVar 2)) mNil))))) (mRet 2 (mC (.bl false))) mNext)
def mb_l_same (mrec : MF) : MS :=
    (mSeq (mIfS (mTest (mOp dIs (mVar 1) (mC .non))) (mRet 2 (mOp dIs (mVar 0) (mC .non))) mNext)
    (mSeq (mIfS (mTru (mCB dIsi (mCons (mVar 1) (mCons (mC (.cst (.ty "bool"))) mNil)))) (mRet 2 (mAndV (mCB dIsi (mCons (mVar 0) (mCons (mC (.cst (.ty "bool"))) mNil))) (mOp dEq (mVar 0) (mVar 1)))) mNext)
    (mSeq (mIfS (mTru (mCB dIsi (mCons (mVar 1) (mCons (mC (.cst (.ty "int"))) mNil)))) (mRet 2 (mAndV (mCall m_l_is_int (mCons (mVar 0) mNil)) (mOp dEq (mVar 0) (mVar 1)))) mNext)
    (mSeq (mIfS (mTru (mCB dIsi (mCons (mVar 1) (mCons (mC (.cst (.ty "str"))) mNil)))) (mRet 2 (mAndV (mCB dIsi (mCons (mVar 0) (mCons (mC (.cst (.ty "str"))) mNil))) (mOp dEq (mVar 0) (mVar 1)))) mNext)
    (mSeq (mIfS (mAnd (mTru (mCB dIsi (mCons (mVar 1) (mCons (mC (.cst (.ty "list"))) mNil)))) (mNot (mTru (mCB dIsi (mCons (mVar 0) (mCons (mC (.cst (.ty "list"))) mNil)))))) (mRet 2 (mC (.bl false))) mNext)
    (mSeq (mIfS (mAnd (mTru (mCB dIsi (mCons (mVar 1) (mCons (mC (.cst (.ty "tuple"))) mNil)))) (mNot (mTru (mCB dIsi (mCons (mVar 0) (mCons (mC (.cst (.ty "tuple"))) mNil)))))) (mRet 2 (mC (.bl false))) mNext)
    (mSeq (mIfS (mTest (mOp dNe (mCB dLen (mCons (mVar 0) mNil)) (mCB dLen (mCons (mVar 1) mNil)))) (mRet 2 (mC (.bl false))) mNext)
    (mSeq (mFor (mRng1 (mCons (mCB dLen (mCons (mVar 1) mNil)) mNil)) (gNm 2) (lb_l_same_1 mrec))
    (mRet 2 (mC (.bl true)))))))))))
def m_l_same : Nat → MF
  | 0 => fun _ => none
  | n + 1 => mFun 2 1 [] (mb_l_same (m_l_same n))
def lc_WaitTasks_pick_1 : MT :=
    (mTest (mOp dIn (mVar 4) (mVar 3)))
def lb_WaitTasks_pick_1 : MS :=
    (mAsg (mOp dIx (mVar 3) (mVar 4)) (gNm 4))
def mb_WaitTasks_pick : MS :=
    (mSeq (mAsg (mTup mNil) (gNm 4))
    (mSeq (mWh lc_WaitTasks_pick_1 lb_WaitTasks_pick_1 wFuel)
    (mRet 4 (mVar 4))))
def m_WaitTasks_pick : MF := mFun 4 1 [] mb_WaitTasks_pick
def mb_WovenTasks_pick : MS :=
    (mSeq (mAsg (mC (.int 0)) (gNm 4))
    (mSeq (mIfS (mTest (mOp dLt (mVar 1) (mCB dLen (mCons (mUn (dFld fc_weaving (st [119, 101, 97, 118, 105, 110, 103])) (mVar 0)) mNil)))) (mAsg (mOp dIx (mUn (dFld fc_weaving (st [119, 101, 97, 118, 105, 110, 103])) (mVar 0)) (mVar 1)) (gNm 4)) mNext)
    (mRet 4 (mOp dIx (mVar 2) (mOp dMod (mVar 4) (mCB dLen (mCons (mVar 2) mNil)))))))
def m_WovenTasks_pick : MF := mFun 4 1 [] mb_WovenTasks_pick
def tab_pick : Nat → Option MF
  | 101 => some m_WovenTasks_pick
  | 102 => some m_WaitTasks_pick
  | _ => none
def lb_l_picked_1 : MS :=
    (mIfS (mNot (mTru (mCall (m_l_same 8) (mCons (mMeth tab_pick (st [112, 105, 99, 107]) (mOp dIx (mVar 0) (mVar 10)) (mCons (mVar 3) (mCons (mVar 7) (mCons (mVar 8) mNil)))) (mCons (mOp dIx (mVar 9) (mVar 10)) mNil))))) (mRet 4 (mC (.bl false))) mNext)
def le_l_picked_1 : ME :=
    (mOp dEq (mGet1 (mVar 8) (mOp dIx (mVar 11) (mC (.int 0)))) (mOp dIx (mVar 11) (mC (.int 1))))
def mb_l_picked : MS :=
    (mSeq (mAsg (mVar 2) (gUn 3 (gsCons (gNm 4) (gsCons (gNm 5) (gsCons (gNm 6) gsNil)))))
    (mSeq (mAsg (mCB dList (mCons (mVar 4) mNil)) (gNm 7))
    (mSeq (mAsg (mCall m_l_waits (mCons (mVar 5) mNil)) (gNm 8))
    (mSeq (mAsg (mLst (mCons (mCall m_l_chosen (mCons (mVar 4) (mCons (mOp dIx (mVar 1) (mC (.int 0))) (mCons (mVar 3) mNil)))) (mCons (mCall m_l_chosen (mCons (mVar 4) (mCons (mOp dIx (mVar 1) (mC (.int 1))) (mCons (mVar 3) mNil)))) (mCons (mVar 6) mNil)))) (gNm 9))
    (mSeq (mFor (mSeqI (mLst (mCons (mC (.int 0)) (mCons (mC (.int 2)) (mCons (mC (.int 1)) (mCons (mC (.int 0)) (mCons (mC (.int 2)) mNil))))))) (gNm 10) lb_l_picked_1)
    (mSeq (mIfS (mOr (mTest (mOp dNe (mVar 7) (mVar 4))) (mTest (mOp dNe (mCB dLen (mCons (mVar 8) mNil)) (mCB dLen (mCons (mVar 5) mNil))))) (mRet 4 (mC (.bl false))) mNext)
    (mRet 4 (mCB dAll (mCons (mLc (mSeqI (mVar 5)) (gNm 11) (fun e => some (.ok true e)) le_l_picked_1 [11]) mNil)))))))))
def m_l_picked : MF := mFun 4 8 [] mb_l_picked
def lb_law_1 : MS :=
    (mIfS (mNot (mTru (mCall m_l_picked (mCons (mVar 4) (mCons (mVar 2) (mCons (mVar 7) (mCons (mVar 9) mNil))))))) (mRet 1 (mC (.bl false))) mNext)
def lb_law_2 : MS :=
    (mSeq (mAsg (mCall m_l_tasks (mCons (mVar 1) mNil)) (gNm 7))
    (mSeq (mAsg (mLst (mCons (mC (.int 0)) (mCons (mCB dMax (mCons (mC (.int 0)) (mCons (mOp dSub (mOp dIx (mVar 5) (mC (.int 0))) (mC (.int 1))) mNil))) (mCons (mOp dIx (mVar 5) (mC (.int 0))) (mCons (mCB dMax (mCons (mC (.int 0)) (mCons (mOp dSub (mOp dIx (mVar 5) (mC (.int 1))) (mC (.int 1))) mNil))) (mCons (mOp dIx (mVar 5) (mC (.int 1))) (mCons (mCall m_l_draw (mCons (mVar 1) (mCons (mC (.int 200)) mNil))) mNil))))))) (gNm 8))
    (mSeq (mFor (mSeqI (mOp dAdd (mVar 8) (mLst (mCons (mCall m_l_draw (mCons (mVar 1) (mCons (mOp dAdd (mOp dIx (mVar 5) (mC (.int 0))) (mC (.int 1))) mNil))) mNil)))) (gNm 9) lb_law_1)
    (mIfS (mNot (mTru (mCall (m_l_same 8) (mCons (mLst (mCons (mUn (dFld fc_weaving (st [119, 101, 97, 118, 105, 110, 103])) (mOp dIx (mVar 4) (mC (.int 0)))) (mCons (mUn (dFld fc_weaving (st [119, 101, 97, 118, 105, 110, 103])) (mOp dIx (mVar 4) (mC (.int 1)))) mNil))) (mCons (mLst (mCons (mCB dTuple (mCons (mOp dIx (mVar 2) (mC (.int 0))) mNil)) (mCons (mCB dTuple (mCons (mOp dIx (mVar 2) (mC (.int 1))) mNil)) mNil))) mNil))))) (mRet 1 (mC (.bl false))) mNext))))
def mb_law : MS :=
    (mSeq (mAsg (mCall m_l_pool (mCons (mVar 0) mNil)) (gNm 1))
    (mSeq (mAsg (mLst (mCons (mCall m_l_numbers (mCons (mVar 1) mNil)) (mCons (mCall m_l_numbers (mCons (mVar 1) mNil)) mNil))) (gNm 2))
    (mSeq (mAsg (mCB dList (mCons (mOp dIx (mVar 2) (mC (.int 0))) mNil)) (gNm 3))
    (mSeq (mAsg (mLst (mCons (mMake 101 m_WovenTasks___init__ (mCons (mVar 3) mNil)) (mCons (mMake 101 m_WovenTasks___init__ (mCons (mCB dTuple (mCons (mOp dIx (mVar 2) (mC (.int 1))) mNil)) mNil)) (mCons (mMakeO 102) mNil)))) (gNm 4))
    (mSeq (mDrop (mApp 3 (mC (.int 7))))
    (mSeq (mAsg (mOp dAdd (mOp dIx (mVar 3) (mC (.int 0))) (mC (.int 1))) (gIx 3 (mC (.int 0))))
    (mSeq (mAsg (mLst (mCons (mCB dLen (mCons (mOp dIx (mVar 2) (mC (.int 0))) mNil)) (mCons (mCB dLen (mCons (mOp dIx (mVar 2) (mC (.int 1))) mNil)) mNil))) (gNm 5))
    (mSeq (mFor (mRng1 (mCons (mC (.int 3)) mNil)) (gNm 6) lb_law_2)
    (mRet 1 (mC (.bl true)))))))))))
def m_law : MF := mFun 1 9 [] mb_law
/-- what the top has written -/
structure Txt (P : Program) (w : World) (K : PySem.W.Frag) (mg : Str → Option Value) where
  f_l_pool : Addr
  d_l_pool : FuncData
  F_l_pool : Fun K "_law_pool" "_law_pool" s_l_pool f_l_pool d_l_pool
  g_l_pool : mg "_law_pool" = some (.ref f_l_pool)
  b_l_pool : Binds K d_l_pool ["_law_script"] []
  f_l_mixed : Addr
  d_l_mixed : FuncData
  F_l_mixed : Fun K "_law_mixed" "_law_mixed" s_l_mixed f_l_mixed d_l_mixed
  g_l_mixed : mg "_law_mixed" = some (.ref f_l_mixed)
  b_l_mixed : Binds K d_l_mixed ["_law_cell", "_law_turn", "_law_limit"] []
  f_l_draw : Addr
  d_l_draw : FuncData
  F_l_draw : Fun K "_law_draw" "_law_draw" s_l_draw f_l_draw d_l_draw
  g_l_draw : mg "_law_draw" = some (.ref f_l_draw)
  b_l_draw : Binds K d_l_draw ["_law_pool_here", "_law_limit"] []
  f_l_numbers : Addr
  d_l_numbers : FuncData
  F_l_numbers : Fun K "_law_numbers" "_law_numbers" s_l_numbers f_l_numbers d_l_numbers
  g_l_numbers : mg "_law_numbers" = some (.ref f_l_numbers)
  b_l_numbers : Binds K d_l_numbers ["_law_pool_here"] []
  f_WovenTasks___init__ : Addr
  d_WovenTasks___init__ : FuncData
  F_WovenTasks___init__ : Fun K "__init__" "WovenTasks.__init__" s_WovenTasks___init__ f_WovenTasks___init__ d_WovenTasks___init__
  b_WovenTasks___init__ : Binds K d_WovenTasks___init__ ["self", "weaving"] []
  f_l_tasks : Addr
  d_l_tasks : FuncData
  F_l_tasks : Fun K "_law_tasks" "_law_tasks" s_l_tasks f_l_tasks d_l_tasks
  g_l_tasks : mg "_law_tasks" = some (.ref f_l_tasks)
  b_l_tasks : Binds K d_l_tasks ["_law_pool_here"] []
  f_l_waits : Addr
  d_l_waits : FuncData
  F_l_waits : Fun K "_law_waits" "_law_waits" s_l_waits f_l_waits d_l_waits
  g_l_waits : mg "_law_waits" = some (.ref f_l_waits)
  b_l_waits : Binds K d_l_waits ["_law_pairs"] []
  f_l_chosen : Addr
  d_l_chosen : FuncData
  F_l_chosen : Fun K "_law_chosen" "_law_chosen" s_l_chosen f_l_chosen d_l_chosen
  g_l_chosen : mg "_law_chosen" = some (.ref f_l_chosen)
  b_l_chosen : Binds K d_l_chosen ["_law_ready", "_law_woven", "_law_count"] []
  f_l_is_int : Addr
  d_l_is_int : FuncData
  F_l_is_int : Fun K "_law_is_int" "_law_is_int" s_l_is_int f_l_is_int d_l_is_int
  g_l_is_int : mg "_law_is_int" = some (.ref f_l_is_int)
  b_l_is_int : Binds K d_l_is_int ["_law_thing"] []
  f_l_same : Addr
  d_l_same : FuncData
  F_l_same : Fun K "_law_same" "_law_same" s_l_same f_l_same d_l_same
  g_l_same : mg "_law_same" = some (.ref f_l_same)
  b_l_same : Binds K d_l_same ["_law_mine", "_law_due"] []
  f_WaitTasks_pick : Addr
  d_WaitTasks_pick : FuncData
  F_WaitTasks_pick : Fun K "pick" "WaitTasks.pick" s_WaitTasks_pick f_WaitTasks_pick d_WaitTasks_pick
  b_WaitTasks_pick : Binds K d_WaitTasks_pick ["self", "count", "ready", "waits"] []
  f_WovenTasks_pick : Addr
  d_WovenTasks_pick : FuncData
  F_WovenTasks_pick : Fun K "pick" "WovenTasks.pick" s_WovenTasks_pick f_WovenTasks_pick d_WovenTasks_pick
  b_WovenTasks_pick : Binds K d_WovenTasks_pick ["self", "count", "ready", "waits"] []
  f_l_picked : Addr
  d_l_picked : FuncData
  F_l_picked : Fun K "_law_picked" "_law_picked" s_l_picked f_l_picked d_l_picked
  g_l_picked : mg "_law_picked" = some (.ref f_l_picked)
  b_l_picked : Binds K d_l_picked ["_law_tasks_here", "_law_woven", "_law_world", "_law_count"] []
  f_law : Addr
  d_law : FuncData
  F_law : Fun K "law" "law" s_law f_law d_law
  g_law : mg "law" = some (.ref f_law)
  b_law : Binds K d_law ["_law_script"] []
  b_list : mg "list" = none
  b_tuple : mg "tuple" = none
  b_len : mg "len" = none
  b_range : mg "range" = none
  b_max : mg "max" = none
  b_int : mg "int" = none
  b_sorted : mg "sorted" = none
  b_all : mg "all" = none
  b_isinstance : mg "isinstance" = none
  b_bool : mg "bool" = none
  b_str : mg "str" = none
  C_WaitTasks : Addr
  gC_WaitTasks : mg "WaitTasks" = some (.ref C_WaitTasks)
  C_WovenTasks : Addr
  gC_WovenTasks : mg "WovenTasks" = some (.ref C_WovenTasks)
  cl_WaitTasks : Cls K C_WaitTasks
  cl_WovenTasks : Cls K C_WovenTasks
  MO_WaitTasks : Mk0 K C_WaitTasks
  M_WovenTasks : Mk K C_WovenTasks f_WovenTasks___init__
  mt_WovenTasks_pick : Meth K C_WovenTasks "pick" f_WovenTasks_pick
  mt_WaitTasks_pick : Meth K C_WaitTasks "pick" f_WaitTasks_pick
  na_WovenTasks_weaving : NoAttr K C_WovenTasks "weaving"
section
variable {P : Program} {w : World} {K : PySem.W.Frag} {mg : Str → Option Value} {base : Heap}
def cvT (T : Txt P w K mg) : Nat → Value
  | 101 => .ref T.C_WovenTasks
  | 102 => .ref T.C_WaitTasks
  | _ => .none
theorem fo_weaving (T : Txt P w K mg) : FldOk ⟨K, cvT T, wtT⟩ fc_weaving "weaving" := fun c h => by
  simp only [fc_weaving, List.contains_cons, List.contains_nil, Bool.or_false, Bool.or_eq_true, beq_iff_eq] at h
  subst h
  exact ⟨_, rfl, T.cl_WovenTasks, T.na_WovenTasks_weaving⟩
theorem tabok_pick (T : Txt P w K mg) : ∀ c mf, tab_pick c = some mf → ∃ Ca, cvT T c = .ref Ca ∧ (Ca, spM ⟨K, cvT T, wtT⟩ mf) ∈ [(T.C_WovenTasks, spM ⟨K, cvT T, wtT⟩ m_WovenTasks_pick), (T.C_WaitTasks, spM ⟨K, cvT T, wtT⟩ m_WaitTasks_pick)] := fun c mf h => by
  unfold tab_pick at h
  split at h <;> first | (cases h; exact ⟨_, rfl, by simp⟩) | cases h
def rd_l_pool (T : Txt P w K mg) (W : WX) : TS :=
    (tRet (tLst (tCons (tCB (rListD K) (tCons (tVar 0) tNil)) (tCons (tC (.int 0)) (tCons (tC (.int 0)) (tCons (tC (.int 0)) (tCons (tC (.int 0)) tNil)))))))
theorem sim_l_pool (T : Txt P w K mg) (W : WX) : SS (bC ⟨K, cvT T, wtT⟩ W 1 []) (rd_l_pool T W) (mb_l_pool) := by
  unfold rd_l_pool mb_l_pool
  exact (ss_ret (se_lst (sa_cons (se_cb p_list (sa_cons (se_var 0) sa_nil)) (sa_cons (se_c (.int 0)) (sa_cons (se_c (.int 0)) (sa_cons (se_c (.int 0)) (sa_cons (se_c (.int 0)) sa_nil)))))))
theorem fn_l_pool (T : Txt P w K mg) {k : Nat} : FnOk P w K mg base (L2N.CX P w) (k + 1) T.f_l_pool T.d_l_pool ["_law_script"] (spM ⟨K, cvT T, wtT⟩ (mFun 1 0 [] (mb_l_pool))) := by
  refine Fun.okN T.F_l_pool sc_l_pool (fun vs H Q E h => spM_len vs H Q E h) (fun cdv A outer s H vs Q E hr h0 => ⟨rd_l_pool T (fun c o _ H => E c o H), ?_, body_mir (np := 1) (nl := 0) rfl (sim_l_pool T _) h0⟩)
  exact (pss_one (ps_ret (pe_lst (pa_cons (pe_callTy call_listD (by rfl) T.b_list bt_list (pa_cons (pv 0) pa_nil)) (pa_cons pe_int (pa_cons pe_int (pa_cons pe_int (pa_cons pe_int pa_nil))))))))
theorem ok_l_pool (T : Txt P w K mg) : FnOk P w K mg base (L2N.CX P w) 1 T.f_l_pool T.d_l_pool ["_law_script"] (spM ⟨K, cvT T, wtT⟩ m_l_pool) := fn_l_pool (k := 0) T 
def rd_l_mixed (T : Txt P w K mg) (W : WX) : TS :=
    (tSeq (tAsg (tOp rModD (tCB (rIntD) (tCons (tOp (rAddD K) (tOp (rAddD K) (tOp rMulD (tVar 0) (tC (.int 48271))) (tOp rMulD (tVar 1) (tC (.int 69621)))) (tC (.int 11))) tNil)) (tC (.int 2147483647))) (gName 3))
    (tSeq (tAsg (tOp rModD (tCB (rIntD) (tCons (tOp (rAddD K) (tOp (rAddD K) (tOp rMulD (tVar 3) (tC (.int 40692))) (tOp rMulD (tVar 0) (tC (.int 16807)))) (tOp rMulD (tVar 1) (tC (.int 30269)))) tNil)) (tC (.int 2147483399))) (gName 4))
    (tSeq (tAsg (tOp rModD (tCB (rIntD) (tCons (tOp (rAddD K) (tOp rMulD (tVar 4) (tC (.int 39373))) (tOp rFdivD (tVar 3) (tC (.int 7)))) tNil)) (tC (.int 1000000007))) (gName 5))
    (tRet (tOp rModD (tCB (rIntD) (tCons (tVar 5) tNil)) (tVar 2))))))
theorem sim_l_mixed (T : Txt P w K mg) (W : WX) : SS (bC ⟨K, cvT T, wtT⟩ W 3 []) (rd_l_mixed T W) (mb_l_mixed) := by
  unfold rd_l_mixed mb_l_mixed
  exact (ss_seq (ss_asg (se_op p_mod (se_cb p_int (sa_cons (se_op p_add (se_op p_add (se_op p_mul (se_var 0) (se_c (.int 48271))) (se_op p_mul (se_var 1) (se_c (.int 69621)))) (se_c (.int 11))) sa_nil)) (se_c (.int 2147483647))) (sg_name rfl))
    (ss_seq (ss_asg (se_op p_mod (se_cb p_int (sa_cons (se_op p_add (se_op p_add (se_op p_mul (se_var 3) (se_c (.int 40692))) (se_op p_mul (se_var 0) (se_c (.int 16807)))) (se_op p_mul (se_var 1) (se_c (.int 30269)))) sa_nil)) (se_c (.int 2147483399))) (sg_name rfl))
    (ss_seq (ss_asg (se_op p_mod (se_cb p_int (sa_cons (se_op p_add (se_op p_mul (se_var 4) (se_c (.int 39373))) (se_op p_div (se_var 3) (se_c (.int 7)))) sa_nil)) (se_c (.int 1000000007))) (sg_name rfl))
    (ss_ret (se_op p_mod (se_cb p_int (sa_cons (se_var 5) sa_nil)) (se_var 2))))))
theorem fn_l_mixed (T : Txt P w K mg) {k : Nat} : FnOk P w K mg base (L2N.CX P w) (k + 1) T.f_l_mixed T.d_l_mixed ["_law_cell", "_law_turn", "_law_limit"] (spM ⟨K, cvT T, wtT⟩ (mFun 3 3 [] (mb_l_mixed))) := by
  refine Fun.okN T.F_l_mixed sc_l_mixed (fun vs H Q E h => spM_len vs H Q E h) (fun cdv A outer s H vs Q E hr h0 => ⟨rd_l_mixed T (fun c o _ H => E c o H), ?_, body_mir (np := 3) (nl := 3) rfl (sim_l_mixed T _) h0⟩)
  exact (pss_cons (sset 3 sc_l_mixed.nd (pe_op op_modD (pe_callTy call_intD (by rfl) T.b_int bt_int (pa_cons (pe_op op_addD (pe_op op_addD (pe_op op_mulD (pv 0) pe_int) (pe_op op_mulD (pv 1) pe_int)) pe_int) pa_nil)) pe_int))
      (pss_cons (sset 4 sc_l_mixed.nd (pe_op op_modD (pe_callTy call_intD (by rfl) T.b_int bt_int (pa_cons (pe_op op_addD (pe_op op_addD (pe_op op_mulD (pv 3) pe_int) (pe_op op_mulD (pv 0) pe_int)) (pe_op op_mulD (pv 1) pe_int)) pa_nil)) pe_int))
      (pss_cons (sset 5 sc_l_mixed.nd (pe_op op_modD (pe_callTy call_intD (by rfl) T.b_int bt_int (pa_cons (pe_op op_addD (pe_op op_mulD (pv 4) pe_int) (pe_op op_fdivD (pv 3) pe_int)) pa_nil)) pe_int))
      (pss_one (ps_ret (pe_op op_modD (pe_callTy call_intD (by rfl) T.b_int bt_int (pa_cons (pv 5) pa_nil)) (pv 2)))))))
theorem ok_l_mixed (T : Txt P w K mg) : FnOk P w K mg base (L2N.CX P w) 1 T.f_l_mixed T.d_l_mixed ["_law_cell", "_law_turn", "_law_limit"] (spM ⟨K, cvT T, wtT⟩ m_l_mixed) := fn_l_mixed (k := 0) T 
def rd_l_draw (T : Txt P w K mg) (W : WX) : TS :=
    (tSeq (tIfS (tTest (tOp rGtD (tOp (rIxD K) (tVar 0) (tC (.int 2))) (tC (.int 0)))) (tSeq (tAsg (tOp rModD (tCB (rIntD) (tCons (tOp (rIxD K) (tVar 0) (tC (.int 2))) tNil)) (tVar 1)) (gName 2))
    (tSeq (tAsg (tOp rFdivD (tOp (rIxD K) (tVar 0) (tC (.int 2))) (tVar 1)) (gSub (tVar 0) (tC (.int 2)) rSetD))
    (tRet (tVar 2)))) tNext)
    (tSeq (tIfS (tTest (tOp rGtD (tOp (rIxD K) (tVar 0) (tC (.int 4))) (tC (.int 0)))) (tSeq (tAsg (tOp rSubD (tOp (rIxD K) (tVar 0) (tC (.int 4))) (tC (.int 1))) (gSub (tVar 0) (tC (.int 4)) rSetD))
    (tRet (tCallS (spM ⟨K, cvT T, wtT⟩ m_l_mixed) (WE W) (tCons (tOp (rIxD K) (tVar 0) (tC (.int 3))) (tCons (tOp (rIxD K) (tVar 0) (tC (.int 4))) (tCons (tVar 1) tNil)))))) tNext)
    (tSeq (tIfS (tTest (tOp rGeD (tOp (rIxD K) (tVar 0) (tC (.int 1))) (tCB (rLenD K) (tCons (tOp (rIxD K) (tVar 0) (tC (.int 0))) tNil)))) (tRet (tC (.int 0))) tNext)
    (tSeq (tAsg (tOp (rIxD K) (tOp (rIxD K) (tVar 0) (tC (.int 0))) (tOp (rIxD K) (tVar 0) (tC (.int 1)))) (gName 3))
    (tSeq (tAsg (tOp (rAddD K) (tOp (rIxD K) (tVar 0) (tC (.int 1))) (tC (.int 1))) (gSub (tVar 0) (tC (.int 1)) rSetD))
    (tSeq (tIfS (tTest (tOp rLtD (tVar 3) (tC (.int 0)))) (tAsg (tOp rSubD (tUn rNeg (tC (.int 1))) (tVar 3)) (gName 3)) tNext)
    (tSeq (tIfS (tTest (tOp rGeD (tVar 3) (tOp rPowD (tC (.int 10)) (tC (.int 18))))) (tSeq (tAsg (tOp rFdivD (tVar 3) (tVar 1)) (gSub (tVar 0) (tC (.int 2)) rSetD))
    (tRet (tOp rModD (tCB (rIntD) (tCons (tVar 3) tNil)) (tVar 1)))) tNext)
    (tSeq (tAsg (tVar 3) (gSub (tVar 0) (tC (.int 3)) rSetD))
    (tSeq (tAsg (tC (.int 7)) (gSub (tVar 0) (tC (.int 4)) rSetD))
    (tRet (tCallS (spM ⟨K, cvT T, wtT⟩ m_l_mixed) (WE W) (tCons (tVar 3) (tCons (tC (.int 7)) (tCons (tVar 1) tNil))))))))))))))
theorem sim_l_draw (T : Txt P w K mg) (W : WX) : SS (bC ⟨K, cvT T, wtT⟩ W 2 []) (rd_l_draw T W) (mb_l_draw) := by
  unfold rd_l_draw mb_l_draw
  exact (ss_seq (ss_if (st_test (se_op p_gt (se_op p_ix (se_var 0) (se_c (.int 2))) (se_c (.int 0)))) (ss_seq (ss_asg (se_op p_mod (se_cb p_int (sa_cons (se_op p_ix (se_var 0) (se_c (.int 2))) sa_nil)) (se_var 1)) (sg_name rfl))
    (ss_seq (ss_asg (se_op p_div (se_op p_ix (se_var 0) (se_c (.int 2))) (se_var 1)) (sg_ix (se_c (.int 2))))
    (ss_ret (se_var 2)))) ss_next)
    (ss_seq (ss_if (st_test (se_op p_gt (se_op p_ix (se_var 0) (se_c (.int 4))) (se_c (.int 0)))) (ss_seq (ss_asg (se_op p_sub (se_op p_ix (se_var 0) (se_c (.int 4))) (se_c (.int 1))) (sg_ix (se_c (.int 4))))
    (ss_ret (se_callS (sa_cons (se_op p_ix (se_var 0) (se_c (.int 3))) (sa_cons (se_op p_ix (se_var 0) (se_c (.int 4))) (sa_cons (se_var 1) sa_nil)))))) ss_next)
    (ss_seq (ss_if (st_test (se_op p_ge (se_op p_ix (se_var 0) (se_c (.int 1))) (se_cb p_len (sa_cons (se_op p_ix (se_var 0) (se_c (.int 0))) sa_nil)))) (ss_ret (se_c (.int 0))) ss_next)
    (ss_seq (ss_asg (se_op p_ix (se_op p_ix (se_var 0) (se_c (.int 0))) (se_op p_ix (se_var 0) (se_c (.int 1)))) (sg_name rfl))
    (ss_seq (ss_asg (se_op p_add (se_op p_ix (se_var 0) (se_c (.int 1))) (se_c (.int 1))) (sg_ix (se_c (.int 1))))
    (ss_seq (ss_if (st_test (se_op p_lt (se_var 3) (se_c (.int 0)))) (ss_asg (se_op p_sub (se_un p_neg (se_c (.int 1))) (se_var 3)) (sg_name rfl)) ss_next)
    (ss_seq (ss_if (st_test (se_op p_ge (se_var 3) (se_op p_pow (se_c (.int 10)) (se_c (.int 18))))) (ss_seq (ss_asg (se_op p_div (se_var 3) (se_var 1)) (sg_ix (se_c (.int 2))))
    (ss_ret (se_op p_mod (se_cb p_int (sa_cons (se_var 3) sa_nil)) (se_var 1)))) ss_next)
    (ss_seq (ss_asg (se_var 3) (sg_ix (se_c (.int 3))))
    (ss_seq (ss_asg (se_c (.int 7)) (sg_ix (se_c (.int 4))))
    (ss_ret (se_callS (sa_cons (se_var 3) (sa_cons (se_c (.int 7)) (sa_cons (se_var 1) sa_nil))))))))))))))
theorem fn_l_draw (T : Txt P w K mg) {k : Nat} {k_l_mixed : Nat} (G_l_mixed : FnOk P w K mg base (L2N.CX P w) k_l_mixed T.f_l_mixed T.d_l_mixed ["_law_cell", "_law_turn", "_law_limit"] (spM ⟨K, cvT T, wtT⟩ m_l_mixed)) (h_l_mixed : k_l_mixed ≤ k) : FnOk P w K mg base (L2N.CX P w) (k + 1) T.f_l_draw T.d_l_draw ["_law_pool_here", "_law_limit"] (spM ⟨K, cvT T, wtT⟩ (mFun 2 2 [] (mb_l_draw))) := by
  refine Fun.okN T.F_l_draw sc_l_draw (fun vs H Q E h => spM_len vs H Q E h) (fun cdv A outer s H vs Q E hr h0 => ⟨rd_l_draw T (fun c o _ H => E c o H), ?_, body_mir (np := 2) (nl := 2) rfl (sim_l_draw T _) h0⟩)
  exact (pss_cons (ps_if (pt_cmpR op_gtD (pe_ix (ix_D hr.units) (pv 0) pe_int (fun _ _ => rfl)) pe_int (nomark _)) (pss_cons (sset 2 sc_l_draw.nd (pe_op op_modD (pe_callTy call_intD (by rfl) T.b_int bt_int (pa_cons (pe_ix (ix_D hr.units) (pv 0) pe_int (fun _ _ => rfl)) pa_nil)) (pv 1)))
      (pss_cons (ps_asg (pe_op op_fdivD (pe_ix (ix_D hr.units) (pv 0) pe_int (fun _ _ => rfl)) (pv 1)) (pg_sub (pv 0) pe_int (set_D hr.units)))
      (pss_one (ps_ret (pv 2))))) pss_nil)
      (pss_cons (ps_if (pt_cmpR op_gtD (pe_ix (ix_D hr.units) (pv 0) pe_int (fun _ _ => rfl)) pe_int (nomark _)) (pss_cons (ps_asg (pe_op op_subD (pe_ix (ix_D hr.units) (pv 0) pe_int (fun _ _ => rfl)) pe_int) (pg_sub (pv 0) pe_int (set_D hr.units)))
      (pss_one (ps_ret (pe_callS G_l_mixed (hr.mono h_l_mixed) rfl T.g_l_mixed T.F_l_mixed.kp T.b_l_mixed (fun σ => L2N.passAt (L2N.takes_of rfl rfl rfl rfl) σ) (pa_cons (pe_ix (ix_D hr.units) (pv 0) pe_int (fun _ _ => rfl)) (pa_cons (pe_ix (ix_D hr.units) (pv 0) pe_int (fun _ _ => rfl)) (pa_cons (pv 1) pa_nil))))))) pss_nil)
      (pss_cons (ps_if (pt_cmpR op_geD (pe_ix (ix_D hr.units) (pv 0) pe_int (fun _ _ => rfl)) (pe_callB call_lenX (by rfl) T.b_len bt_len (pa_cons (pe_ix (ix_D hr.units) (pv 0) pe_int (fun _ _ => rfl)) pa_nil)) (nomark _)) (pss_one (ps_ret pe_int)) pss_nil)
      (pss_cons (sset 3 sc_l_draw.nd (pe_ix (ix_D hr.units) (pe_ix (ix_D hr.units) (pv 0) pe_int (fun _ _ => rfl)) (pe_ix (ix_D hr.units) (pv 0) pe_int (fun _ _ => rfl)) (fun _ _ => rfl)))
      (pss_cons (ps_asg (pe_op op_addD (pe_ix (ix_D hr.units) (pv 0) pe_int (fun _ _ => rfl)) pe_int) (pg_sub (pv 0) pe_int (set_D hr.units)))
      (pss_cons (ps_if (pt_cmpR op_ltD (pv 3) pe_int (nomark _)) (pss_one (sset 3 sc_l_draw.nd (pe_op op_subD (pe_un un_neg pe_int) (pv 3)))) pss_nil)
      (pss_cons (ps_if (pt_cmpR op_geD (pv 3) (pe_op op_powD pe_int pe_int) (nomark _)) (pss_cons (ps_asg (pe_op op_fdivD (pv 3) (pv 1)) (pg_sub (pv 0) pe_int (set_D hr.units)))
      (pss_one (ps_ret (pe_op op_modD (pe_callTy call_intD (by rfl) T.b_int bt_int (pa_cons (pv 3) pa_nil)) (pv 1))))) pss_nil)
      (pss_cons (ps_asg (pv 3) (pg_sub (pv 0) pe_int (set_D hr.units)))
      (pss_cons (ps_asg pe_int (pg_sub (pv 0) pe_int (set_D hr.units)))
      (pss_one (ps_ret (pe_callS G_l_mixed (hr.mono h_l_mixed) rfl T.g_l_mixed T.F_l_mixed.kp T.b_l_mixed (fun σ => L2N.passAt (L2N.takes_of rfl rfl rfl rfl) σ) (pa_cons (pv 3) (pa_cons pe_int (pa_cons (pv 1) pa_nil)))))))))))))))
theorem ok_l_draw (T : Txt P w K mg) : FnOk P w K mg base (L2N.CX P w) 2 T.f_l_draw T.d_l_draw ["_law_pool_here", "_law_limit"] (spM ⟨K, cvT T, wtT⟩ m_l_draw) := fn_l_draw (k := 1) T (ok_l_mixed T) (by omega)
def rd_l_numbers (T : Txt P w K mg) (W : WX) : TS :=
    (tSeq (tAsg (tOp (rIxD K) (tLst (tCons (tCallS (spM ⟨K, cvT T, wtT⟩ m_l_draw) (WE W) (tCons (tVar 0) (tCons (tC (.int 4)) tNil))) (tCons (tCallS (spM ⟨K, cvT T, wtT⟩ m_l_draw) (WE W) (tCons (tVar 0) (tCons (tC (.int 12)) tNil))) (tCons (tCallS (spM ⟨K, cvT T, wtT⟩ m_l_draw) (WE W) (tCons (tVar 0) (tCons (tC (.int 61)) tNil))) tNil)))) (tCallS (spM ⟨K, cvT T, wtT⟩ m_l_draw) (WE W) (tCons (tVar 0) (tCons (tC (.int 3)) tNil)))) (gName 1))
    (tSeq (tAsg (tLst tNil) (gName 2))
    (tSeq (tFor (iRng1 (tCons (tVar 1) tNil)) (gName 3) (tSeq (tAsg (tCallS (spM ⟨K, cvT T, wtT⟩ m_l_draw) (WE W) (tCons (tVar 0) (tCons (tOp (rIxD K) (tLst (tCons (tC (.int 2)) (tCons (tC (.int 9)) (tCons (tC (.int 1000)) (tCons (tOp rPowD (tC (.int 10)) (tC (.int 6))) tNil))))) (tCallS (spM ⟨K, cvT T, wtT⟩ m_l_draw) (WE W) (tCons (tVar 0) (tCons (tC (.int 4)) tNil)))) tNil))) (gName 4))
    (tSeq (tIfS (tTest (tOp (rEqX K) (tCallS (spM ⟨K, cvT T, wtT⟩ m_l_draw) (WE W) (tCons (tVar 0) (tCons (tC (.int 8)) tNil))) (tC (.int 7)))) (tAsg (tOp (rAddD K) (tOp rMulD (tOp (rAddD K) (tVar 4) (tC (.int 1))) (tOp rPowD (tC (.int 10)) (tC (.int 40)))) (tCallS (spM ⟨K, cvT T, wtT⟩ m_l_draw) (WE W) (tCons (tVar 0) (tCons (tOp rPowD (tC (.int 10)) (tC (.int 6))) tNil)))) (gName 4)) tNext)
    (tDrop (tBM K "list" rAppend (tVar 2) (tCons (tVar 4) tNil))))))
    (tRet (tVar 2)))))
theorem sim_l_numbers (T : Txt P w K mg) (W : WX) : SS (bC ⟨K, cvT T, wtT⟩ W 1 []) (rd_l_numbers T W) (mb_l_numbers) := by
  unfold rd_l_numbers mb_l_numbers lb_l_numbers_1
  exact (ss_seq (ss_asg (se_op p_ix (se_lst (sa_cons (se_callS (sa_cons (se_var 0) (sa_cons (se_c (.int 4)) sa_nil))) (sa_cons (se_callS (sa_cons (se_var 0) (sa_cons (se_c (.int 12)) sa_nil))) (sa_cons (se_callS (sa_cons (se_var 0) (sa_cons (se_c (.int 61)) sa_nil))) sa_nil)))) (se_callS (sa_cons (se_var 0) (sa_cons (se_c (.int 3)) sa_nil)))) (sg_name rfl))
    (ss_seq (ss_asg (se_lst sa_nil) (sg_name rfl))
    (ss_seq (ss_for (si_rng1 (sa_cons (se_var 1) sa_nil)) (sg_name rfl) (ss_seq (ss_asg (se_callS (sa_cons (se_var 0) (sa_cons (se_op p_ix (se_lst (sa_cons (se_c (.int 2)) (sa_cons (se_c (.int 9)) (sa_cons (se_c (.int 1000)) (sa_cons (se_op p_pow (se_c (.int 10)) (se_c (.int 6))) sa_nil))))) (se_callS (sa_cons (se_var 0) (sa_cons (se_c (.int 4)) sa_nil)))) sa_nil))) (sg_name rfl))
    (ss_seq (ss_if (st_test (se_op p_eq (se_callS (sa_cons (se_var 0) (sa_cons (se_c (.int 8)) sa_nil))) (se_c (.int 7)))) (ss_asg (se_op p_add (se_op p_mul (se_op p_add (se_var 4) (se_c (.int 1))) (se_op p_pow (se_c (.int 10)) (se_c (.int 40)))) (se_callS (sa_cons (se_var 0) (sa_cons (se_op p_pow (se_c (.int 10)) (se_c (.int 6))) sa_nil)))) (sg_name rfl)) ss_next)
    (ss_drop (se_app (se_var 4))))))
    (ss_ret (se_var 2)))))
theorem fn_l_numbers (T : Txt P w K mg) {k : Nat} {k_l_draw : Nat} (G_l_draw : FnOk P w K mg base (L2N.CX P w) k_l_draw T.f_l_draw T.d_l_draw ["_law_pool_here", "_law_limit"] (spM ⟨K, cvT T, wtT⟩ m_l_draw)) (h_l_draw : k_l_draw ≤ k) : FnOk P w K mg base (L2N.CX P w) (k + 1) T.f_l_numbers T.d_l_numbers ["_law_pool_here"] (spM ⟨K, cvT T, wtT⟩ (mFun 1 4 [] (mb_l_numbers))) := by
  refine Fun.okN T.F_l_numbers sc_l_numbers (fun vs H Q E h => spM_len vs H Q E h) (fun cdv A outer s H vs Q E hr h0 => ⟨rd_l_numbers T (fun c o _ H => E c o H), ?_, body_mir (np := 1) (nl := 4) rfl (sim_l_numbers T _) h0⟩)
  exact (pss_cons (sset 1 sc_l_numbers.nd (pe_ix (ix_D hr.units) (pe_lst (pa_cons (pe_callS G_l_draw (hr.mono h_l_draw) rfl T.g_l_draw T.F_l_draw.kp T.b_l_draw (fun σ => L2N.passAt (L2N.takes_of rfl rfl rfl rfl) σ) (pa_cons (pv 0) (pa_cons pe_int pa_nil))) (pa_cons (pe_callS G_l_draw (hr.mono h_l_draw) rfl T.g_l_draw T.F_l_draw.kp T.b_l_draw (fun σ => L2N.passAt (L2N.takes_of rfl rfl rfl rfl) σ) (pa_cons (pv 0) (pa_cons pe_int pa_nil))) (pa_cons (pe_callS G_l_draw (hr.mono h_l_draw) rfl T.g_l_draw T.F_l_draw.kp T.b_l_draw (fun σ => L2N.passAt (L2N.takes_of rfl rfl rfl rfl) σ) (pa_cons (pv 0) (pa_cons pe_int pa_nil))) pa_nil)))) (pe_callS G_l_draw (hr.mono h_l_draw) rfl T.g_l_draw T.F_l_draw.kp T.b_l_draw (fun σ => L2N.passAt (L2N.takes_of rfl rfl rfl rfl) σ) (pa_cons (pv 0) (pa_cons pe_int pa_nil))) (fun _ _ => rfl)))
      (pss_cons (sset 2 sc_l_numbers.nd (pe_lst pa_nil))
      (pss_cons (ps_for (passes_of rfl) rfl (pi_range1 (by rfl) T.b_range (pa_cons (pv 1) pa_nil)) (gn 3 sc_l_numbers.nd) (pss_cons (sset 4 sc_l_numbers.nd (pe_callS G_l_draw (hr.mono h_l_draw) rfl T.g_l_draw T.F_l_draw.kp T.b_l_draw (fun σ => L2N.passAt (L2N.takes_of rfl rfl rfl rfl) σ) (pa_cons (pv 0) (pa_cons (pe_ix (ix_D hr.units) (pe_lst (pa_cons pe_int (pa_cons pe_int (pa_cons pe_int (pa_cons (pe_op op_powD pe_int pe_int) pa_nil))))) (pe_callS G_l_draw (hr.mono h_l_draw) rfl T.g_l_draw T.F_l_draw.kp T.b_l_draw (fun σ => L2N.passAt (L2N.takes_of rfl rfl rfl rfl) σ) (pa_cons (pv 0) (pa_cons pe_int pa_nil))) (fun _ _ => rfl)) pa_nil))))
      (pss_cons (ps_if (pt_cmpR (op_eqX hr.units) (pe_callS G_l_draw (hr.mono h_l_draw) rfl T.g_l_draw T.F_l_draw.kp T.b_l_draw (fun σ => L2N.passAt (L2N.takes_of rfl rfl rfl rfl) σ) (pa_cons (pv 0) (pa_cons pe_int pa_nil))) pe_int (nomark _)) (pss_one (sset 4 sc_l_numbers.nd (pe_op op_addD (pe_op op_mulD (pe_op op_addD (pv 4) pe_int) (pe_op op_powD pe_int pe_int)) (pe_callS G_l_draw (hr.mono h_l_draw) rfl T.g_l_draw T.F_l_draw.kp T.b_l_draw (fun σ => L2N.passAt (L2N.takes_of rfl rfl rfl rfl) σ) (pa_cons (pv 0) (pa_cons (pe_op op_powD pe_int pe_int) pa_nil)))))) pss_nil)
      (pss_one (ps_expr (pe_bm PySem.F.plainAttrs_list PySem.F.slot_list_append PySem.F.type_list_append mt_append (pv 2) (pa_cons (pv 4) pa_nil)))))))
      (pss_one (ps_ret (pv 2))))))
theorem ok_l_numbers (T : Txt P w K mg) : FnOk P w K mg base (L2N.CX P w) 3 T.f_l_numbers T.d_l_numbers ["_law_pool_here"] (spM ⟨K, cvT T, wtT⟩ m_l_numbers) := fn_l_numbers (k := 2) T (ok_l_draw T) (by omega)
def rd_WovenTasks___init__ (T : Txt P w K mg) (W : WX) : TS :=
    (sFld K (tVar 0) (tCB (rTupleD K) (tCons (tVar 1) tNil)) "weaving")
theorem sim_WovenTasks___init__ (T : Txt P w K mg) (W : WX) : SS (bC ⟨K, cvT T, wtT⟩ W 2 []) (rd_WovenTasks___init__ T W) (mb_WovenTasks___init__) := by
  unfold rd_WovenTasks___init__ mb_WovenTasks___init__
  exact (ss_setF (by decide +kernel) (fo_weaving T) (se_cb p_tuple (sa_cons (se_var 1) sa_nil)))
theorem fn_WovenTasks___init__ (T : Txt P w K mg) {k : Nat} : FnOk P w K mg base (L2N.CX P w) (k + 1) T.f_WovenTasks___init__ T.d_WovenTasks___init__ ["self", "weaving"] (spM ⟨K, cvT T, wtT⟩ (mFun 2 0 [] (mb_WovenTasks___init__))) := by
  refine Fun.okN T.F_WovenTasks___init__ sc_WovenTasks___init__ (fun vs H Q E h => spM_len vs H Q E h) (fun cdv A outer s H vs Q E hr h0 => ⟨rd_WovenTasks___init__ T (fun c o _ H => E c o H), ?_, body_mir (np := 2) (nl := 0) rfl (sim_WovenTasks___init__ T _) h0⟩)
  exact (pss_one (ps_fld (pv 0) (pe_callTy call_tupleD (by rfl) T.b_tuple bt_tuple (pa_cons (pv 1) pa_nil)) rfl))
theorem ok_WovenTasks___init__ (T : Txt P w K mg) : FnOk P w K mg base (L2N.CX P w) 1 T.f_WovenTasks___init__ T.d_WovenTasks___init__ ["self", "weaving"] (spM ⟨K, cvT T, wtT⟩ m_WovenTasks___init__) := fn_WovenTasks___init__ (k := 0) T 
def rd_l_tasks (T : Txt P w K mg) (W : WX) : TS :=
    (tSeq (tAsg (tTup tNil) (gName 1))
    (tSeq (tAsg (tLst (tCons (tTup tNil) tNil)) (gName 2))
    (tSeq (tAsg (tLst tNil) (gName 3))
    (tSeq (tFor (iRng1 (tCons (tCallS (spM ⟨K, cvT T, wtT⟩ m_l_draw) (WE W) (tCons (tVar 0) (tCons (tC (.int 7)) tNil))) tNil)) (gName 4) (tSeq (tAsg (tOp (rAddD K) (tVar 1) (tTup (tCons (tOp (rAddD K) (tC (.int 1)) (tCallS (spM ⟨K, cvT T, wtT⟩ m_l_draw) (WE W) (tCons (tVar 0) (tCons (tC (.int 12)) tNil)))) tNil))) (gName 5))
    (tSeq (tDrop (tBM K "list" rAppend (tVar 3) (tCons (tTup (tCons (tVar 1) (tCons (tVar 5) tNil))) tNil)))
    (tSeq (tDrop (tBM K "list" rAppend (tVar 2) (tCons (tVar 5) tNil)))
    (tAsg (tVar 5) (gName 1))))))
    (tSeq (tFor (iRng1 (tCons (tCallS (spM ⟨K, cvT T, wtT⟩ m_l_draw) (WE W) (tCons (tVar 0) (tCons (tC (.int 8)) tNil))) tNil)) (gName 4) (tSeq (tAsg (tOp (rAddD K) (tOp (rIxD K) (tVar 2) (tCallS (spM ⟨K, cvT T, wtT⟩ m_l_draw) (WE W) (tCons (tVar 0) (tCons (tCB (rLenD K) (tCons (tVar 2) tNil)) tNil)))) (tTup (tCons (tOp (rAddD K) (tC (.int 1)) (tCallS (spM ⟨K, cvT T, wtT⟩ m_l_draw) (WE W) (tCons (tVar 0) (tCons (tC (.int 12)) tNil)))) tNil))) (gName 5))
    (tIfS (tTest (tOp (rNotInD K) (tVar 5) (tVar 2))) (tSeq (tDrop (tBM K "list" rAppend (tVar 2) (tCons (tVar 5) tNil)))
    (tIfS (tTest (tOp (rEqX K) (tCallS (spM ⟨K, cvT T, wtT⟩ m_l_draw) (WE W) (tCons (tVar 0) (tCons (tC (.int 3)) tNil))) (tC (.int 2)))) (tSeq (tAsg (tOp (rAddD K) (tVar 5) (tTup (tCons (tOp (rAddD K) (tC (.int 1)) (tCallS (spM ⟨K, cvT T, wtT⟩ m_l_draw) (WE W) (tCons (tVar 0) (tCons (tC (.int 3)) tNil)))) tNil))) (gName 6))
    (tSeq (tDrop (tBM K "list" rAppend (tVar 3) (tCons (tTup (tCons (tVar 5) (tCons (tVar 6) tNil))) tNil)))
    (tDrop (tBM K "list" rAppend (tVar 2) (tCons (tVar 6) tNil))))) tNext)) tNext)))
    (tSeq (tAsg (tLc (iSeq K (tVar 3)) (gName 8) tYes (tOp (rIxD K) (tVar 8) (tC (.int 0))) [8]) (gName 7))
    (tRet (tLst (tCons (tCB (rSortX K) (tCons (tLc (iSeq K (tVar 2)) (gName 9) (tTest (tOp (rNotInD K) (tVar 9) (tVar 7))) (tVar 9) [9]) tNil)) (tCons (tVar 3) (tCons (tVar 1) tNil)))))))))))
theorem sim_l_tasks (T : Txt P w K mg) (W : WX) : SS (bC ⟨K, cvT T, wtT⟩ W 1 []) (rd_l_tasks T W) (mb_l_tasks) := by
  unfold rd_l_tasks mb_l_tasks lt_l_tasks_1 le_l_tasks_2 le_l_tasks_1 lb_l_tasks_2 lb_l_tasks_1
  exact (ss_seq (ss_asg (se_tup sa_nil) (sg_name rfl))
    (ss_seq (ss_asg (se_lst (sa_cons (se_tup sa_nil) sa_nil)) (sg_name rfl))
    (ss_seq (ss_asg (se_lst sa_nil) (sg_name rfl))
    (ss_seq (ss_for (si_rng1 (sa_cons (se_callS (sa_cons (se_var 0) (sa_cons (se_c (.int 7)) sa_nil))) sa_nil)) (sg_name rfl) (ss_seq (ss_asg (se_op p_add (se_var 1) (se_tup (sa_cons (se_op p_add (se_c (.int 1)) (se_callS (sa_cons (se_var 0) (sa_cons (se_c (.int 12)) sa_nil)))) sa_nil))) (sg_name rfl))
    (ss_seq (ss_drop (se_app (se_tup (sa_cons (se_var 1) (sa_cons (se_var 5) sa_nil)))))
    (ss_seq (ss_drop (se_app (se_var 5)))
    (ss_asg (se_var 5) (sg_name rfl))))))
    (ss_seq (ss_for (si_rng1 (sa_cons (se_callS (sa_cons (se_var 0) (sa_cons (se_c (.int 8)) sa_nil))) sa_nil)) (sg_name rfl) (ss_seq (ss_asg (se_op p_add (se_op p_ix (se_var 2) (se_callS (sa_cons (se_var 0) (sa_cons (se_cb p_len (sa_cons (se_var 2) sa_nil)) sa_nil)))) (se_tup (sa_cons (se_op p_add (se_c (.int 1)) (se_callS (sa_cons (se_var 0) (sa_cons (se_c (.int 12)) sa_nil)))) sa_nil))) (sg_name rfl))
    (ss_if (st_test (se_op p_notin (se_var 5) (se_var 2))) (ss_seq (ss_drop (se_app (se_var 5)))
    (ss_if (st_test (se_op p_eq (se_callS (sa_cons (se_var 0) (sa_cons (se_c (.int 3)) sa_nil))) (se_c (.int 2)))) (ss_seq (ss_asg (se_op p_add (se_var 5) (se_tup (sa_cons (se_op p_add (se_c (.int 1)) (se_callS (sa_cons (se_var 0) (sa_cons (se_c (.int 3)) sa_nil)))) sa_nil))) (sg_name rfl))
    (ss_seq (ss_drop (se_app (se_tup (sa_cons (se_var 5) (sa_cons (se_var 6) sa_nil)))))
    (ss_drop (se_app (se_var 6))))) ss_next)) ss_next)))
    (ss_seq (ss_asg (se_lc (si_seq (se_var 3)) (sg_name rfl) st_yes (se_op p_ix (se_var 8) (se_c (.int 0)))) (sg_name rfl))
    (ss_ret (se_lst (sa_cons (se_cb p_sorted (sa_cons (se_lc (si_seq (se_var 2)) (sg_name rfl) (st_test (se_op p_notin (se_var 9) (se_var 7))) (se_var 9)) sa_nil)) (sa_cons (se_var 3) (sa_cons (se_var 1) sa_nil)))))))))))
theorem fn_l_tasks (T : Txt P w K mg) {k : Nat} {k_l_draw : Nat} (G_l_draw : FnOk P w K mg base (L2N.CX P w) k_l_draw T.f_l_draw T.d_l_draw ["_law_pool_here", "_law_limit"] (spM ⟨K, cvT T, wtT⟩ m_l_draw)) (h_l_draw : k_l_draw ≤ k) : FnOk P w K mg base (L2N.CX P w) (k + 1) T.f_l_tasks T.d_l_tasks ["_law_pool_here"] (spM ⟨K, cvT T, wtT⟩ (mFun 1 9 [] (mb_l_tasks))) := by
  refine Fun.okN T.F_l_tasks sc_l_tasks (fun vs H Q E h => spM_len vs H Q E h) (fun cdv A outer s H vs Q E hr h0 => ⟨rd_l_tasks T (fun c o _ H => E c o H), ?_, body_mir (np := 1) (nl := 9) rfl (sim_l_tasks T _) h0⟩)
  exact (pss_cons (sset 1 sc_l_tasks.nd (pe_tup pa_nil))
      (pss_cons (sset 2 sc_l_tasks.nd (pe_lst (pa_cons (pe_tup pa_nil) pa_nil)))
      (pss_cons (sset 3 sc_l_tasks.nd (pe_lst pa_nil))
      (pss_cons (ps_for (passes_of rfl) rfl (pi_range1 (by rfl) T.b_range (pa_cons (pe_callS G_l_draw (hr.mono h_l_draw) rfl T.g_l_draw T.F_l_draw.kp T.b_l_draw (fun σ => L2N.passAt (L2N.takes_of rfl rfl rfl rfl) σ) (pa_cons (pv 0) (pa_cons pe_int pa_nil))) pa_nil)) (gn 4 sc_l_tasks.nd) (pss_cons (sset 5 sc_l_tasks.nd (pe_op op_addD (pv 1) (pe_tup (pa_cons (pe_op op_addD pe_int (pe_callS G_l_draw (hr.mono h_l_draw) rfl T.g_l_draw T.F_l_draw.kp T.b_l_draw (fun σ => L2N.passAt (L2N.takes_of rfl rfl rfl rfl) σ) (pa_cons (pv 0) (pa_cons pe_int pa_nil)))) pa_nil))))
      (pss_cons (ps_expr (pe_bm PySem.F.plainAttrs_list PySem.F.slot_list_append PySem.F.type_list_append mt_append (pv 3) (pa_cons (pe_tup (pa_cons (pv 1) (pa_cons (pv 5) pa_nil))) pa_nil)))
      (pss_cons (ps_expr (pe_bm PySem.F.plainAttrs_list PySem.F.slot_list_append PySem.F.type_list_append mt_append (pv 2) (pa_cons (pv 5) pa_nil)))
      (pss_one (sset 1 sc_l_tasks.nd (pv 5)))))))
      (pss_cons (ps_for (passes_of rfl) rfl (pi_range1 (by rfl) T.b_range (pa_cons (pe_callS G_l_draw (hr.mono h_l_draw) rfl T.g_l_draw T.F_l_draw.kp T.b_l_draw (fun σ => L2N.passAt (L2N.takes_of rfl rfl rfl rfl) σ) (pa_cons (pv 0) (pa_cons pe_int pa_nil))) pa_nil)) (gn 4 sc_l_tasks.nd) (pss_cons (sset 5 sc_l_tasks.nd (pe_op op_addD (pe_ix (ix_D hr.units) (pv 2) (pe_callS G_l_draw (hr.mono h_l_draw) rfl T.g_l_draw T.F_l_draw.kp T.b_l_draw (fun σ => L2N.passAt (L2N.takes_of rfl rfl rfl rfl) σ) (pa_cons (pv 0) (pa_cons (pe_callB call_lenX (by rfl) T.b_len bt_len (pa_cons (pv 2) pa_nil)) pa_nil))) (fun _ _ => rfl)) (pe_tup (pa_cons (pe_op op_addD pe_int (pe_callS G_l_draw (hr.mono h_l_draw) rfl T.g_l_draw T.F_l_draw.kp T.b_l_draw (fun σ => L2N.passAt (L2N.takes_of rfl rfl rfl rfl) σ) (pa_cons (pv 0) (pa_cons pe_int pa_nil)))) pa_nil))))
      (pss_one (ps_if (pt_cmpR (op_notInD hr.units) (pv 5) (pv 2) (by rfl)) (pss_cons (ps_expr (pe_bm PySem.F.plainAttrs_list PySem.F.slot_list_append PySem.F.type_list_append mt_append (pv 2) (pa_cons (pv 5) pa_nil)))
      (pss_one (ps_if (pt_cmpR (op_eqX hr.units) (pe_callS G_l_draw (hr.mono h_l_draw) rfl T.g_l_draw T.F_l_draw.kp T.b_l_draw (fun σ => L2N.passAt (L2N.takes_of rfl rfl rfl rfl) σ) (pa_cons (pv 0) (pa_cons pe_int pa_nil))) pe_int (nomark _)) (pss_cons (sset 6 sc_l_tasks.nd (pe_op op_addD (pv 5) (pe_tup (pa_cons (pe_op op_addD pe_int (pe_callS G_l_draw (hr.mono h_l_draw) rfl T.g_l_draw T.F_l_draw.kp T.b_l_draw (fun σ => L2N.passAt (L2N.takes_of rfl rfl rfl rfl) σ) (pa_cons (pv 0) (pa_cons pe_int pa_nil)))) pa_nil))))
      (pss_cons (ps_expr (pe_bm PySem.F.plainAttrs_list PySem.F.slot_list_append PySem.F.type_list_append mt_append (pv 3) (pa_cons (pe_tup (pa_cons (pv 5) (pa_cons (pv 6) pa_nil))) pa_nil)))
      (pss_one (ps_expr (pe_bm PySem.F.plainAttrs_list PySem.F.slot_list_append PySem.F.type_list_append mt_append (pv 2) (pa_cons (pv 6) pa_nil)))))) pss_nil))) pss_nil))))
      (pss_cons (sset 7 sc_l_tasks.nd (pe_lc (own := [("_law_pair", 8)]) (g := (gName 8)) (tt := tYes) rfl sc_l_tasks.nd (pi_seq (pv 3)) (blkOk_by (own := [("_law_pair", 8)]) (N := nm_l_tasks) (sc := defScope s_l_tasks) (by decide +kernel)) (fun _ _ _ _ _ => (gn 8 sc_l_tasks.nd)) (fun _ _ _ _ _ => pts_nil) (fun _ _ _ _ _ => (pe_ix (ix_D hr.units) (pv 8) pe_int (fun _ _ => rfl)))))
      (pss_one (ps_ret (pe_lst (pa_cons (pe_callB (cr_sortX hr.units) (by rfl) T.b_sorted bt_sorted (pa_cons (pe_lc (own := [("_law_task", 9)]) (g := (gName 9)) (tt := (tTest (tOp (rNotInD K) (tVar 9) (tVar 7)))) rfl sc_l_tasks.nd (pi_seq (pv 2)) (blkOk_by (own := [("_law_task", 9)]) (N := nm_l_tasks) (sc := defScope s_l_tasks) (by decide +kernel)) (fun _ _ _ _ _ => (gn 9 sc_l_tasks.nd)) (fun _ _ _ _ _ => (pts_one (pt_cmpR (op_notInD hr.units) (pv 9) (pv 7) (by rfl)))) (fun _ _ _ _ _ => (pv 9))) pa_nil)) (pa_cons (pv 3) (pa_cons (pv 1) pa_nil))))))))))))
theorem ok_l_tasks (T : Txt P w K mg) : FnOk P w K mg base (L2N.CX P w) 3 T.f_l_tasks T.d_l_tasks ["_law_pool_here"] (spM ⟨K, cvT T, wtT⟩ m_l_tasks) := fn_l_tasks (k := 2) T (ok_l_draw T) (by omega)
def rd_l_waits (T : Txt P w K mg) (W : WX) : TS :=
    (tSeq (tAsg tDNewT (gName 1))
    (tSeq (tFor (iSeq K (tVar 0)) (gName 2) (tAsg (tOp (rIxD K) (tVar 2) (tC (.int 1))) (gSub (tVar 1) (tOp (rIxD K) (tVar 2) (tC (.int 0))) rSetD)))
    (tRet (tVar 1))))
theorem sim_l_waits (T : Txt P w K mg) (W : WX) : SS (bC ⟨K, cvT T, wtT⟩ W 1 []) (rd_l_waits T W) (mb_l_waits) := by
  unfold rd_l_waits mb_l_waits lb_l_waits_1
  exact (ss_seq (ss_asg se_dnT (sg_name rfl))
    (ss_seq (ss_for (si_seq (se_var 0)) (sg_name rfl) (ss_asg (se_op p_ix (se_var 2) (se_c (.int 1))) (sg_ixT (fun _ h => h) (se_op p_ix (se_var 2) (se_c (.int 0))))))
    (ss_ret (se_var 1))))
theorem fn_l_waits (T : Txt P w K mg) {k : Nat} : FnOk P w K mg base (L2N.CX P w) (k + 1) T.f_l_waits T.d_l_waits ["_law_pairs"] (spM ⟨K, cvT T, wtT⟩ (mFun 1 2 [] (mb_l_waits))) := by
  refine Fun.okN T.F_l_waits sc_l_waits (fun vs H Q E h => spM_len vs H Q E h) (fun cdv A outer s H vs Q E hr h0 => ⟨rd_l_waits T (fun c o _ H => E c o H), ?_, body_mir (np := 1) (nl := 2) rfl (sim_l_waits T _) h0⟩)
  exact (pss_cons (sset 1 sc_l_waits.nd pe_dnewT)
      (pss_cons (ps_for (passes_of rfl) rfl (pi_seq (pv 0)) (gn 2 sc_l_waits.nd) (pss_one (ps_asg (pe_ix (ix_D hr.units) (pv 2) pe_int (fun _ _ => rfl)) (pg_sub (pv 1) (pe_ix (ix_D hr.units) (pv 2) pe_int (fun _ _ => rfl)) (set_D hr.units)))))
      (pss_one (ps_ret (pv 1)))))
theorem ok_l_waits (T : Txt P w K mg) : FnOk P w K mg base (L2N.CX P w) 1 T.f_l_waits T.d_l_waits ["_law_pairs"] (spM ⟨K, cvT T, wtT⟩ m_l_waits) := fn_l_waits (k := 0) T 
def rd_l_chosen (T : Txt P w K mg) (W : WX) : TS :=
    (tSeq (tAsg (tC (.int 0)) (gName 3))
    (tSeq (tIfS (tTest (tOp rLtD (tVar 2) (tCB (rLenD K) (tCons (tVar 1) tNil)))) (tAsg (tOp (rIxD K) (tVar 1) (tVar 2)) (gName 3)) tNext)
    (tRet (tOp (rIxD K) (tVar 0) (tOp rModD (tCB (rIntD) (tCons (tVar 3) tNil)) (tCB (rLenD K) (tCons (tVar 0) tNil)))))))
theorem sim_l_chosen (T : Txt P w K mg) (W : WX) : SS (bC ⟨K, cvT T, wtT⟩ W 3 []) (rd_l_chosen T W) (mb_l_chosen) := by
  unfold rd_l_chosen mb_l_chosen
  exact (ss_seq (ss_asg (se_c (.int 0)) (sg_name rfl))
    (ss_seq (ss_if (st_test (se_op p_lt (se_var 2) (se_cb p_len (sa_cons (se_var 1) sa_nil)))) (ss_asg (se_op p_ix (se_var 1) (se_var 2)) (sg_name rfl)) ss_next)
    (ss_ret (se_op p_ix (se_var 0) (se_op p_mod (se_cb p_int (sa_cons (se_var 3) sa_nil)) (se_cb p_len (sa_cons (se_var 0) sa_nil)))))))
theorem fn_l_chosen (T : Txt P w K mg) {k : Nat} : FnOk P w K mg base (L2N.CX P w) (k + 1) T.f_l_chosen T.d_l_chosen ["_law_ready", "_law_woven", "_law_count"] (spM ⟨K, cvT T, wtT⟩ (mFun 3 1 [] (mb_l_chosen))) := by
  refine Fun.okN T.F_l_chosen sc_l_chosen (fun vs H Q E h => spM_len vs H Q E h) (fun cdv A outer s H vs Q E hr h0 => ⟨rd_l_chosen T (fun c o _ H => E c o H), ?_, body_mir (np := 3) (nl := 1) rfl (sim_l_chosen T _) h0⟩)
  exact (pss_cons (sset 3 sc_l_chosen.nd pe_int)
      (pss_cons (ps_if (pt_cmpR op_ltD (pv 2) (pe_callB call_lenX (by rfl) T.b_len bt_len (pa_cons (pv 1) pa_nil)) (nomark _)) (pss_one (sset 3 sc_l_chosen.nd (pe_ix (ix_D hr.units) (pv 1) (pv 2) (fun _ _ => rfl)))) pss_nil)
      (pss_one (ps_ret (pe_ix (ix_D hr.units) (pv 0) (pe_op op_modD (pe_callTy call_intD (by rfl) T.b_int bt_int (pa_cons (pv 3) pa_nil)) (pe_callB call_lenX (by rfl) T.b_len bt_len (pa_cons (pv 0) pa_nil))) (fun _ _ => rfl))))))
theorem ok_l_chosen (T : Txt P w K mg) : FnOk P w K mg base (L2N.CX P w) 1 T.f_l_chosen T.d_l_chosen ["_law_ready", "_law_woven", "_law_count"] (spM ⟨K, cvT T, wtT⟩ m_l_chosen) := fn_l_chosen (k := 0) T 
def rd_l_is_int (T : Txt P w K mg) (W : WX) : TS :=
    (tRet (tAndV (tCB (rIsi K) (tCons (tVar 0) (tCons (tC (.ty "int")) tNil))) (tNotV (tCB (rIsi K) (tCons (tVar 0) (tCons (tC (.ty "bool")) tNil))))))
theorem sim_l_is_int (T : Txt P w K mg) (W : WX) : SS (bC ⟨K, cvT T, wtT⟩ W 1 []) (rd_l_is_int T W) (mb_l_is_int) := by
  unfold rd_l_is_int mb_l_is_int
  exact (ss_ret (se_andV (se_cb p_isi (sa_cons (se_var 0) (sa_cons (se_c (.ty "int")) sa_nil))) (se_notV (se_cb p_isi (sa_cons (se_var 0) (sa_cons (se_c (.ty "bool")) sa_nil))))))
theorem fn_l_is_int (T : Txt P w K mg) {k : Nat} : FnOk P w K mg base (L2N.CX P w) (k + 1) T.f_l_is_int T.d_l_is_int ["_law_thing"] (spM ⟨K, cvT T, wtT⟩ (mFun 1 0 [] (mb_l_is_int))) := by
  refine Fun.okN T.F_l_is_int sc_l_is_int (fun vs H Q E h => spM_len vs H Q E h) (fun cdv A outer s H vs Q E hr h0 => ⟨rd_l_is_int T (fun c o _ H => E c o H), ?_, body_mir (np := 1) (nl := 0) rfl (sim_l_is_int T _) h0⟩)
  exact (pss_one (ps_ret (pe_and (pe_callB call_isiD (by rfl) T.b_isinstance bt_isinstance (pa_cons (pv 0) (pa_cons (pe_bltn (by rfl) T.b_int bt_int rfl) pa_nil))) (pe_one (pe_not (pe_callB call_isiD (by rfl) T.b_isinstance bt_isinstance (pa_cons (pv 0) (pa_cons (pe_bltn (by rfl) T.b_bool bt_bool rfl) pa_nil))))))))
theorem ok_l_is_int (T : Txt P w K mg) : FnOk P w K mg base (L2N.CX P w) 1 T.f_l_is_int T.d_l_is_int ["_law_thing"] (spM ⟨K, cvT T, wtT⟩ m_l_is_int) := fn_l_is_int (k := 0) T 
def rd_l_same (T : Txt P w K mg) (W : WX) (mrec : MF) : TS :=
    (tSeq (tIfS (tTest (tOp rIsD (tVar 1) (tC .non))) (tRet (tOp rIsD (tVar 0) (tC .non))) tNext)
    (tSeq (tIfS (tTru K (tCB (rIsi K) (tCons (tVar 1) (tCons (tC (.ty "bool")) tNil)))) (tRet (tAndV (tCB (rIsi K) (tCons (tVar 0) (tCons (tC (.ty "bool")) tNil))) (tOp (rEqX K) (tVar 0) (tVar 1)))) tNext)
    (tSeq (tIfS (tTru K (tCB (rIsi K) (tCons (tVar 1) (tCons (tC (.ty "int")) tNil)))) (tRet (tAndV (tCallS (spM ⟨K, cvT T, wtT⟩ m_l_is_int) (WE W) (tCons (tVar 0) tNil)) (tOp (rEqX K) (tVar 0) (tVar 1)))) tNext)
    (tSeq (tIfS (tTru K (tCB (rIsi K) (tCons (tVar 1) (tCons (tC (.ty "str")) tNil)))) (tRet (tAndV (tCB (rIsi K) (tCons (tVar 0) (tCons (tC (.ty "str")) tNil))) (tOp (rEqX K) (tVar 0) (tVar 1)))) tNext)
    (tSeq (tIfS (tAnd (tTru K (tCB (rIsi K) (tCons (tVar 1) (tCons (tC (.ty "list")) tNil)))) (tNot (tTru K (tCB (rIsi K) (tCons (tVar 0) (tCons (tC (.ty "list")) tNil)))))) (tRet (tC (.bl false))) tNext)
    (tSeq (tIfS (tAnd (tTru K (tCB (rIsi K) (tCons (tVar 1) (tCons (tC (.ty "tuple")) tNil)))) (tNot (tTru K (tCB (rIsi K) (tCons (tVar 0) (tCons (tC (.ty "tuple")) tNil)))))) (tRet (tC (.bl false))) tNext)
    (tSeq (tIfS (tTest (tOp (rNeX K) (tCB (rLenD K) (tCons (tVar 0) tNil)) (tCB (rLenD K) (tCons (tVar 1) tNil)))) (tRet (tC (.bl false))) tNext)
    (tSeq (tFor (iRng1 (tCons (tCB (rLenD K) (tCons (tVar 1) tNil)) tNil)) (gName 2) (tIfS (tNot (tTru K (tCallS (spM ⟨K, cvT T, wtT⟩ mrec) (WE W) (tCons (tOp (rIxD K) (tVar 0) (tVar 2)) (tCons (tOp (rIxD K) (tVar 1) (tVar 2)) tNil))))) (tRet (tC (.bl false))) tNext))
    (tRet (tC (.bl true)))))))))))
theorem sim_l_same (T : Txt P w K mg) (W : WX) (mrec : MF) : SS (bC ⟨K, cvT T, wtT⟩ W 2 []) (rd_l_same T W mrec) (mb_l_same mrec) := by
  unfold rd_l_same mb_l_same lb_l_same_1
  exact (ss_seq (ss_if (st_test (se_op p_is (se_var 1) (se_c .non))) (ss_ret (se_op p_is (se_var 0) (se_c .non))) ss_next)
    (ss_seq (ss_if (st_tru (se_cb p_isi (sa_cons (se_var 1) (sa_cons (se_c (.ty "bool")) sa_nil)))) (ss_ret (se_andV (se_cb p_isi (sa_cons (se_var 0) (sa_cons (se_c (.ty "bool")) sa_nil))) (se_op p_eq (se_var 0) (se_var 1)))) ss_next)
    (ss_seq (ss_if (st_tru (se_cb p_isi (sa_cons (se_var 1) (sa_cons (se_c (.ty "int")) sa_nil)))) (ss_ret (se_andV (se_callS (sa_cons (se_var 0) sa_nil)) (se_op p_eq (se_var 0) (se_var 1)))) ss_next)
    (ss_seq (ss_if (st_tru (se_cb p_isi (sa_cons (se_var 1) (sa_cons (se_c (.ty "str")) sa_nil)))) (ss_ret (se_andV (se_cb p_isi (sa_cons (se_var 0) (sa_cons (se_c (.ty "str")) sa_nil))) (se_op p_eq (se_var 0) (se_var 1)))) ss_next)
    (ss_seq (ss_if (st_and (st_tru (se_cb p_isi (sa_cons (se_var 1) (sa_cons (se_c (.ty "list")) sa_nil)))) (st_not (st_tru (se_cb p_isi (sa_cons (se_var 0) (sa_cons (se_c (.ty "list")) sa_nil)))))) (ss_ret (se_c (.bl false))) ss_next)
    (ss_seq (ss_if (st_and (st_tru (se_cb p_isi (sa_cons (se_var 1) (sa_cons (se_c (.ty "tuple")) sa_nil)))) (st_not (st_tru (se_cb p_isi (sa_cons (se_var 0) (sa_cons (se_c (.ty "tuple")) sa_nil)))))) (ss_ret (se_c (.bl false))) ss_next)
    (ss_seq (ss_if (st_test (se_op p_ne (se_cb p_len (sa_cons (se_var 0) sa_nil)) (se_cb p_len (sa_cons (se_var 1) sa_nil)))) (ss_ret (se_c (.bl false))) ss_next)
    (ss_seq (ss_for (si_rng1 (sa_cons (se_cb p_len (sa_cons (se_var 1) sa_nil)) sa_nil)) (sg_name rfl) (ss_if (st_not (st_tru (se_callS (sa_cons (se_op p_ix (se_var 0) (se_var 2)) (sa_cons (se_op p_ix (se_var 1) (se_var 2)) sa_nil))))) (ss_ret (se_c (.bl false))) ss_next))
    (ss_ret (se_c (.bl true)))))))))))
theorem fn_l_same (T : Txt P w K mg) {mrec : MF} {k : Nat} {k_l_is_int : Nat} (G_l_is_int : FnOk P w K mg base (L2N.CX P w) k_l_is_int T.f_l_is_int T.d_l_is_int ["_law_thing"] (spM ⟨K, cvT T, wtT⟩ m_l_is_int)) (h_l_is_int : k_l_is_int ≤ k) {k_l_same : Nat} (G_l_same : FnOk P w K mg base (L2N.CX P w) k_l_same T.f_l_same T.d_l_same ["_law_mine", "_law_due"] (spM ⟨K, cvT T, wtT⟩ mrec)) (h_l_same : k_l_same ≤ k) : FnOk P w K mg base (L2N.CX P w) (k + 1) T.f_l_same T.d_l_same ["_law_mine", "_law_due"] (spM ⟨K, cvT T, wtT⟩ (mFun 2 1 [] (mb_l_same mrec))) := by
  refine Fun.okN T.F_l_same sc_l_same (fun vs H Q E h => spM_len vs H Q E h) (fun cdv A outer s H vs Q E hr h0 => ⟨rd_l_same T (fun c o _ H => E c o H) mrec, ?_, body_mir (np := 2) (nl := 1) rfl (sim_l_same T _ mrec) h0⟩)
  exact (pss_cons (ps_if (pt_cmpR op_isD (pv 1) pe_non (nomark _)) (pss_one (ps_ret (pe_cmpR op_isD (pv 0) pe_non (nomark _)))) pss_nil)
      (pss_cons (ps_if (pt_truthD (pe_callB call_isiD (by rfl) T.b_isinstance bt_isinstance (pa_cons (pv 1) (pa_cons (pe_bltn (by rfl) T.b_bool bt_bool rfl) pa_nil))) (by intro _; rfl)) (pss_one (ps_ret (pe_and (pe_callB call_isiD (by rfl) T.b_isinstance bt_isinstance (pa_cons (pv 0) (pa_cons (pe_bltn (by rfl) T.b_bool bt_bool rfl) pa_nil))) (pe_one (pe_cmpR (op_eqX hr.units) (pv 0) (pv 1) (nomark _)))))) pss_nil)
      (pss_cons (ps_if (pt_truthD (pe_callB call_isiD (by rfl) T.b_isinstance bt_isinstance (pa_cons (pv 1) (pa_cons (pe_bltn (by rfl) T.b_int bt_int rfl) pa_nil))) (by intro _; rfl)) (pss_one (ps_ret (pe_and (pe_callS G_l_is_int (hr.mono h_l_is_int) rfl T.g_l_is_int T.F_l_is_int.kp T.b_l_is_int (fun σ => L2N.passAt (L2N.takes_of rfl rfl rfl rfl) σ) (pa_cons (pv 0) pa_nil)) (pe_one (pe_cmpR (op_eqX hr.units) (pv 0) (pv 1) (nomark _)))))) pss_nil)
      (pss_cons (ps_if (pt_truthD (pe_callB call_isiD (by rfl) T.b_isinstance bt_isinstance (pa_cons (pv 1) (pa_cons (pe_bltn (by rfl) T.b_str bt_str rfl) pa_nil))) (by intro _; rfl)) (pss_one (ps_ret (pe_and (pe_callB call_isiD (by rfl) T.b_isinstance bt_isinstance (pa_cons (pv 0) (pa_cons (pe_bltn (by rfl) T.b_str bt_str rfl) pa_nil))) (pe_one (pe_cmpR (op_eqX hr.units) (pv 0) (pv 1) (nomark _)))))) pss_nil)
      (pss_cons (ps_if (PW.pt (pw_and (pt_truthD (pe_callB call_isiD (by rfl) T.b_isinstance bt_isinstance (pa_cons (pv 1) (pa_cons (pe_bltn (by rfl) T.b_list bt_list rfl) pa_nil))) (by intro _; rfl)) (pw_and1 (pt_not (pt_truthD (pe_callB call_isiD (by rfl) T.b_isinstance bt_isinstance (pa_cons (pv 0) (pa_cons (pe_bltn (by rfl) T.b_list bt_list rfl) pa_nil))) (by intro _; rfl)))))) (pss_one (ps_ret pe_bl)) pss_nil)
      (pss_cons (ps_if (PW.pt (pw_and (pt_truthD (pe_callB call_isiD (by rfl) T.b_isinstance bt_isinstance (pa_cons (pv 1) (pa_cons (pe_bltn (by rfl) T.b_tuple bt_tuple rfl) pa_nil))) (by intro _; rfl)) (pw_and1 (pt_not (pt_truthD (pe_callB call_isiD (by rfl) T.b_isinstance bt_isinstance (pa_cons (pv 0) (pa_cons (pe_bltn (by rfl) T.b_tuple bt_tuple rfl) pa_nil))) (by intro _; rfl)))))) (pss_one (ps_ret pe_bl)) pss_nil)
      (pss_cons (ps_if (pt_cmpR (op_neX hr.units) (pe_callB call_lenX (by rfl) T.b_len bt_len (pa_cons (pv 0) pa_nil)) (pe_callB call_lenX (by rfl) T.b_len bt_len (pa_cons (pv 1) pa_nil)) (nomark _)) (pss_one (ps_ret pe_bl)) pss_nil)
      (pss_cons (ps_for (passes_of rfl) rfl (pi_range1 (by rfl) T.b_range (pa_cons (pe_callB call_lenX (by rfl) T.b_len bt_len (pa_cons (pv 1) pa_nil)) pa_nil)) (gn 2 sc_l_same.nd) (pss_one (ps_if (pt_not (pt_truthD (pe_callS G_l_same (hr.mono h_l_same) rfl T.g_l_same T.F_l_same.kp T.b_l_same (fun σ => L2N.passAt (L2N.takes_of rfl rfl rfl rfl) σ) (pa_cons (pe_ix (ix_D hr.units) (pv 0) (pv 2) (fun _ _ => rfl)) (pa_cons (pe_ix (ix_D hr.units) (pv 1) (pv 2) (fun _ _ => rfl)) pa_nil))) (by intro _; rfl))) (pss_one (ps_ret pe_bl)) pss_nil)))
      (pss_one (ps_ret pe_bl))))))))))
theorem ok_l_same (T : Txt P w K mg) : ∀ n, FnOk P w K mg base (L2N.CX P w) (n + 2) T.f_l_same T.d_l_same ["_law_mine", "_law_due"] (spM ⟨K, cvT T, wtT⟩ (m_l_same n))
  | 0 => fn_stuck (K := ⟨K, cvT T, wtT⟩)
  | n + 1 => fn_l_same (k := n + 2) T (ok_l_is_int T) (by omega) (ok_l_same T n) (by omega)
theorem okn_l_same (T : Txt P w K mg) : FnOk P w K mg base (L2N.CX P w) 10 T.f_l_same T.d_l_same ["_law_mine", "_law_due"] (spM ⟨K, cvT T, wtT⟩ (m_l_same 8)) := ok_l_same T 8
def rd_WaitTasks_pick (T : Txt P w K mg) (W : WX) : TS :=
    (tSeq (tAsg (tTup tNil) (gName 4))
    (tSeq (tWhile (tTest (tOp (rInD K) (tVar 4) (tVar 3))) (tAsg (tOp (rIxD K) (tVar 3) (tVar 4)) (gName 4)))
    (tRet (tVar 4))))
theorem sim_WaitTasks_pick (T : Txt P w K mg) (W : WX) : SS (bC ⟨K, cvT T, wtT⟩ W 4 []) (rd_WaitTasks_pick T W) (mb_WaitTasks_pick) := by
  unfold rd_WaitTasks_pick mb_WaitTasks_pick lb_WaitTasks_pick_1 lc_WaitTasks_pick_1
  exact (ss_seq (ss_asg (se_tup sa_nil) (sg_name rfl))
    (ss_seq (ss_while wFuel (st_test (se_op p_in (se_var 4) (se_var 3))) (ss_asg (se_op p_ix (se_var 3) (se_var 4)) (sg_name rfl)))
    (ss_ret (se_var 4))))
theorem fn_WaitTasks_pick (T : Txt P w K mg) {k : Nat} : FnOk P w K mg base (L2N.CX P w) (k + 1) T.f_WaitTasks_pick T.d_WaitTasks_pick ["self", "count", "ready", "waits"] (spM ⟨K, cvT T, wtT⟩ (mFun 4 1 [] (mb_WaitTasks_pick))) := by
  refine Fun.okN T.F_WaitTasks_pick sc_WaitTasks_pick (fun vs H Q E h => spM_len vs H Q E h) (fun cdv A outer s H vs Q E hr h0 => ⟨rd_WaitTasks_pick T (fun c o _ H => E c o H), ?_, body_mir (np := 4) (nl := 1) rfl (sim_WaitTasks_pick T _) h0⟩)
  exact (pss_cons (sset 4 sc_WaitTasks_pick.nd (pe_tup pa_nil))
      (pss_cons (ps_while (passes_of rfl) (pt_cmpR (op_inD hr.units) (pv 4) (pv 3) (by rfl)) (pss_one (sset 4 sc_WaitTasks_pick.nd (pe_ix (ix_D hr.units) (pv 3) (pv 4) (fun _ _ => rfl)))))
      (pss_one (ps_ret (pv 4)))))
theorem ok_WaitTasks_pick (T : Txt P w K mg) : FnOk P w K mg base (L2N.CX P w) 1 T.f_WaitTasks_pick T.d_WaitTasks_pick ["self", "count", "ready", "waits"] (spM ⟨K, cvT T, wtT⟩ m_WaitTasks_pick) := fn_WaitTasks_pick (k := 0) T 
def rd_WovenTasks_pick (T : Txt P w K mg) (W : WX) : TS :=
    (tSeq (tAsg (tC (.int 0)) (gName 4))
    (tSeq (tIfS (tTest (tOp rLtD (tVar 1) (tCB (rLenD K) (tCons (tFld K (tVar 0) "weaving") tNil)))) (tAsg (tOp (rIxD K) (tFld K (tVar 0) "weaving") (tVar 1)) (gName 4)) tNext)
    (tRet (tOp (rIxD K) (tVar 2) (tOp rModD (tVar 4) (tCB (rLenD K) (tCons (tVar 2) tNil)))))))
theorem sim_WovenTasks_pick (T : Txt P w K mg) (W : WX) : SS (bC ⟨K, cvT T, wtT⟩ W 4 []) (rd_WovenTasks_pick T W) (mb_WovenTasks_pick) := by
  unfold rd_WovenTasks_pick mb_WovenTasks_pick
  exact (ss_seq (ss_asg (se_c (.int 0)) (sg_name rfl))
    (ss_seq (ss_if (st_test (se_op p_lt (se_var 1) (se_cb p_len (sa_cons (se_fld (by decide +kernel) (fo_weaving T) (se_var 0)) sa_nil)))) (ss_asg (se_op p_ix (se_fld (by decide +kernel) (fo_weaving T) (se_var 0)) (se_var 1)) (sg_name rfl)) ss_next)
    (ss_ret (se_op p_ix (se_var 2) (se_op p_mod (se_var 4) (se_cb p_len (sa_cons (se_var 2) sa_nil)))))))
theorem fn_WovenTasks_pick (T : Txt P w K mg) {k : Nat} : FnOk P w K mg base (L2N.CX P w) (k + 1) T.f_WovenTasks_pick T.d_WovenTasks_pick ["self", "count", "ready", "waits"] (spM ⟨K, cvT T, wtT⟩ (mFun 4 1 [] (mb_WovenTasks_pick))) := by
  refine Fun.okN T.F_WovenTasks_pick sc_WovenTasks_pick (fun vs H Q E h => spM_len vs H Q E h) (fun cdv A outer s H vs Q E hr h0 => ⟨rd_WovenTasks_pick T (fun c o _ H => E c o H), ?_, body_mir (np := 4) (nl := 1) rfl (sim_WovenTasks_pick T _) h0⟩)
  exact (pss_cons (sset 4 sc_WovenTasks_pick.nd pe_int)
      (pss_cons (ps_if (pt_cmpR op_ltD (pv 1) (pe_callB call_lenX (by rfl) T.b_len bt_len (pa_cons (pe_fld (pv 0) rfl) pa_nil)) (nomark _)) (pss_one (sset 4 sc_WovenTasks_pick.nd (pe_ix (ix_D hr.units) (pe_fld (pv 0) rfl) (pv 1) (fun _ _ => rfl)))) pss_nil)
      (pss_one (ps_ret (pe_ix (ix_D hr.units) (pv 2) (pe_op op_modD (pv 4) (pe_callB call_lenX (by rfl) T.b_len bt_len (pa_cons (pv 2) pa_nil))) (fun _ _ => rfl))))))
theorem ok_WovenTasks_pick (T : Txt P w K mg) : FnOk P w K mg base (L2N.CX P w) 1 T.f_WovenTasks_pick T.d_WovenTasks_pick ["self", "count", "ready", "waits"] (spM ⟨K, cvT T, wtT⟩ m_WovenTasks_pick) := fn_WovenTasks_pick (k := 0) T 
def rd_l_picked (T : Txt P w K mg) (W : WX) : TS :=
    (tSeq (tAsg (tVar 2) (gUnp K 3 (gCons (gName 4) (gCons (gName 5) (gCons (gName 6) gNil)))))
    (tSeq (tAsg (tCB (rListD K) (tCons (tVar 4) tNil)) (gName 7))
    (tSeq (tAsg (tCallS (spM ⟨K, cvT T, wtT⟩ m_l_waits) (WE W) (tCons (tVar 5) tNil)) (gName 8))
    (tSeq (tAsg (tLst (tCons (tCallS (spM ⟨K, cvT T, wtT⟩ m_l_chosen) (WE W) (tCons (tVar 4) (tCons (tOp (rIxD K) (tVar 1) (tC (.int 0))) (tCons (tVar 3) tNil)))) (tCons (tCallS (spM ⟨K, cvT T, wtT⟩ m_l_chosen) (WE W) (tCons (tVar 4) (tCons (tOp (rIxD K) (tVar 1) (tC (.int 1))) (tCons (tVar 3) tNil)))) (tCons (tVar 6) tNil)))) (gName 9))
    (tSeq (tFor (iSeq K (tLst (tCons (tC (.int 0)) (tCons (tC (.int 2)) (tCons (tC (.int 1)) (tCons (tC (.int 0)) (tCons (tC (.int 2)) tNil))))))) (gName 10) (tIfS (tNot (tTru K (tCallS (spM ⟨K, cvT T, wtT⟩ (m_l_same 8)) (WE W) (tCons (tMethT [(T.C_WovenTasks, spM ⟨K, cvT T, wtT⟩ m_WovenTasks_pick), (T.C_WaitTasks, spM ⟨K, cvT T, wtT⟩ m_WaitTasks_pick)] "pick" (WE W) (tOp (rIxD K) (tVar 0) (tVar 10)) (tCons (tVar 3) (tCons (tVar 7) (tCons (tVar 8) tNil)))) (tCons (tOp (rIxD K) (tVar 9) (tVar 10)) tNil))))) (tRet (tC (.bl false))) tNext))
    (tSeq (tIfS (tOr (tTest (tOp (rNeX K) (tVar 7) (tVar 4))) (tTest (tOp (rNeX K) (tCB (rLenD K) (tCons (tVar 8) tNil)) (tCB (rLenD K) (tCons (tVar 5) tNil))))) (tRet (tC (.bl false))) tNext)
    (tRet (tCB (rAll K) (tCons (tLc (iSeq K (tVar 5)) (gName 11) tYes (tOp (rEqX K) (tGet1 K (tVar 8) (tOp (rIxD K) (tVar 11) (tC (.int 0)))) (tOp (rIxD K) (tVar 11) (tC (.int 1)))) [11]) tNil)))))))))
theorem sim_l_picked (T : Txt P w K mg) (W : WX) : SS (bC ⟨K, cvT T, wtT⟩ W 4 []) (rd_l_picked T W) (mb_l_picked) := by
  unfold rd_l_picked mb_l_picked le_l_picked_1 lb_l_picked_1
  exact (ss_seq (ss_asg (se_var 2) (sg_unp (sgs_name rfl (sgs_name rfl (sgs_name rfl sgs_nil)))))
    (ss_seq (ss_asg (se_cb p_list (sa_cons (se_var 4) sa_nil)) (sg_name rfl))
    (ss_seq (ss_asg (se_callS (sa_cons (se_var 5) sa_nil)) (sg_name rfl))
    (ss_seq (ss_asg (se_lst (sa_cons (se_callS (sa_cons (se_var 4) (sa_cons (se_op p_ix (se_var 1) (se_c (.int 0))) (sa_cons (se_var 3) sa_nil)))) (sa_cons (se_callS (sa_cons (se_var 4) (sa_cons (se_op p_ix (se_var 1) (se_c (.int 1))) (sa_cons (se_var 3) sa_nil)))) (sa_cons (se_var 6) sa_nil)))) (sg_name rfl))
    (ss_seq (ss_for (si_seq (se_lst (sa_cons (se_c (.int 0)) (sa_cons (se_c (.int 2)) (sa_cons (se_c (.int 1)) (sa_cons (se_c (.int 0)) (sa_cons (se_c (.int 2)) sa_nil))))))) (sg_name rfl) (ss_if (st_not (st_tru (se_callS (sa_cons (se_methT (by decide +kernel) (tabok_pick T) (se_op p_ix (se_var 0) (se_var 10)) (sa_cons (se_var 3) (sa_cons (se_var 7) (sa_cons (se_var 8) sa_nil)))) (sa_cons (se_op p_ix (se_var 9) (se_var 10)) sa_nil))))) (ss_ret (se_c (.bl false))) ss_next))
    (ss_seq (ss_if (st_or (st_test (se_op p_ne (se_var 7) (se_var 4))) (st_test (se_op p_ne (se_cb p_len (sa_cons (se_var 8) sa_nil)) (se_cb p_len (sa_cons (se_var 5) sa_nil))))) (ss_ret (se_c (.bl false))) ss_next)
    (ss_ret (se_cb p_all (sa_cons (se_lc (si_seq (se_var 5)) (sg_name rfl) st_yes (se_op p_eq (se_get1 (se_var 8) (se_op p_ix (se_var 11) (se_c (.int 0)))) (se_op p_ix (se_var 11) (se_c (.int 1))))) sa_nil)))))))))
theorem fn_l_picked (T : Txt P w K mg) {k : Nat} {k_l_waits : Nat} (G_l_waits : FnOk P w K mg base (L2N.CX P w) k_l_waits T.f_l_waits T.d_l_waits ["_law_pairs"] (spM ⟨K, cvT T, wtT⟩ m_l_waits)) (h_l_waits : k_l_waits ≤ k) {k_l_chosen : Nat} (G_l_chosen : FnOk P w K mg base (L2N.CX P w) k_l_chosen T.f_l_chosen T.d_l_chosen ["_law_ready", "_law_woven", "_law_count"] (spM ⟨K, cvT T, wtT⟩ m_l_chosen)) (h_l_chosen : k_l_chosen ≤ k) {k_l_same : Nat} (G_l_same : FnOk P w K mg base (L2N.CX P w) k_l_same T.f_l_same T.d_l_same ["_law_mine", "_law_due"] (spM ⟨K, cvT T, wtT⟩ (m_l_same 8))) (h_l_same : k_l_same ≤ k) {k_WaitTasks_pick : Nat} (G_WaitTasks_pick : FnOk P w K mg base (L2N.CX P w) k_WaitTasks_pick T.f_WaitTasks_pick T.d_WaitTasks_pick ["self", "count", "ready", "waits"] (spM ⟨K, cvT T, wtT⟩ m_WaitTasks_pick)) (h_WaitTasks_pick : k_WaitTasks_pick ≤ k) {k_WovenTasks_pick : Nat} (G_WovenTasks_pick : FnOk P w K mg base (L2N.CX P w) k_WovenTasks_pick T.f_WovenTasks_pick T.d_WovenTasks_pick ["self", "count", "ready", "waits"] (spM ⟨K, cvT T, wtT⟩ m_WovenTasks_pick)) (h_WovenTasks_pick : k_WovenTasks_pick ≤ k) : FnOk P w K mg base (L2N.CX P w) (k + 1) T.f_l_picked T.d_l_picked ["_law_tasks_here", "_law_woven", "_law_world", "_law_count"] (spM ⟨K, cvT T, wtT⟩ (mFun 4 8 [] (mb_l_picked))) := by
  refine Fun.okN T.F_l_picked sc_l_picked (fun vs H Q E h => spM_len vs H Q E h) (fun cdv A outer s H vs Q E hr h0 => ⟨rd_l_picked T (fun c o _ H => E c o H), ?_, body_mir (np := 4) (nl := 8) rfl (sim_l_picked T _) h0⟩)
  exact (pss_cons (ps_asg (pv 2) (pg_unp rfl (pgs_cons (gn 4 sc_l_picked.nd) (pgs_cons (gn 5 sc_l_picked.nd) (pgs_cons (gn 6 sc_l_picked.nd) pgs_nil)))))
      (pss_cons (sset 7 sc_l_picked.nd (pe_callTy call_listD (by rfl) T.b_list bt_list (pa_cons (pv 4) pa_nil)))
      (pss_cons (sset 8 sc_l_picked.nd (pe_callS G_l_waits (hr.mono h_l_waits) rfl T.g_l_waits T.F_l_waits.kp T.b_l_waits (fun σ => L2N.passAt (L2N.takes_of rfl rfl rfl rfl) σ) (pa_cons (pv 5) pa_nil)))
      (pss_cons (sset 9 sc_l_picked.nd (pe_lst (pa_cons (pe_callS G_l_chosen (hr.mono h_l_chosen) rfl T.g_l_chosen T.F_l_chosen.kp T.b_l_chosen (fun σ => L2N.passAt (L2N.takes_of rfl rfl rfl rfl) σ) (pa_cons (pv 4) (pa_cons (pe_ix (ix_D hr.units) (pv 1) pe_int (fun _ _ => rfl)) (pa_cons (pv 3) pa_nil)))) (pa_cons (pe_callS G_l_chosen (hr.mono h_l_chosen) rfl T.g_l_chosen T.F_l_chosen.kp T.b_l_chosen (fun σ => L2N.passAt (L2N.takes_of rfl rfl rfl rfl) σ) (pa_cons (pv 4) (pa_cons (pe_ix (ix_D hr.units) (pv 1) pe_int (fun _ _ => rfl)) (pa_cons (pv 3) pa_nil)))) (pa_cons (pv 6) pa_nil)))))
      (pss_cons (ps_for (passes_of rfl) rfl (pi_seq (pe_lst (pa_cons pe_int (pa_cons pe_int (pa_cons pe_int (pa_cons pe_int (pa_cons pe_int pa_nil))))))) (gn 10 sc_l_picked.nd) (pss_one (ps_if (pt_not (pt_truthD (pe_callS G_l_same (hr.mono h_l_same) rfl T.g_l_same T.F_l_same.kp T.b_l_same (fun σ => L2N.passAt (L2N.takes_of rfl rfl rfl rfl) σ) (pa_cons (pe_methT (methL_cons ⟨_, _, _, _, T.cl_WovenTasks, T.mt_WovenTasks_pick, G_WovenTasks_pick, hr.mono h_WovenTasks_pick, T.b_WovenTasks_pick⟩ (methL_cons ⟨_, _, _, _, T.cl_WaitTasks, T.mt_WaitTasks_pick, G_WaitTasks_pick, hr.mono h_WaitTasks_pick, T.b_WaitTasks_pick⟩ methL_nil)) (pe_ix (ix_D hr.units) (pv 0) (pv 10) (fun _ _ => rfl)) (fun σ => L2N.passAt (L2N.takes_of rfl rfl rfl rfl) σ) (pa_cons (pv 3) (pa_cons (pv 7) (pa_cons (pv 8) pa_nil)))) (pa_cons (pe_ix (ix_D hr.units) (pv 9) (pv 10) (fun _ _ => rfl)) pa_nil))) (by intro _; rfl))) (pss_one (ps_ret pe_bl)) pss_nil)))
      (pss_cons (ps_if (PW.pt (pw_or (pt_cmpR (op_neX hr.units) (pv 7) (pv 4) (nomark _)) (pw_or1 (pt_cmpR (op_neX hr.units) (pe_callB call_lenX (by rfl) T.b_len bt_len (pa_cons (pv 8) pa_nil)) (pe_callB call_lenX (by rfl) T.b_len bt_len (pa_cons (pv 5) pa_nil)) (nomark _))))) (pss_one (ps_ret pe_bl)) pss_nil)
      (pss_one (ps_ret (pe_callB (cr_all rfl) (by rfl) T.b_all bt_all (pa_cons (pe_lc (own := [("_law_pair", 11)]) (g := (gName 11)) (tt := tYes) rfl sc_l_picked.nd (pi_seq (pv 5)) (blkOk_by (own := [("_law_pair", 11)]) (N := nm_l_picked) (sc := defScope s_l_picked) (by decide +kernel)) (fun _ _ _ _ _ => (gn 11 sc_l_picked.nd)) (fun _ _ _ _ _ => pts_nil) (fun _ _ _ _ _ => (pe_cmpR (op_eqX hr.units) (pe_get1 hr.units (pv 8) (pe_ix (ix_D hr.units) (pv 11) pe_int (fun _ _ => rfl))) (pe_ix (ix_D hr.units) (pv 11) pe_int (fun _ _ => rfl)) (nomark _)))) pa_nil))))))))))
theorem ok_l_picked (T : Txt P w K mg) : FnOk P w K mg base (L2N.CX P w) 11 T.f_l_picked T.d_l_picked ["_law_tasks_here", "_law_woven", "_law_world", "_law_count"] (spM ⟨K, cvT T, wtT⟩ m_l_picked) := fn_l_picked (k := 10) T (ok_l_waits T) (by omega) (ok_l_chosen T) (by omega) (okn_l_same T) (by omega) (ok_WaitTasks_pick T) (by omega) (ok_WovenTasks_pick T) (by omega)
def rd_law (T : Txt P w K mg) (W : WX) : TS :=
    (tSeq (tAsg (tCallS (spM ⟨K, cvT T, wtT⟩ m_l_pool) (WE W) (tCons (tVar 0) tNil)) (gName 1))
    (tSeq (tAsg (tLst (tCons (tCallS (spM ⟨K, cvT T, wtT⟩ m_l_numbers) (WE W) (tCons (tVar 1) tNil)) (tCons (tCallS (spM ⟨K, cvT T, wtT⟩ m_l_numbers) (WE W) (tCons (tVar 1) tNil)) tNil))) (gName 2))
    (tSeq (tAsg (tCB (rListD K) (tCons (tOp (rIxD K) (tVar 2) (tC (.int 0))) tNil)) (gName 3))
    (tSeq (tAsg (tLst (tCons (tMakeS T.C_WovenTasks (spM ⟨K, cvT T, wtT⟩ m_WovenTasks___init__) (WE W) (tCons (tVar 3) tNil)) (tCons (tMakeS T.C_WovenTasks (spM ⟨K, cvT T, wtT⟩ m_WovenTasks___init__) (WE W) (tCons (tCB (rTupleD K) (tCons (tOp (rIxD K) (tVar 2) (tC (.int 1))) tNil)) tNil)) (tCons (tMakeO T.C_WaitTasks) tNil)))) (gName 4))
    (tSeq (tDrop (tBM K "list" rAppend (tVar 3) (tCons (tC (.int 7)) tNil)))
    (tSeq (tAsg (tOp (rAddD K) (tOp (rIxD K) (tVar 3) (tC (.int 0))) (tC (.int 1))) (gSub (tVar 3) (tC (.int 0)) rSetD))
    (tSeq (tAsg (tLst (tCons (tCB (rLenD K) (tCons (tOp (rIxD K) (tVar 2) (tC (.int 0))) tNil)) (tCons (tCB (rLenD K) (tCons (tOp (rIxD K) (tVar 2) (tC (.int 1))) tNil)) tNil))) (gName 5))
    (tSeq (tFor (iRng1 (tCons (tC (.int 3)) tNil)) (gName 6) (tSeq (tAsg (tCallS (spM ⟨K, cvT T, wtT⟩ m_l_tasks) (WE W) (tCons (tVar 1) tNil)) (gName 7))
    (tSeq (tAsg (tLst (tCons (tC (.int 0)) (tCons (tCB (rMaxD K) (tCons (tC (.int 0)) (tCons (tOp rSubD (tOp (rIxD K) (tVar 5) (tC (.int 0))) (tC (.int 1))) tNil))) (tCons (tOp (rIxD K) (tVar 5) (tC (.int 0))) (tCons (tCB (rMaxD K) (tCons (tC (.int 0)) (tCons (tOp rSubD (tOp (rIxD K) (tVar 5) (tC (.int 1))) (tC (.int 1))) tNil))) (tCons (tOp (rIxD K) (tVar 5) (tC (.int 1))) (tCons (tCallS (spM ⟨K, cvT T, wtT⟩ m_l_draw) (WE W) (tCons (tVar 1) (tCons (tC (.int 200)) tNil))) tNil))))))) (gName 8))
    (tSeq (tFor (iSeq K (tOp (rAddD K) (tVar 8) (tLst (tCons (tCallS (spM ⟨K, cvT T, wtT⟩ m_l_draw) (WE W) (tCons (tVar 1) (tCons (tOp (rAddD K) (tOp (rIxD K) (tVar 5) (tC (.int 0))) (tC (.int 1))) tNil))) tNil)))) (gName 9) (tIfS (tNot (tTru K (tCallS (spM ⟨K, cvT T, wtT⟩ m_l_picked) (WE W) (tCons (tVar 4) (tCons (tVar 2) (tCons (tVar 7) (tCons (tVar 9) tNil))))))) (tRet (tC (.bl false))) tNext))
    (tIfS (tNot (tTru K (tCallS (spM ⟨K, cvT T, wtT⟩ (m_l_same 8)) (WE W) (tCons (tLst (tCons (tFld K (tOp (rIxD K) (tVar 4) (tC (.int 0))) "weaving") (tCons (tFld K (tOp (rIxD K) (tVar 4) (tC (.int 1))) "weaving") tNil))) (tCons (tLst (tCons (tCB (rTupleD K) (tCons (tOp (rIxD K) (tVar 2) (tC (.int 0))) tNil)) (tCons (tCB (rTupleD K) (tCons (tOp (rIxD K) (tVar 2) (tC (.int 1))) tNil)) tNil))) tNil))))) (tRet (tC (.bl false))) tNext)))))
    (tRet (tC (.bl true)))))))))))
theorem sim_law (T : Txt P w K mg) (W : WX) : SS (bC ⟨K, cvT T, wtT⟩ W 1 []) (rd_law T W) (mb_law) := by
  unfold rd_law mb_law lb_law_2 lb_law_1
  exact (ss_seq (ss_asg (se_callS (sa_cons (se_var 0) sa_nil)) (sg_name rfl))
    (ss_seq (ss_asg (se_lst (sa_cons (se_callS (sa_cons (se_var 1) sa_nil)) (sa_cons (se_callS (sa_cons (se_var 1) sa_nil)) sa_nil))) (sg_name rfl))
    (ss_seq (ss_asg (se_cb p_list (sa_cons (se_op p_ix (se_var 2) (se_c (.int 0))) sa_nil)) (sg_name rfl))
    (ss_seq (ss_asg (se_lst (sa_cons (se_make rfl (sa_cons (se_var 3) sa_nil)) (sa_cons (se_make rfl (sa_cons (se_cb p_tuple (sa_cons (se_op p_ix (se_var 2) (se_c (.int 1))) sa_nil)) sa_nil)) (sa_cons (se_makeO rfl) sa_nil)))) (sg_name rfl))
    (ss_seq (ss_drop (se_app (se_c (.int 7))))
    (ss_seq (ss_asg (se_op p_add (se_op p_ix (se_var 3) (se_c (.int 0))) (se_c (.int 1))) (sg_ix (se_c (.int 0))))
    (ss_seq (ss_asg (se_lst (sa_cons (se_cb p_len (sa_cons (se_op p_ix (se_var 2) (se_c (.int 0))) sa_nil)) (sa_cons (se_cb p_len (sa_cons (se_op p_ix (se_var 2) (se_c (.int 1))) sa_nil)) sa_nil))) (sg_name rfl))
    (ss_seq (ss_for (si_rng1 (sa_cons (se_c (.int 3)) sa_nil)) (sg_name rfl) (ss_seq (ss_asg (se_callS (sa_cons (se_var 1) sa_nil)) (sg_name rfl))
    (ss_seq (ss_asg (se_lst (sa_cons (se_c (.int 0)) (sa_cons (se_cb p_max (sa_cons (se_c (.int 0)) (sa_cons (se_op p_sub (se_op p_ix (se_var 5) (se_c (.int 0))) (se_c (.int 1))) sa_nil))) (sa_cons (se_op p_ix (se_var 5) (se_c (.int 0))) (sa_cons (se_cb p_max (sa_cons (se_c (.int 0)) (sa_cons (se_op p_sub (se_op p_ix (se_var 5) (se_c (.int 1))) (se_c (.int 1))) sa_nil))) (sa_cons (se_op p_ix (se_var 5) (se_c (.int 1))) (sa_cons (se_callS (sa_cons (se_var 1) (sa_cons (se_c (.int 200)) sa_nil))) sa_nil))))))) (sg_name rfl))
    (ss_seq (ss_for (si_seq (se_op p_add (se_var 8) (se_lst (sa_cons (se_callS (sa_cons (se_var 1) (sa_cons (se_op p_add (se_op p_ix (se_var 5) (se_c (.int 0))) (se_c (.int 1))) sa_nil))) sa_nil)))) (sg_name rfl) (ss_if (st_not (st_tru (se_callS (sa_cons (se_var 4) (sa_cons (se_var 2) (sa_cons (se_var 7) (sa_cons (se_var 9) sa_nil))))))) (ss_ret (se_c (.bl false))) ss_next))
    (ss_if (st_not (st_tru (se_callS (sa_cons (se_lst (sa_cons (se_fld (by decide +kernel) (fo_weaving T) (se_op p_ix (se_var 4) (se_c (.int 0)))) (sa_cons (se_fld (by decide +kernel) (fo_weaving T) (se_op p_ix (se_var 4) (se_c (.int 1)))) sa_nil))) (sa_cons (se_lst (sa_cons (se_cb p_tuple (sa_cons (se_op p_ix (se_var 2) (se_c (.int 0))) sa_nil)) (sa_cons (se_cb p_tuple (sa_cons (se_op p_ix (se_var 2) (se_c (.int 1))) sa_nil)) sa_nil))) sa_nil))))) (ss_ret (se_c (.bl false))) ss_next)))))
    (ss_ret (se_c (.bl true)))))))))))
theorem fn_law (T : Txt P w K mg) {k : Nat} {k_l_pool : Nat} (G_l_pool : FnOk P w K mg base (L2N.CX P w) k_l_pool T.f_l_pool T.d_l_pool ["_law_script"] (spM ⟨K, cvT T, wtT⟩ m_l_pool)) (h_l_pool : k_l_pool ≤ k) {k_l_numbers : Nat} (G_l_numbers : FnOk P w K mg base (L2N.CX P w) k_l_numbers T.f_l_numbers T.d_l_numbers ["_law_pool_here"] (spM ⟨K, cvT T, wtT⟩ m_l_numbers)) (h_l_numbers : k_l_numbers ≤ k) {k_WovenTasks___init__ : Nat} (G_WovenTasks___init__ : FnOk P w K mg base (L2N.CX P w) k_WovenTasks___init__ T.f_WovenTasks___init__ T.d_WovenTasks___init__ ["self", "weaving"] (spM ⟨K, cvT T, wtT⟩ m_WovenTasks___init__)) (h_WovenTasks___init__ : k_WovenTasks___init__ + 1 ≤ k) {k_l_tasks : Nat} (G_l_tasks : FnOk P w K mg base (L2N.CX P w) k_l_tasks T.f_l_tasks T.d_l_tasks ["_law_pool_here"] (spM ⟨K, cvT T, wtT⟩ m_l_tasks)) (h_l_tasks : k_l_tasks ≤ k) {k_l_draw : Nat} (G_l_draw : FnOk P w K mg base (L2N.CX P w) k_l_draw T.f_l_draw T.d_l_draw ["_law_pool_here", "_law_limit"] (spM ⟨K, cvT T, wtT⟩ m_l_draw)) (h_l_draw : k_l_draw ≤ k) {k_l_picked : Nat} (G_l_picked : FnOk P w K mg base (L2N.CX P w) k_l_picked T.f_l_picked T.d_l_picked ["_law_tasks_here", "_law_woven", "_law_world", "_law_count"] (spM ⟨K, cvT T, wtT⟩ m_l_picked)) (h_l_picked : k_l_picked ≤ k) {k_l_same : Nat} (G_l_same : FnOk P w K mg base (L2N.CX P w) k_l_same T.f_l_same T.d_l_same ["_law_mine", "_law_due"] (spM ⟨K, cvT T, wtT⟩ (m_l_same 8))) (h_l_same : k_l_same ≤ k) : FnOk P w K mg base (L2N.CX P w) (k + 1) T.f_law T.d_law ["_law_script"] (spM ⟨K, cvT T, wtT⟩ (mFun 1 9 [] (mb_law))) := by
  refine Fun.okN T.F_law sc_law (fun vs H Q E h => spM_len vs H Q E h) (fun cdv A outer s H vs Q E hr h0 => ⟨rd_law T (fun c o _ H => E c o H), ?_, body_mir (np := 1) (nl := 9) rfl (sim_law T _) h0⟩)
  exact (pss_cons (sset 1 sc_law.nd (pe_callS G_l_pool (hr.mono h_l_pool) rfl T.g_l_pool T.F_l_pool.kp T.b_l_pool (fun σ => L2N.passAt (L2N.takes_of rfl rfl rfl rfl) σ) (pa_cons (pv 0) pa_nil)))
      (pss_cons (sset 2 sc_law.nd (pe_lst (pa_cons (pe_callS G_l_numbers (hr.mono h_l_numbers) rfl T.g_l_numbers T.F_l_numbers.kp T.b_l_numbers (fun σ => L2N.passAt (L2N.takes_of rfl rfl rfl rfl) σ) (pa_cons (pv 1) pa_nil)) (pa_cons (pe_callS G_l_numbers (hr.mono h_l_numbers) rfl T.g_l_numbers T.F_l_numbers.kp T.b_l_numbers (fun σ => L2N.passAt (L2N.takes_of rfl rfl rfl rfl) σ) (pa_cons (pv 1) pa_nil)) pa_nil))))
      (pss_cons (sset 3 sc_law.nd (pe_callTy call_listD (by rfl) T.b_list bt_list (pa_cons (pe_ix (ix_D hr.units) (pv 2) pe_int (fun _ _ => rfl)) pa_nil)))
      (pss_cons (sset 4 sc_law.nd (pe_lst (pa_cons (pe_makeS T.M_WovenTasks G_WovenTasks___init__ (hr.mono h_WovenTasks___init__) rfl T.gC_WovenTasks T.b_WovenTasks___init__ (fun σ => L2N.passAt (L2N.takes_of rfl rfl rfl rfl) σ) (pa_cons (pv 3) pa_nil)) (pa_cons (pe_makeS T.M_WovenTasks G_WovenTasks___init__ (hr.mono h_WovenTasks___init__) rfl T.gC_WovenTasks T.b_WovenTasks___init__ (fun σ => L2N.passAt (L2N.takes_of rfl rfl rfl rfl) σ) (pa_cons (pe_callTy call_tupleD (by rfl) T.b_tuple bt_tuple (pa_cons (pe_ix (ix_D hr.units) (pv 2) pe_int (fun _ _ => rfl)) pa_nil)) pa_nil)) (pa_cons (pe_makeO T.MO_WaitTasks rfl T.gC_WaitTasks) pa_nil)))))
      (pss_cons (ps_expr (pe_bm PySem.F.plainAttrs_list PySem.F.slot_list_append PySem.F.type_list_append mt_append (pv 3) (pa_cons pe_int pa_nil)))
      (pss_cons (ps_asg (pe_op op_addD (pe_ix (ix_D hr.units) (pv 3) pe_int (fun _ _ => rfl)) pe_int) (pg_sub (pv 3) pe_int (set_D hr.units)))
      (pss_cons (sset 5 sc_law.nd (pe_lst (pa_cons (pe_callB call_lenX (by rfl) T.b_len bt_len (pa_cons (pe_ix (ix_D hr.units) (pv 2) pe_int (fun _ _ => rfl)) pa_nil)) (pa_cons (pe_callB call_lenX (by rfl) T.b_len bt_len (pa_cons (pe_ix (ix_D hr.units) (pv 2) pe_int (fun _ _ => rfl)) pa_nil)) pa_nil))))
      (pss_cons (ps_for (passes_of rfl) rfl (pi_range1 (by rfl) T.b_range (pa_cons pe_int pa_nil)) (gn 6 sc_law.nd) (pss_cons (sset 7 sc_law.nd (pe_callS G_l_tasks (hr.mono h_l_tasks) rfl T.g_l_tasks T.F_l_tasks.kp T.b_l_tasks (fun σ => L2N.passAt (L2N.takes_of rfl rfl rfl rfl) σ) (pa_cons (pv 1) pa_nil)))
      (pss_cons (sset 8 sc_law.nd (pe_lst (pa_cons pe_int (pa_cons (pe_callB (call_maxD rfl) (by rfl) T.b_max bt_max (pa_cons pe_int (pa_cons (pe_op op_subD (pe_ix (ix_D hr.units) (pv 5) pe_int (fun _ _ => rfl)) pe_int) pa_nil))) (pa_cons (pe_ix (ix_D hr.units) (pv 5) pe_int (fun _ _ => rfl)) (pa_cons (pe_callB (call_maxD rfl) (by rfl) T.b_max bt_max (pa_cons pe_int (pa_cons (pe_op op_subD (pe_ix (ix_D hr.units) (pv 5) pe_int (fun _ _ => rfl)) pe_int) pa_nil))) (pa_cons (pe_ix (ix_D hr.units) (pv 5) pe_int (fun _ _ => rfl)) (pa_cons (pe_callS G_l_draw (hr.mono h_l_draw) rfl T.g_l_draw T.F_l_draw.kp T.b_l_draw (fun σ => L2N.passAt (L2N.takes_of rfl rfl rfl rfl) σ) (pa_cons (pv 1) (pa_cons pe_int pa_nil))) pa_nil))))))))
      (pss_cons (ps_for (passes_of rfl) rfl (pi_seq (pe_op op_addD (pv 8) (pe_lst (pa_cons (pe_callS G_l_draw (hr.mono h_l_draw) rfl T.g_l_draw T.F_l_draw.kp T.b_l_draw (fun σ => L2N.passAt (L2N.takes_of rfl rfl rfl rfl) σ) (pa_cons (pv 1) (pa_cons (pe_op op_addD (pe_ix (ix_D hr.units) (pv 5) pe_int (fun _ _ => rfl)) pe_int) pa_nil))) pa_nil)))) (gn 9 sc_law.nd) (pss_one (ps_if (pt_not (pt_truthD (pe_callS G_l_picked (hr.mono h_l_picked) rfl T.g_l_picked T.F_l_picked.kp T.b_l_picked (fun σ => L2N.passAt (L2N.takes_of rfl rfl rfl rfl) σ) (pa_cons (pv 4) (pa_cons (pv 2) (pa_cons (pv 7) (pa_cons (pv 9) pa_nil))))) (by intro _; rfl))) (pss_one (ps_ret pe_bl)) pss_nil)))
      (pss_one (ps_if (pt_not (pt_truthD (pe_callS G_l_same (hr.mono h_l_same) rfl T.g_l_same T.F_l_same.kp T.b_l_same (fun σ => L2N.passAt (L2N.takes_of rfl rfl rfl rfl) σ) (pa_cons (pe_lst (pa_cons (pe_fld (pe_ix (ix_D hr.units) (pv 4) pe_int (fun _ _ => rfl)) rfl) (pa_cons (pe_fld (pe_ix (ix_D hr.units) (pv 4) pe_int (fun _ _ => rfl)) rfl) pa_nil))) (pa_cons (pe_lst (pa_cons (pe_callTy call_tupleD (by rfl) T.b_tuple bt_tuple (pa_cons (pe_ix (ix_D hr.units) (pv 2) pe_int (fun _ _ => rfl)) pa_nil)) (pa_cons (pe_callTy call_tupleD (by rfl) T.b_tuple bt_tuple (pa_cons (pe_ix (ix_D hr.units) (pv 2) pe_int (fun _ _ => rfl)) pa_nil)) pa_nil))) pa_nil))) (by intro _; rfl))) (pss_one (ps_ret pe_bl)) pss_nil))))))
      (pss_one (ps_ret pe_bl))))))))))
theorem ok_law (T : Txt P w K mg) : FnOk P w K mg base (L2N.CX P w) 12 T.f_law T.d_law ["_law_script"] (spM ⟨K, cvT T, wtT⟩ m_law) := fn_law (k := 11) T (ok_l_pool T) (by omega) (ok_l_numbers T) (by omega) (ok_WovenTasks___init__ T) (by omega) (ok_l_tasks T) (by omega) (ok_l_draw T) (by omega) (ok_l_picked T) (by omega) (okn_l_same T) (by omega)
end
end Q

namespace Q
open PySem L2
local macro_rules | `(tactic| walk_at "ev") => `(tactic| simp only [ev_seq, kSeq_nx, kSeq_rt, kSeq_bk, kSeq_ct, kSeq_ex, ev_asg, kAsg_ok, kAsg_ex, kAsg2_ok, kAsg3_ok, ev_nm, ev_ixg, kIx0_ok, kIx_ok, kIx2_ok, kIx3_ok, ev_un, kUnp_ok, ev_gscons, kGs_ok, ev_gsnil, ev_next, ev_break, ev_cont, ev_retN, ev_drop, kDrop_ok, kDrop_ex, ev_if, ev_ifE, kIf_t, kIf_f, kIf_ex, ev_ret, kRet_ok, kRet_ex, kRet2_ok, ev_c, ev_var, kVar_fz, kVar_m, res_al, kJ_ok, ev_unr, kUn_ok, ev_op, kOp_ok, kOp_ex, kOp2_ok, kOp2_ex, kP_ok, ev_ap1, kA1_ok, ev_ap2, kA2_ok, ev_cb, kCB_ok, ev_apN, kAN_ok, ev_lnil, ev_lcons, kL_ok, ev_nil, ev_cons, kCons_ok, kCons_ex, kCons2_ok, ev_test, kTest_ok, kTest_ex, ev_tru, kTru_ok, kTr2_ok, kTr3_ok, ev_and, ev_or, ev_not, kAnd_t, kAnd_f, kOr_t, kOr_f, kNot_ok, ev_andV, ev_orV, ev_notV, kAndV_t, kAndV_f, kOrV_t, kOrV_f, kNotV_ok, ev_lst, ev_tup, kLst_ok, kLst_ex, kLs2_ok, ev_tnil, ev_tcons, kT_ok, kT2_ok, tkf_fz, tkf_mls, tkf_al, kTkf_ok, tk_fz, tk_mls, tk_al, kTk_ok, frz_of, frz_mls, res_fz, res_mls, out_fz, out_mls, out_al, kOut_ok, ev_nopart, ev_part, kPart_ok, ev_sl, kSl_ok, kSl2_ok, kSl3_ok, kSl4_ok, ev_app, kApp0_ok, kApp_ok, kApp_ex, kApp2_ok, kApp3_ok, ev_ext, kExt0_ok, kExt_ok, kE2_lst, kE2_mls, kE2_tup, ev_call, kCall_ok, kC2_ok, kC3_ok, kC3_ex, ev_for, kFor_ok, loop_nil, loop_cons, kLp0_ok, kLp_nx, kLp_ct, kLp_bk, kLp_rt, kLp_ex, ev_si, kSI_ok, kSI2_ok, kSI3_ok, ev_r1, kR1_ok, ev_r2, ev_v1, ev_lc, kLc_ok, kLc2_ok, cl_nil, cl_cons, kQ_ok, kQ2_t, kQ2_f, kQ3_ok, kQ4_ok, kFun_rt, kFun_nx, kFun_ex, kF2_ok, kF3_ok, outA_nil, outA_fz, outA_mls, kO_ok, back_nil, back_al, back_fz, als_nil, als_fz, als_al, isAl_fz, isAlK_fz, isFz_non, isAl_non, isAlK_non, isFz_bl, isAl_bl, isAlK_bl, isFz_int, isAl_int, isAlK_int, isFz_str, isAl_str, isAlK_str, isFz_cst, isAl_cst, isAlK_cst, isFz_tup, isAl_tup, isAlK_tup, isFz_lst, isAl_lst, isAlK_lst, isFz_rol, isAl_rol, isAlK_rol, isFz_mls, isAl_mls, isAlK_mls, isFz_al, isAl_al, isAlK_al, dIs_non, dIsNot_non, dIs_bl, dIsNot_bl, dIs_int, dIsNot_int, dIs_str, dIsNot_str, dIs_tup, dIsNot_tup, dIs_lst, dIsNot_lst, dIs_rol, dIsNot_rol, dIs_mls, dIsNot_mls, dIx_tup, dIx_lst, dIx_mls, dIx_rol, dLen_tup, dLen_lst, dLen_mls, dLen_rol, eqD_int, eqD_str, eqD_bl, eqD_non, neD_int, neD_str, neD_bl, neD_non, atI_l0, atI_l1, atI_l2, atI_l3, atI_l4, atI_l5, atI_l6, atI_l7, atI_m1, atI_m2, atI_m3, atI_m4, atI_m5, st_inj, st_cps, st_len, st_app, dAdd_st, dAdd_int, dAdd_tup, dAdd_ll, dAdd_lm, dAdd_ml, dAdd_mm, dIx_st, dSl_st, dSl_tup, dSl_lst, dSl_mls, dLen_st, tru_st, tru_non, tru_bl, tru_int, tru_tup, tru_lst, tru_mls, dIn_st, dNotIn_st, dIn_lst, dIn_mls, dIn_tup, dNotIn_lst, dNotIn_mls, dNotIn_tup, among_nil, among_ss, among_ii, flat_int, flat_str, flat_bl, flat_non, flat_strs, flat_ints, isi_non_bool, isi_bl_bool, isi_int_bool, isi_str_bool, isi_tup_bool, isi_lst_bool, isi_mls_bool, isi_non_int, isi_bl_int, isi_int_int, isi_str_int, isi_tup_int, isi_lst_int, isi_mls_int, isi_non_str, isi_bl_str, isi_int_str, isi_str_str, isi_tup_str, isi_lst_str, isi_mls_str, isi_non_list, isi_bl_list, isi_int_list, isi_str_list, isi_tup_list, isi_lst_list, isi_mls_list, isi_non_tuple, isi_bl_tuple, isi_int_tuple, isi_str_tuple, isi_tup_tuple, isi_lst_tuple, isi_mls_tuple, ev_raise, kRaise_ok, kRaise_ex, kRaise2_1, kRaise2_2, ev_try, kTry_ok, kTry_ex, kTry2_t, kTry2_f, kTry3_ok, ev_xf, kXf_ok, ev_isx, kIsX_ok, findD_hit, dKIn_str, dKNot_str, dKIx_str, ev_chain, kCh_ok, kCh2_ok, kCh3_t, kCh3_f, ev_sti, kSt_ok, signs_st, ev_fs, ev_jnil, ev_jcons, kJs_st, dFmt_st, kR2_ok, dAll_bls, Fun, ev_y0, ev_yseq, kYs_nx, ev_yif, kYi_t, kYi_f, ev_yy, kYy_ok, kYy2_ok, ev_yfor, kYf_ok, ev_lg, kLg_ok, kLg2_ok, kLg3_ok, kVar_mdc, tkf_mdc, tk_mdc, frz_mdc, res_mdc, out_mdc, outA_mdc, isFz_mdc, isAl_mdc, isAlK_mdc, dIs_mdc, dIsNot_mdc, kVar_mdt, tkf_mdt, tk_mdt, frz_mdt, res_mdt, out_mdt, outA_mdt, isFz_mdt, isAl_mdt, isAlK_mdt, dIs_mdt, dIsNot_mdt, kVar_mob, tkf_mob, tk_mob, frz_mob, res_mob, out_mob, outA_mob, isFz_mob, isAl_mob, isAlK_mob, dIs_mob, dIsNot_mob, isFz_dct, isAl_dct, isAlK_dct, dIs_dct, dIsNot_dct, isFz_dtt, isAl_dtt, isAlK_dtt, dIs_dtt, dIsNot_dtt, isFz_obj, isAl_obj, isAlK_obj, dIs_obj, dIsNot_obj, ev_makeO, ev_make, kMk_ok, kMk2_ok, kMk3_ok, ev_meth, kMeth_ok, kMeth2_ok, kMeth3_ok, kMeth4_ok, kMeth5_ok, objD_obj, objD_mob, dFld_obj, dFld_mob, ev_setF, kSf_ok, kSf2_ok, kSf3_ok, putN_nil, putX_nil, ev_dnT, ev_get1, kG1_ok, kG2_mdt, kG2_dtt, kG2_mdc, kG2_dct, ev_ixT, kTt0_ok, kTt1_ok, kTt2_ok, kTt3_ok, dLen_mdt, kWh_t, kWh_f, kWh2_nx, kWh2_ct, kWh2_bk, kWh2_rt, cutN_to, cutN_from, cutD_to, cutD_from, eq_self, seqD, lsD, List.getElem?_cons_zero, List.getElem?_cons_succ, List.set_cons_zero, List.set_cons_succ, List.map_cons, List.map_nil, List.replicate, List.cons_append, List.nil_append, List.append_nil, List.length_cons, List.length_nil, List.any_cons, List.any_nil, List.all_cons, List.all_nil, Bool.or_false, Bool.or_true, Bool.false_or, Bool.true_or, Bool.and_false, Bool.false_and, Bool.not_false, Bool.and_true, Bool.true_and, Bool.and_self, beq_iff_eq, reduceIte, Bool.not_true, Nat.reduceAdd, Nat.reduceLT, Nat.reduceLeDiff, Nat.reduceEqDiff, Nat.reduceBEq, Nat.zero_add, Bool.false_eq_true, decide_true, decide_false, not_false_eq_true, Int.reduceLT, Int.reduceLE, Int.reduceAdd, Int.reduceSub, Int.reduceNeg, Int.reduceEq, Int.reduceToNat, Int.cast_ofNat_Int, Int.reducePow, Int.natAbs, and_self, and_true, true_and, or_true, true_or, and_false, false_and, ixN, Option.bind_some, Option.map_some, List.cons.injEq, reduceCtorEq, List.isEmpty_cons, List.isEmpty_nil, wipeE, dSub, dMul, dDiv, dMod, dPow, dNeg, dLt, dLe, dGt, dGe, dInt, dList, dTuple, dMin, dMax, dIpAdd])
local macro_rules | `(tactic| push_cast [$ts,*]) => `(tactic| simp only [$ts,*, ev_seq, kSeq_nx, kSeq_rt, kSeq_bk, kSeq_ct, kSeq_ex, ev_asg, kAsg_ok, kAsg_ex, kAsg2_ok, kAsg3_ok, ev_nm, ev_ixg, kIx0_ok, kIx_ok, kIx2_ok, kIx3_ok, ev_un, kUnp_ok, ev_gscons, kGs_ok, ev_gsnil, ev_next, ev_break, ev_cont, ev_retN, ev_drop, kDrop_ok, kDrop_ex, ev_if, ev_ifE, kIf_t, kIf_f, kIf_ex, ev_ret, kRet_ok, kRet_ex, kRet2_ok, ev_c, ev_var, kVar_fz, kVar_m, res_al, kJ_ok, ev_unr, kUn_ok, ev_op, kOp_ok, kOp_ex, kOp2_ok, kOp2_ex, kP_ok, ev_ap1, kA1_ok, ev_ap2, kA2_ok, ev_cb, kCB_ok, ev_apN, kAN_ok, ev_lnil, ev_lcons, kL_ok, ev_nil, ev_cons, kCons_ok, kCons_ex, kCons2_ok, ev_test, kTest_ok, kTest_ex, ev_tru, kTru_ok, kTr2_ok, kTr3_ok, ev_and, ev_or, ev_not, kAnd_t, kAnd_f, kOr_t, kOr_f, kNot_ok, ev_andV, ev_orV, ev_notV, kAndV_t, kAndV_f, kOrV_t, kOrV_f, kNotV_ok, ev_lst, ev_tup, kLst_ok, kLst_ex, kLs2_ok, ev_tnil, ev_tcons, kT_ok, kT2_ok, tkf_fz, tkf_mls, tkf_al, kTkf_ok, tk_fz, tk_mls, tk_al, kTk_ok, frz_of, frz_mls, res_fz, res_mls, out_fz, out_mls, out_al, kOut_ok, ev_nopart, ev_part, kPart_ok, ev_sl, kSl_ok, kSl2_ok, kSl3_ok, kSl4_ok, ev_app, kApp0_ok, kApp_ok, kApp_ex, kApp2_ok, kApp3_ok, ev_ext, kExt0_ok, kExt_ok, kE2_lst, kE2_mls, kE2_tup, ev_call, kCall_ok, kC2_ok, kC3_ok, kC3_ex, ev_for, kFor_ok, loop_nil, loop_cons, kLp0_ok, kLp_nx, kLp_ct, kLp_bk, kLp_rt, kLp_ex, ev_si, kSI_ok, kSI2_ok, kSI3_ok, ev_r1, kR1_ok, ev_r2, ev_v1, ev_lc, kLc_ok, kLc2_ok, cl_nil, cl_cons, kQ_ok, kQ2_t, kQ2_f, kQ3_ok, kQ4_ok, kFun_rt, kFun_nx, kFun_ex, kF2_ok, kF3_ok, outA_nil, outA_fz, outA_mls, kO_ok, back_nil, back_al, back_fz, als_nil, als_fz, als_al, isAl_fz, isAlK_fz, isFz_non, isAl_non, isAlK_non, isFz_bl, isAl_bl, isAlK_bl, isFz_int, isAl_int, isAlK_int, isFz_str, isAl_str, isAlK_str, isFz_cst, isAl_cst, isAlK_cst, isFz_tup, isAl_tup, isAlK_tup, isFz_lst, isAl_lst, isAlK_lst, isFz_rol, isAl_rol, isAlK_rol, isFz_mls, isAl_mls, isAlK_mls, isFz_al, isAl_al, isAlK_al, dIs_non, dIsNot_non, dIs_bl, dIsNot_bl, dIs_int, dIsNot_int, dIs_str, dIsNot_str, dIs_tup, dIsNot_tup, dIs_lst, dIsNot_lst, dIs_rol, dIsNot_rol, dIs_mls, dIsNot_mls, dIx_tup, dIx_lst, dIx_mls, dIx_rol, dLen_tup, dLen_lst, dLen_mls, dLen_rol, eqD_int, eqD_str, eqD_bl, eqD_non, neD_int, neD_str, neD_bl, neD_non, atI_l0, atI_l1, atI_l2, atI_l3, atI_l4, atI_l5, atI_l6, atI_l7, atI_m1, atI_m2, atI_m3, atI_m4, atI_m5, st_inj, st_cps, st_len, st_app, dAdd_st, dAdd_int, dAdd_tup, dAdd_ll, dAdd_lm, dAdd_ml, dAdd_mm, dIx_st, dSl_st, dSl_tup, dSl_lst, dSl_mls, dLen_st, tru_st, tru_non, tru_bl, tru_int, tru_tup, tru_lst, tru_mls, dIn_st, dNotIn_st, dIn_lst, dIn_mls, dIn_tup, dNotIn_lst, dNotIn_mls, dNotIn_tup, among_nil, among_ss, among_ii, flat_int, flat_str, flat_bl, flat_non, flat_strs, flat_ints, isi_non_bool, isi_bl_bool, isi_int_bool, isi_str_bool, isi_tup_bool, isi_lst_bool, isi_mls_bool, isi_non_int, isi_bl_int, isi_int_int, isi_str_int, isi_tup_int, isi_lst_int, isi_mls_int, isi_non_str, isi_bl_str, isi_int_str, isi_str_str, isi_tup_str, isi_lst_str, isi_mls_str, isi_non_list, isi_bl_list, isi_int_list, isi_str_list, isi_tup_list, isi_lst_list, isi_mls_list, isi_non_tuple, isi_bl_tuple, isi_int_tuple, isi_str_tuple, isi_tup_tuple, isi_lst_tuple, isi_mls_tuple, ev_raise, kRaise_ok, kRaise_ex, kRaise2_1, kRaise2_2, ev_try, kTry_ok, kTry_ex, kTry2_t, kTry2_f, kTry3_ok, ev_xf, kXf_ok, ev_isx, kIsX_ok, findD_hit, dKIn_str, dKNot_str, dKIx_str, ev_chain, kCh_ok, kCh2_ok, kCh3_t, kCh3_f, ev_sti, kSt_ok, signs_st, ev_fs, ev_jnil, ev_jcons, kJs_st, dFmt_st, kR2_ok, dAll_bls, Fun, ev_y0, ev_yseq, kYs_nx, ev_yif, kYi_t, kYi_f, ev_yy, kYy_ok, kYy2_ok, ev_yfor, kYf_ok, ev_lg, kLg_ok, kLg2_ok, kLg3_ok, kVar_mdc, tkf_mdc, tk_mdc, frz_mdc, res_mdc, out_mdc, outA_mdc, isFz_mdc, isAl_mdc, isAlK_mdc, dIs_mdc, dIsNot_mdc, kVar_mdt, tkf_mdt, tk_mdt, frz_mdt, res_mdt, out_mdt, outA_mdt, isFz_mdt, isAl_mdt, isAlK_mdt, dIs_mdt, dIsNot_mdt, kVar_mob, tkf_mob, tk_mob, frz_mob, res_mob, out_mob, outA_mob, isFz_mob, isAl_mob, isAlK_mob, dIs_mob, dIsNot_mob, isFz_dct, isAl_dct, isAlK_dct, dIs_dct, dIsNot_dct, isFz_dtt, isAl_dtt, isAlK_dtt, dIs_dtt, dIsNot_dtt, isFz_obj, isAl_obj, isAlK_obj, dIs_obj, dIsNot_obj, ev_makeO, ev_make, kMk_ok, kMk2_ok, kMk3_ok, ev_meth, kMeth_ok, kMeth2_ok, kMeth3_ok, kMeth4_ok, kMeth5_ok, objD_obj, objD_mob, dFld_obj, dFld_mob, ev_setF, kSf_ok, kSf2_ok, kSf3_ok, putN_nil, putX_nil, ev_dnT, ev_get1, kG1_ok, kG2_mdt, kG2_dtt, kG2_mdc, kG2_dct, ev_ixT, kTt0_ok, kTt1_ok, kTt2_ok, kTt3_ok, dLen_mdt, kWh_t, kWh_f, kWh2_nx, kWh2_ct, kWh2_bk, kWh2_rt, cutN_to, cutN_from, cutD_to, cutD_from, eq_self, seqD, lsD, List.getElem?_cons_zero, List.getElem?_cons_succ, List.set_cons_zero, List.set_cons_succ, List.map_cons, List.map_nil, List.replicate, List.cons_append, List.nil_append, List.append_nil, List.length_cons, List.length_nil, List.any_cons, List.any_nil, List.all_cons, List.all_nil, Bool.or_false, Bool.or_true, Bool.false_or, Bool.true_or, Bool.and_false, Bool.false_and, Bool.not_false, Bool.and_true, Bool.true_and, Bool.and_self, beq_iff_eq, reduceIte, Bool.not_true, Nat.reduceAdd, Nat.reduceLT, Nat.reduceLeDiff, Nat.reduceEqDiff, Nat.reduceBEq, Nat.zero_add, Bool.false_eq_true, decide_true, decide_false, not_false_eq_true, Int.reduceLT, Int.reduceLE, Int.reduceAdd, Int.reduceSub, Int.reduceNeg, Int.reduceEq, Int.reduceToNat, Int.cast_ofNat_Int, Int.reducePow, Int.natAbs, and_self, and_true, true_and, or_true, true_or, and_false, false_and, ixN, Option.bind_some, Option.map_some, List.cons.injEq, reduceCtorEq, List.isEmpty_cons, List.isEmpty_nil, wipeE, dSub, dMul, dDiv, dMod, dPow, dNeg, dLt, dLe, dGt, dGe, dInt, dList, dTuple, dMin, dMax, dIpAdd])
/-! ### drawing -/
theorem mixed_eq (c t n : Int) (hn : 0 < n) : m_l_mixed [.int c, .int t, .int n] = some (.ok (.int ((((c * 48271 + t * 69621 + 11) % 2147483647 * 40692 + c * 16807 + t * 30269) % 2147483399 * 39373 +
                      (c * 48271 + t * 69621 + 11) % 2147483647 / 7) % 1000000007 % n)) [.int c, .int t, .int n]) := by
  unfold m_l_mixed mb_l_mixed
  rw [ev_fun (by rfl) (by rfl)]
  push_cast [hn]
theorem mixed_ok (c t n : Int) (hn : 0 < n) : ∃ r, m_l_mixed [.int c, .int t, .int n] = some (.ok (.int r) [.int c, .int t, .int n]) ∧ 0 ≤ r ∧ r < n :=
  ⟨_, mixed_eq c t n hn, Int.emod_nonneg _ (by omega), Int.emod_lt_of_pos _ hn⟩
theorem pool_eq (ns : List Int) : m_l_pool [.rol (ns.map D.int)] = some (.ok (.mls [.lst (ns.map D.int), .int 0, .int 0, .int 0, .int 0]) [.rol (ns.map D.int)]) := by
  unfold m_l_pool mb_l_pool
  rw [ev_fun (by rfl) (by rfl)]
  walk_at "ev"
/-- a pool, as it may stand -/
structure Pool where
  s : List Int
  i : Nat
  a : Int
  b : Int
  c : Int
def Pool.d (p : Pool) : D := .mls [.lst (p.s.map D.int), .int p.i, .int p.a, .int p.b, .int p.c]
theorem Pool.isFz (p : Pool) : Q.isFz p.d = false := nr rfl
theorem Pool.isAl (p : Pool) : Q.isAl p.d = false := nr rfl
theorem Pool.kVar (p : Pool) (i : Nat) (e : Env) : Q.kVar (some (some p.d)) i e = some (.ok (.al i) e) := nr rfl
theorem Pool.outA (p : Pool) (ds : List D) (o : Option D) (e : Env) : Q.outA (p.d :: ds) (o :: e) = kO o (Q.outA ds e) := outA_mls _ _ _ _
theorem Pool.res (p : Pool) (e : Env) : Q.res e p.d = some p.d := nr rfl
theorem Pool.tk (p : Pool) (e : Env) : Q.tk p.d e = some (p.d, e) := nr rfl
theorem pool_new (ns : List Int) : ∃ p : Pool, m_l_pool [.rol (ns.map D.int)] = some (.ok p.d [.rol (ns.map D.int)]) := ⟨⟨ns, 0, 0, 0, 0⟩, pool_eq ns⟩
theorem draw_ok (p : Pool) {n : Int} (hn : 0 < n) (hn2 : n < 1073741824) : ∃ (r : Int) (p' : Pool), m_l_draw [p.d, .int n] = some (.ok (.int r) [p'.d, .int n]) ∧ 0 ≤ r ∧ r < n := by
  obtain ⟨s, i, a, b, c⟩ := p
  show ∃ (r : Int) (p' : Pool), m_l_draw [.mls [.lst (s.map D.int), .int i, .int a, .int b, .int c], .int n] = _ ∧ _
  unfold m_l_draw mb_l_draw
  rw [ev_fun (by rfl) (by rfl)]
  by_cases h1 : 0 < a
  · push_cast [h1, hn, hn2]
    exact ⟨_, ⟨s, i, a / n, b, c⟩, rfl, Int.emod_nonneg _ (by omega), Int.emod_lt_of_pos _ hn⟩
  · by_cases h2 : 0 < c
    · obtain ⟨r, hr, h3, h4⟩ := mixed_ok b (c - 1) n hn
      push_cast [h1, h2, hr]
      exact ⟨r, ⟨s, i, a, b, c - 1⟩, rfl, h3, h4⟩
    · by_cases h3 : (s.length : Int) ≤ i
      · push_cast [h1, h2, h3, List.length_map]
        exact ⟨0, ⟨s, i, a, b, c⟩, rfl, by omega, hn⟩
      · have hi : i < s.length := by omega
        obtain ⟨x, hx⟩ : ∃ x, s[i]? = some x := ⟨s[i], by simp [hi]⟩
        have hat : atI (List.map D.int s) (i : Int) = some (.int x) := by
          rw [atI_nat (j := i) (v := .int x) (by rw [List.getElem?_map, hx]; rfl)]
        have hle : (s.length : Int) ≤ i ↔ False := by simp; omega
        by_cases h5 : x < 0
        · by_cases h6 : (1000000000000000000 : Int) ≤ -1 - x
          · push_cast [h1, h2, hle, List.length_map, hat, h5, h6, hn, hn2]
            exact ⟨_, ⟨s, i + 1, (-1 - x) / n, b, c⟩, rfl, Int.emod_nonneg _ (by omega), Int.emod_lt_of_pos _ hn⟩
          · obtain ⟨r, hr, h7, h8⟩ := mixed_ok (-1 - x) 7 n hn
            push_cast [h1, h2, hle, List.length_map, hat, h5, h6, hn, hn2, hr]
            exact ⟨r, ⟨s, i + 1, a, -1 - x, 7⟩, rfl, h7, h8⟩
        · by_cases h6 : (1000000000000000000 : Int) ≤ x
          · push_cast [h1, h2, hle, List.length_map, hat, h5, h6, hn, hn2]
            exact ⟨_, ⟨s, i + 1, x / n, b, c⟩, rfl, Int.emod_nonneg _ (by omega), Int.emod_lt_of_pos _ hn⟩
          · obtain ⟨r, hr, h7, h8⟩ := mixed_ok x 7 n hn
            push_cast [h1, h2, hle, List.length_map, hat, h5, h6, hn, hn2, hr]
            exact ⟨r, ⟨s, i + 1, a, x, 7⟩, rfl, h7, h8⟩
local macro_rules | `(tactic| walk_at "ev") => `(tactic| simp only [Pool.isFz, Pool.isAl, Pool.kVar, Pool.outA, Pool.res, Pool.tk, ev_seq, kSeq_nx, kSeq_rt, kSeq_bk, kSeq_ct, kSeq_ex, ev_asg, kAsg_ok, kAsg_ex, kAsg2_ok, kAsg3_ok, ev_nm, ev_ixg, kIx0_ok, kIx_ok, kIx2_ok, kIx3_ok, ev_un, kUnp_ok, ev_gscons, kGs_ok, ev_gsnil, ev_next, ev_break, ev_cont, ev_retN, ev_drop, kDrop_ok, kDrop_ex, ev_if, ev_ifE, kIf_t, kIf_f, kIf_ex, ev_ret, kRet_ok, kRet_ex, kRet2_ok, ev_c, ev_var, kVar_fz, kVar_m, res_al, kJ_ok, ev_unr, kUn_ok, ev_op, kOp_ok, kOp_ex, kOp2_ok, kOp2_ex, kP_ok, ev_ap1, kA1_ok, ev_ap2, kA2_ok, ev_cb, kCB_ok, ev_apN, kAN_ok, ev_lnil, ev_lcons, kL_ok, ev_nil, ev_cons, kCons_ok, kCons_ex, kCons2_ok, ev_test, kTest_ok, kTest_ex, ev_tru, kTru_ok, kTr2_ok, kTr3_ok, ev_and, ev_or, ev_not, kAnd_t, kAnd_f, kOr_t, kOr_f, kNot_ok, ev_andV, ev_orV, ev_notV, kAndV_t, kAndV_f, kOrV_t, kOrV_f, kNotV_ok, ev_lst, ev_tup, kLst_ok, kLst_ex, kLs2_ok, ev_tnil, ev_tcons, kT_ok, kT2_ok, tkf_fz, tkf_mls, tkf_al, kTkf_ok, tk_fz, tk_mls, tk_al, kTk_ok, frz_of, frz_mls, res_fz, res_mls, out_fz, out_mls, out_al, kOut_ok, ev_nopart, ev_part, kPart_ok, ev_sl, kSl_ok, kSl2_ok, kSl3_ok, kSl4_ok, ev_app, kApp0_ok, kApp_ok, kApp_ex, kApp2_ok, kApp3_ok, ev_ext, kExt0_ok, kExt_ok, kE2_lst, kE2_mls, kE2_tup, ev_call, kCall_ok, kC2_ok, kC3_ok, kC3_ex, ev_for, kFor_ok, loop_nil, loop_cons, kLp0_ok, kLp_nx, kLp_ct, kLp_bk, kLp_rt, kLp_ex, ev_si, kSI_ok, kSI2_ok, kSI3_ok, ev_r1, kR1_ok, ev_r2, ev_v1, ev_lc, kLc_ok, kLc2_ok, cl_nil, cl_cons, kQ_ok, kQ2_t, kQ2_f, kQ3_ok, kQ4_ok, kFun_rt, kFun_nx, kFun_ex, kF2_ok, kF3_ok, outA_nil, outA_fz, outA_mls, kO_ok, back_nil, back_al, back_fz, als_nil, als_fz, als_al, isAl_fz, isAlK_fz, isFz_non, isAl_non, isAlK_non, isFz_bl, isAl_bl, isAlK_bl, isFz_int, isAl_int, isAlK_int, isFz_str, isAl_str, isAlK_str, isFz_cst, isAl_cst, isAlK_cst, isFz_tup, isAl_tup, isAlK_tup, isFz_lst, isAl_lst, isAlK_lst, isFz_rol, isAl_rol, isAlK_rol, isFz_mls, isAl_mls, isAlK_mls, isFz_al, isAl_al, isAlK_al, dIs_non, dIsNot_non, dIs_bl, dIsNot_bl, dIs_int, dIsNot_int, dIs_str, dIsNot_str, dIs_tup, dIsNot_tup, dIs_lst, dIsNot_lst, dIs_rol, dIsNot_rol, dIs_mls, dIsNot_mls, dIx_tup, dIx_lst, dIx_mls, dIx_rol, dLen_tup, dLen_lst, dLen_mls, dLen_rol, eqD_int, eqD_str, eqD_bl, eqD_non, neD_int, neD_str, neD_bl, neD_non, atI_l0, atI_l1, atI_l2, atI_l3, atI_l4, atI_l5, atI_l6, atI_l7, atI_m1, atI_m2, atI_m3, atI_m4, atI_m5, st_inj, st_cps, st_len, st_app, dAdd_st, dAdd_int, dAdd_tup, dAdd_ll, dAdd_lm, dAdd_ml, dAdd_mm, dIx_st, dSl_st, dSl_tup, dSl_lst, dSl_mls, dLen_st, tru_st, tru_non, tru_bl, tru_int, tru_tup, tru_lst, tru_mls, dIn_st, dNotIn_st, dIn_lst, dIn_mls, dIn_tup, dNotIn_lst, dNotIn_mls, dNotIn_tup, among_nil, among_ss, among_ii, flat_int, flat_str, flat_bl, flat_non, flat_strs, flat_ints, isi_non_bool, isi_bl_bool, isi_int_bool, isi_str_bool, isi_tup_bool, isi_lst_bool, isi_mls_bool, isi_non_int, isi_bl_int, isi_int_int, isi_str_int, isi_tup_int, isi_lst_int, isi_mls_int, isi_non_str, isi_bl_str, isi_int_str, isi_str_str, isi_tup_str, isi_lst_str, isi_mls_str, isi_non_list, isi_bl_list, isi_int_list, isi_str_list, isi_tup_list, isi_lst_list, isi_mls_list, isi_non_tuple, isi_bl_tuple, isi_int_tuple, isi_str_tuple, isi_tup_tuple, isi_lst_tuple, isi_mls_tuple, ev_raise, kRaise_ok, kRaise_ex, kRaise2_1, kRaise2_2, ev_try, kTry_ok, kTry_ex, kTry2_t, kTry2_f, kTry3_ok, ev_xf, kXf_ok, ev_isx, kIsX_ok, findD_hit, dKIn_str, dKNot_str, dKIx_str, ev_chain, kCh_ok, kCh2_ok, kCh3_t, kCh3_f, ev_sti, kSt_ok, signs_st, ev_fs, ev_jnil, ev_jcons, kJs_st, dFmt_st, kR2_ok, dAll_bls, Fun, ev_y0, ev_yseq, kYs_nx, ev_yif, kYi_t, kYi_f, ev_yy, kYy_ok, kYy2_ok, ev_yfor, kYf_ok, ev_lg, kLg_ok, kLg2_ok, kLg3_ok, kVar_mdc, tkf_mdc, tk_mdc, frz_mdc, res_mdc, out_mdc, outA_mdc, isFz_mdc, isAl_mdc, isAlK_mdc, dIs_mdc, dIsNot_mdc, kVar_mdt, tkf_mdt, tk_mdt, frz_mdt, res_mdt, out_mdt, outA_mdt, isFz_mdt, isAl_mdt, isAlK_mdt, dIs_mdt, dIsNot_mdt, kVar_mob, tkf_mob, tk_mob, frz_mob, res_mob, out_mob, outA_mob, isFz_mob, isAl_mob, isAlK_mob, dIs_mob, dIsNot_mob, isFz_dct, isAl_dct, isAlK_dct, dIs_dct, dIsNot_dct, isFz_dtt, isAl_dtt, isAlK_dtt, dIs_dtt, dIsNot_dtt, isFz_obj, isAl_obj, isAlK_obj, dIs_obj, dIsNot_obj, ev_makeO, ev_make, kMk_ok, kMk2_ok, kMk3_ok, ev_meth, kMeth_ok, kMeth2_ok, kMeth3_ok, kMeth4_ok, kMeth5_ok, objD_obj, objD_mob, dFld_obj, dFld_mob, ev_setF, kSf_ok, kSf2_ok, kSf3_ok, putN_nil, putX_nil, ev_dnT, ev_get1, kG1_ok, kG2_mdt, kG2_dtt, kG2_mdc, kG2_dct, ev_ixT, kTt0_ok, kTt1_ok, kTt2_ok, kTt3_ok, dLen_mdt, kWh_t, kWh_f, kWh2_nx, kWh2_ct, kWh2_bk, kWh2_rt, cutN_to, cutN_from, cutD_to, cutD_from, eq_self, seqD, lsD, List.getElem?_cons_zero, List.getElem?_cons_succ, List.set_cons_zero, List.set_cons_succ, List.map_cons, List.map_nil, List.replicate, List.cons_append, List.nil_append, List.append_nil, List.length_cons, List.length_nil, List.any_cons, List.any_nil, List.all_cons, List.all_nil, Bool.or_false, Bool.or_true, Bool.false_or, Bool.true_or, Bool.and_false, Bool.false_and, Bool.not_false, Bool.and_true, Bool.true_and, Bool.and_self, beq_iff_eq, reduceIte, Bool.not_true, Nat.reduceAdd, Nat.reduceLT, Nat.reduceLeDiff, Nat.reduceEqDiff, Nat.reduceBEq, Nat.zero_add, Bool.false_eq_true, decide_true, decide_false, not_false_eq_true, Int.reduceLT, Int.reduceLE, Int.reduceAdd, Int.reduceSub, Int.reduceNeg, Int.reduceEq, Int.reduceToNat, Int.cast_ofNat_Int, Int.reducePow, Int.natAbs, and_self, and_true, true_and, or_true, true_or, and_false, false_and, ixN, Option.bind_some, Option.map_some, List.cons.injEq, reduceCtorEq, List.isEmpty_cons, List.isEmpty_nil, wipeE, dSub, dMul, dDiv, dMod, dPow, dNeg, dLt, dLe, dGt, dGe, dInt, dList, dTuple, dMin, dMax, dIpAdd])
local macro_rules | `(tactic| push_cast [$ts,*]) => `(tactic| simp only [$ts,*, Pool.isFz, Pool.isAl, Pool.kVar, Pool.outA, Pool.res, Pool.tk, ev_seq, kSeq_nx, kSeq_rt, kSeq_bk, kSeq_ct, kSeq_ex, ev_asg, kAsg_ok, kAsg_ex, kAsg2_ok, kAsg3_ok, ev_nm, ev_ixg, kIx0_ok, kIx_ok, kIx2_ok, kIx3_ok, ev_un, kUnp_ok, ev_gscons, kGs_ok, ev_gsnil, ev_next, ev_break, ev_cont, ev_retN, ev_drop, kDrop_ok, kDrop_ex, ev_if, ev_ifE, kIf_t, kIf_f, kIf_ex, ev_ret, kRet_ok, kRet_ex, kRet2_ok, ev_c, ev_var, kVar_fz, kVar_m, res_al, kJ_ok, ev_unr, kUn_ok, ev_op, kOp_ok, kOp_ex, kOp2_ok, kOp2_ex, kP_ok, ev_ap1, kA1_ok, ev_ap2, kA2_ok, ev_cb, kCB_ok, ev_apN, kAN_ok, ev_lnil, ev_lcons, kL_ok, ev_nil, ev_cons, kCons_ok, kCons_ex, kCons2_ok, ev_test, kTest_ok, kTest_ex, ev_tru, kTru_ok, kTr2_ok, kTr3_ok, ev_and, ev_or, ev_not, kAnd_t, kAnd_f, kOr_t, kOr_f, kNot_ok, ev_andV, ev_orV, ev_notV, kAndV_t, kAndV_f, kOrV_t, kOrV_f, kNotV_ok, ev_lst, ev_tup, kLst_ok, kLst_ex, kLs2_ok, ev_tnil, ev_tcons, kT_ok, kT2_ok, tkf_fz, tkf_mls, tkf_al, kTkf_ok, tk_fz, tk_mls, tk_al, kTk_ok, frz_of, frz_mls, res_fz, res_mls, out_fz, out_mls, out_al, kOut_ok, ev_nopart, ev_part, kPart_ok, ev_sl, kSl_ok, kSl2_ok, kSl3_ok, kSl4_ok, ev_app, kApp0_ok, kApp_ok, kApp_ex, kApp2_ok, kApp3_ok, ev_ext, kExt0_ok, kExt_ok, kE2_lst, kE2_mls, kE2_tup, ev_call, kCall_ok, kC2_ok, kC3_ok, kC3_ex, ev_for, kFor_ok, loop_nil, loop_cons, kLp0_ok, kLp_nx, kLp_ct, kLp_bk, kLp_rt, kLp_ex, ev_si, kSI_ok, kSI2_ok, kSI3_ok, ev_r1, kR1_ok, ev_r2, ev_v1, ev_lc, kLc_ok, kLc2_ok, cl_nil, cl_cons, kQ_ok, kQ2_t, kQ2_f, kQ3_ok, kQ4_ok, kFun_rt, kFun_nx, kFun_ex, kF2_ok, kF3_ok, outA_nil, outA_fz, outA_mls, kO_ok, back_nil, back_al, back_fz, als_nil, als_fz, als_al, isAl_fz, isAlK_fz, isFz_non, isAl_non, isAlK_non, isFz_bl, isAl_bl, isAlK_bl, isFz_int, isAl_int, isAlK_int, isFz_str, isAl_str, isAlK_str, isFz_cst, isAl_cst, isAlK_cst, isFz_tup, isAl_tup, isAlK_tup, isFz_lst, isAl_lst, isAlK_lst, isFz_rol, isAl_rol, isAlK_rol, isFz_mls, isAl_mls, isAlK_mls, isFz_al, isAl_al, isAlK_al, dIs_non, dIsNot_non, dIs_bl, dIsNot_bl, dIs_int, dIsNot_int, dIs_str, dIsNot_str, dIs_tup, dIsNot_tup, dIs_lst, dIsNot_lst, dIs_rol, dIsNot_rol, dIs_mls, dIsNot_mls, dIx_tup, dIx_lst, dIx_mls, dIx_rol, dLen_tup, dLen_lst, dLen_mls, dLen_rol, eqD_int, eqD_str, eqD_bl, eqD_non, neD_int, neD_str, neD_bl, neD_non, atI_l0, atI_l1, atI_l2, atI_l3, atI_l4, atI_l5, atI_l6, atI_l7, atI_m1, atI_m2, atI_m3, atI_m4, atI_m5, st_inj, st_cps, st_len, st_app, dAdd_st, dAdd_int, dAdd_tup, dAdd_ll, dAdd_lm, dAdd_ml, dAdd_mm, dIx_st, dSl_st, dSl_tup, dSl_lst, dSl_mls, dLen_st, tru_st, tru_non, tru_bl, tru_int, tru_tup, tru_lst, tru_mls, dIn_st, dNotIn_st, dIn_lst, dIn_mls, dIn_tup, dNotIn_lst, dNotIn_mls, dNotIn_tup, among_nil, among_ss, among_ii, flat_int, flat_str, flat_bl, flat_non, flat_strs, flat_ints, isi_non_bool, isi_bl_bool, isi_int_bool, isi_str_bool, isi_tup_bool, isi_lst_bool, isi_mls_bool, isi_non_int, isi_bl_int, isi_int_int, isi_str_int, isi_tup_int, isi_lst_int, isi_mls_int, isi_non_str, isi_bl_str, isi_int_str, isi_str_str, isi_tup_str, isi_lst_str, isi_mls_str, isi_non_list, isi_bl_list, isi_int_list, isi_str_list, isi_tup_list, isi_lst_list, isi_mls_list, isi_non_tuple, isi_bl_tuple, isi_int_tuple, isi_str_tuple, isi_tup_tuple, isi_lst_tuple, isi_mls_tuple, ev_raise, kRaise_ok, kRaise_ex, kRaise2_1, kRaise2_2, ev_try, kTry_ok, kTry_ex, kTry2_t, kTry2_f, kTry3_ok, ev_xf, kXf_ok, ev_isx, kIsX_ok, findD_hit, dKIn_str, dKNot_str, dKIx_str, ev_chain, kCh_ok, kCh2_ok, kCh3_t, kCh3_f, ev_sti, kSt_ok, signs_st, ev_fs, ev_jnil, ev_jcons, kJs_st, dFmt_st, kR2_ok, dAll_bls, Fun, ev_y0, ev_yseq, kYs_nx, ev_yif, kYi_t, kYi_f, ev_yy, kYy_ok, kYy2_ok, ev_yfor, kYf_ok, ev_lg, kLg_ok, kLg2_ok, kLg3_ok, kVar_mdc, tkf_mdc, tk_mdc, frz_mdc, res_mdc, out_mdc, outA_mdc, isFz_mdc, isAl_mdc, isAlK_mdc, dIs_mdc, dIsNot_mdc, kVar_mdt, tkf_mdt, tk_mdt, frz_mdt, res_mdt, out_mdt, outA_mdt, isFz_mdt, isAl_mdt, isAlK_mdt, dIs_mdt, dIsNot_mdt, kVar_mob, tkf_mob, tk_mob, frz_mob, res_mob, out_mob, outA_mob, isFz_mob, isAl_mob, isAlK_mob, dIs_mob, dIsNot_mob, isFz_dct, isAl_dct, isAlK_dct, dIs_dct, dIsNot_dct, isFz_dtt, isAl_dtt, isAlK_dtt, dIs_dtt, dIsNot_dtt, isFz_obj, isAl_obj, isAlK_obj, dIs_obj, dIsNot_obj, ev_makeO, ev_make, kMk_ok, kMk2_ok, kMk3_ok, ev_meth, kMeth_ok, kMeth2_ok, kMeth3_ok, kMeth4_ok, kMeth5_ok, objD_obj, objD_mob, dFld_obj, dFld_mob, ev_setF, kSf_ok, kSf2_ok, kSf3_ok, putN_nil, putX_nil, ev_dnT, ev_get1, kG1_ok, kG2_mdt, kG2_dtt, kG2_mdc, kG2_dct, ev_ixT, kTt0_ok, kTt1_ok, kTt2_ok, kTt3_ok, dLen_mdt, kWh_t, kWh_f, kWh2_nx, kWh2_ct, kWh2_bk, kWh2_rt, cutN_to, cutN_from, cutD_to, cutD_from, eq_self, seqD, lsD, List.getElem?_cons_zero, List.getElem?_cons_succ, List.set_cons_zero, List.set_cons_succ, List.map_cons, List.map_nil, List.replicate, List.cons_append, List.nil_append, List.append_nil, List.length_cons, List.length_nil, List.any_cons, List.any_nil, List.all_cons, List.all_nil, Bool.or_false, Bool.or_true, Bool.false_or, Bool.true_or, Bool.and_false, Bool.false_and, Bool.not_false, Bool.and_true, Bool.true_and, Bool.and_self, beq_iff_eq, reduceIte, Bool.not_true, Nat.reduceAdd, Nat.reduceLT, Nat.reduceLeDiff, Nat.reduceEqDiff, Nat.reduceBEq, Nat.zero_add, Bool.false_eq_true, decide_true, decide_false, not_false_eq_true, Int.reduceLT, Int.reduceLE, Int.reduceAdd, Int.reduceSub, Int.reduceNeg, Int.reduceEq, Int.reduceToNat, Int.cast_ofNat_Int, Int.reducePow, Int.natAbs, and_self, and_true, true_and, or_true, true_or, and_false, false_and, ixN, Option.bind_some, Option.map_some, List.cons.injEq, reduceCtorEq, List.isEmpty_cons, List.isEmpty_nil, wipeE, dSub, dMul, dDiv, dMod, dPow, dNeg, dLt, dLe, dGt, dGe, dInt, dList, dTuple, dMin, dMax, dIpAdd])
/-! ### _law_is_int, _law_same -/
theorem is_int_int (i : Int) : m_l_is_int [.int i] = some (.ok (.bl true) [.int i]) := by
  unfold m_l_is_int mb_l_is_int
  rw [ev_fun (by rfl) (by rfl)]
  walk_at "ev"
/-- data that _law_same finds the same, at most n deep -/
inductive Sm : Nat → D → D → Prop
  | non {n : Nat} : Sm n .non .non
  | bl {n : Nat} (b : Bool) : Sm n (.bl b) (.bl b)
  | int {n : Nat} (b : Int) : Sm n (.int b) (.int b)
  | str {n : Nat} (b : Str) : Sm n (.str b) (.str b)
  | lst {n : Nat} {xs ys : List D} : xs.length = ys.length → xs.length ≤ 16777216 → (∀ (i : Nat) x y, xs[i]? = some x → ys[i]? = some y → Sm n x y) → Sm (n + 1) (.lst xs) (.lst ys)
  | tup {n : Nat} {xs ys : List D} : xs.length = ys.length → xs.length ≤ 16777216 → (∀ (i : Nat) x y, xs[i]? = some x → ys[i]? = some y → Sm n x y) → Sm (n + 1) (.tup xs) (.tup ys)
theorem Sm.fz {n : Nat} {x y : D} (h : Sm n x y) : isFz x = true ∧ isFz y = true := by cases h <;> exact ⟨rfl, rfl⟩
theorem Sm.mono {n m : Nat} {x y : D} (h : Sm n x y) (hm : n ≤ m) : Sm m x y := by
  induction h generalizing m with
  | non => exact .non
  | bl b => exact .bl b
  | int b => exact .int b
  | str b => exact .str b
  | lst h1 h2 _ ih =>
    obtain ⟨k, rfl⟩ : ∃ k, m = k + 1 := ⟨m - 1, by omega⟩
    exact .lst h1 h2 fun i x y e1 e2 => ih i x y e1 e2 (by omega)
  | tup h1 h2 _ ih =>
    obtain ⟨k, rfl⟩ : ∃ k, m = k + 1 := ⟨m - 1, by omega⟩
    exact .tup h1 h2 fun i x y e1 e2 => ih i x y e1 e2 (by omega)
theorem Sm.strs {n : Nat} (l : List Str) (hl : l.length ≤ 16777216) : Sm (n + 1) (.tup (l.map D.str)) (.tup (l.map D.str)) := .tup rfl (by simpa using hl) fun i x y e1 e2 => by
  rw [e1] at e2; cases e2
  obtain ⟨s, _, rfl⟩ := List.mem_map.mp (List.mem_of_getElem? e1)
  exact .str s
theorem same_loop {rec : MF} {x y : D} {xs ys : List D} {o : Option D} (hx : seqD x = some xs) (hy : seqD y = some ys) (hl : xs.length = ys.length) (hz : xs.length ≤ 16777216) (hf : ∀ (i : Nat) a b, xs[i]? = some a → ys[i]? = some b → isFz a = true ∧ isFz b = true ∧ rec [a, b] = some (.ok (.bl true) [a, b])) :
    ∃ o', mLoop (gNm 2) (lb_l_same_1 rec) (rngD 0 (ys.length : Int).toNat) [some x, some y, o] = some (.ok .nx [some x, some y, o']) := by
  obtain ⟨e', h1, h2⟩ := loop_inv (g := gNm 2) (b := lb_l_same_1 rec)
    (fun _ e => ∃ o, e = [some x, some y, o]) (rngD 0 (ys.length : Int).toNat) 0 [some x, some y, o] ⟨o, rfl⟩ fun k d e hk hI => by
      obtain ⟨o, rfl⟩ := hI
      obtain ⟨hk1, rfl⟩ := rngD_get hk
      rw [Int.toNat_natCast] at hk1
      obtain ⟨a, ha⟩ : ∃ a, xs[k]? = some a := ⟨xs[k], by simp [hl, hk1]⟩
      obtain ⟨b, hb⟩ : ∃ b, ys[k]? = some b := ⟨ys[k], by simp [hk1]⟩
      obtain ⟨f1, f2, hr⟩ := hf k a b ha hb
      have a1 : atI xs ((0 : Int) + (k : Int)) = some a := by rw [Int.zero_add]; exact atI_nat ha
      have a2 : atI ys ((0 : Int) + (k : Int)) = some b := by rw [Int.zero_add]; exact atI_nat hb
      cases x <;> cases hx <;> cases y <;> cases hy <;>
      · refine ⟨_, .nx, [some _, some _, some (.int (0 + (k : Int)))], rfl, ?_, .inl rfl, _, rfl⟩
        unfold lb_l_same_1
        push_cast [a1, a2, f1, f2, hr, isAl_fz f1, isAl_fz f2, res_fz f1, res_fz f2]
  obtain ⟨o', rfl⟩ := h2
  exact ⟨o', h1⟩
theorem same_seq {n : Nat} {x y : D} {xs ys : List D} (hk : (∃ xs ys, x = .tup xs ∧ y = .tup ys) ∨ ((∃ xs, x = .lst xs ∨ x = .mls xs) ∧ ∃ ys, y = .lst ys ∨ y = .mls ys)) (hx : seqD x = some xs) (hy : seqD y = some ys) (hl : xs.length = ys.length) (hz : xs.length ≤ 16777216)
    (hf : ∀ (i : Nat) a b, xs[i]? = some a → ys[i]? = some b → isFz a = true ∧ isFz b = true ∧ m_l_same n [a, b] = some (.ok (.bl true) [a, b])) : m_l_same (n + 1) [x, y] = some (.ok (.bl true) [x, y]) := by
  unfold m_l_same mb_l_same
  rw [ev_fun (by rfl) (by rfl)]
  obtain ⟨o', hlo⟩ := same_loop (o := none) hx hy hl hz hf
  have hr : -4611686018427387904 ≤ (ys.length : Int) ∧ (ys.length : Int) < 4611686018427387904 := by omega
  have hn : decide ((ys.length : Int) = ys.length) = true := by simp
  rcases hk with ⟨xs, ys, rfl, rfl⟩ | ⟨⟨xs, rfl | rfl⟩, ys, rfl | rfl⟩ <;> cases hx <;> cases hy <;>
    push_cast [hl, hr, hn, hlo]
theorem same_ok : ∀ {n : Nat} {x y : D}, Sm n x y → m_l_same (n + 1) [x, y] = some (.ok (.bl true) [x, y]) := by
  intro n x y h
  induction h with
  | non => unfold m_l_same mb_l_same; rw [ev_fun (by rfl) (by rfl)]; walk_at "ev"
  | bl b => unfold m_l_same mb_l_same; rw [ev_fun (by rfl) (by rfl)]; walk_at "ev"
  | int b => unfold m_l_same mb_l_same; rw [ev_fun (by rfl) (by rfl)]; push_cast [is_int_int]
  | str b => unfold m_l_same mb_l_same; rw [ev_fun (by rfl) (by rfl)]; walk_at "ev"
  | lst h1 h2 h3 ih => exact same_seq (.inr ⟨⟨_, .inl rfl⟩, _, .inl rfl⟩) rfl rfl h1 h2 fun i a b e1 e2 => ⟨(h3 i a b e1 e2).fz.1, (h3 i a b e1 e2).fz.2, ih i a b e1 e2⟩
  | tup h1 h2 h3 ih => exact same_seq (.inl ⟨_, _, rfl, rfl⟩) rfl rfl h1 h2 fun i a b e1 e2 => ⟨(h3 i a b e1 e2).fz.1, (h3 i a b e1 e2).fz.2, ih i a b e1 e2⟩
/-! ### tuples of whole numbers -/
theorem atI_int {α : Type} {xs : List α} {r : Int} (h0 : 0 ≤ r) (h1 : r < xs.length) : ∃ c, atI xs r = some c ∧ xs[r.toNat]? = some c ∧ c ∈ xs := by
  have hl : r.toNat < xs.length := by omega
  refine ⟨xs[r.toNat], ?_, by simp [hl], List.getElem_mem hl⟩
  have e : r = (r.toNat : Int) := by omega
  have h : atI xs (r.toNat : Int) = some xs[r.toNat] := atI_nat (by simp [hl])
  rw [← e] at h
  exact h
def tiD (l : List Int) : D := .tup (l.map D.int)
def tis (M : List (List Int)) : List D := M.map tiD
def prD2 (q : List Int × List Int) : D := .tup [tiD q.1, tiD q.2]
def prs (P : List (List Int × List Int)) : List D := P.map prD2
theorem tiD_fz (l : List Int) : isFz (tiD l) = true := nr rfl
theorem tiD_al (l : List Int) : isAl (tiD l) = false := nr rfl
theorem tiD_res (l : List Int) (e : Env) : res e (tiD l) = some (tiD l) := nr rfl
theorem prD2_fz (q : List Int × List Int) : isFz (prD2 q) = true := nr rfl
theorem prD2_al (q : List Int × List Int) : isAl (prD2 q) = false := nr rfl
theorem prD2_res (q : List Int × List Int) (e : Env) : res e (prD2 q) = some (prD2 q) := nr rfl
theorem prD2_0 (q : List Int × List Int) : dIx (prD2 q) (.int 0) = some (tiD q.1) := nr rfl
theorem prD2_1 (q : List Int × List Int) : dIx (prD2 q) (.int 1) = some (tiD q.2) := nr rfl
theorem prD2_mk (a b : List Int) : D.tup [tiD a, tiD b] = prD2 (a, b) := nr rfl
theorem tiD_nil : D.tup [] = tiD [] := nr rfl
theorem tiD_add {l : List Int} {r : Int} (h : l.length < 16777216) : dAdd (tiD l) (.tup [.int r]) = some (tiD (l ++ [r])) := by
  show (if (l.map D.int).length + 1 ≤ 16777216 then some (D.tup (l.map D.int ++ [D.int r])) else none) = _
  rw [if_pos (by rw [List.length_map]; omega)]
  simp [tiD]
theorem tis_snoc (M : List (List Int)) (c : List Int) : tis M ++ [tiD c] = tis (M ++ [c]) := by simp [tis]
theorem prs_snoc (P : List (List Int × List Int)) (q : List Int × List Int) : prs P ++ [prD2 q] = prs (P ++ [q]) := by simp [prs]
theorem tis_len (M : List (List Int)) : (tis M).length = M.length := by simp [tis]
theorem prs_len (P : List (List Int × List Int)) : (prs P).length = P.length := by simp [prs]
theorem toPs_ints (l : List Int) : D.toPs (l.map D.int) = l.map PyData.int := by rw [toPs_map, List.map_map]; rfl
theorem okPs_ints : ∀ l : List Int, D.okPs (l.map D.int) = true
  | [] => rfl
  | x :: l => by rw [List.map_cons, D.okPs, okPs_ints l]; rfl
theorem toP_ti (l : List Int) : (tiD l).toP = .tuple (l.map PyData.int) := by
  unfold tiD; rw [D.toP, toPs_ints]
theorem okP_ti (l : List Int) : (tiD l).okP = true := by
  unfold tiD; rw [D.okP]; exact okPs_ints l
theorem toPs_tis (M : List (List Int)) : D.toPs (tis M) = M.map fun l => PyData.tuple (l.map PyData.int) := by
  unfold tis
  rw [toPs_map, List.map_map]
  exact List.map_congr_left fun l _ => toP_ti l
theorem okPs_tis : ∀ M : List (List Int), D.okPs (tis M) = true
  | [] => rfl
  | l :: M => by
    show D.okPs (tiD l :: tis M) = true
    rw [D.okPs, okP_ti, okPs_tis M]; rfl
theorem lay_ints : ∀ l : List Int, PyData.canLayAll0 (l.map PyData.int) = true
  | [] => by simp [PyData.canLayAll0]
  | x :: l => by rw [List.map_cons, PyData.canLayAll0, lay_ints l]; simp [PyData.canLay0]
theorem depth_ti (l : List Int) : (PyData.tuple (l.map PyData.int)).depth ≤ 1 := by
  rw [PyData.depth, PySem.W.depth_ints]; omega
theorem lay_tis : ∀ M : List (List Int), PyData.canLayAll0 (M.map fun l => PyData.tuple (l.map PyData.int)) = true
  | [] => by simp [PyData.canLayAll0]
  | l :: M => by rw [List.map_cons, PyData.canLayAll0, lay_tis M, PyData.canLay0, lay_ints]; rfl
theorem depth_tis : ∀ M : List (List Int), PyData.depthAll (M.map fun l => PyData.tuple (l.map PyData.int)) ≤ 1
  | [] => by simp [PyData.depthAll]
  | l :: M => by
    have h1 := depth_ti l
    have h2 := depth_tis M
    rw [List.map_cons, PyData.depthAll]
    omega
theorem shaped_ti (l : List Int) : SeqAt.shaped (.tuple (l.map PyData.int)) = true := by
  have h := depth_ti l
  unfold SeqAt.shaped
  rw [PyData.canLay0, lay_ints, Bool.true_and]
  exact decide_eq_true (by omega)
theorem shaped_tis (M : List (List Int)) : SeqAt.shaped (.list (M.map fun l => PyData.tuple (l.map PyData.int))) = true := by
  have h := depth_tis M
  unfold SeqAt.shaped
  rw [PyData.canLay0, lay_tis, Bool.true_and]
  refine decide_eq_true ?_
  rw [PyData.depth]; omega
theorem eqv_ints : ∀ a b : List Int, PyData.eqvAll (a.map PyData.int) (b.map PyData.int) = decide (a = b)
  | [], [] => by simp [PyData.eqvAll]
  | [], _ :: _ => by simp [PyData.eqvAll]
  | _ :: _, [] => by simp [PyData.eqvAll]
  | x :: a, y :: b => by
    rw [List.map_cons, List.map_cons, PyData.eqvAll, eqv_ints a b]
    by_cases h1 : x = y <;> by_cases h2 : a = b <;> simp [h1, h2, PyData.eqv]
theorem eqv_ti (a b : List Int) : PyData.eqv (.tuple (a.map PyData.int)) (.tuple (b.map PyData.int)) = decide (a = b) := by
  rw [PyData.eqv, eqv_ints]
theorem any_tis (c : List Int) : ∀ M : List (List Int), ((M.map fun l => PyData.tuple (l.map PyData.int)).any fun z => PyData.eqv z (.tuple (c.map PyData.int))) = decide (c ∈ M)
  | [] => rfl
  | l :: M => by
    rw [List.map_cons, List.any_cons, eqv_ti, any_tis c M]
    by_cases e : l = c
    · simp [e]
    · simp [e, Ne.symm e]
theorem in_tis (c : List Int) (M : List (List Int)) : inD (tiD c) (.mls (tis M)) = some (decide (c ∈ M)) := by
  have h1 : inD (tiD c) (.mls (tis M)) = (match (D.mls (tis M)).toP with
      | .list us => if (tiD c).okP = true ∧ (D.mls (tis M)).okP = true ∧ SeqAt.shaped (tiD c).toP = true ∧ SeqAt.shaped (D.mls (tis M)).toP = true ∧ (tiD c).toP.depth ≤ 16 then some (us.any fun z => PyData.eqv z (tiD c).toP) else none
      | _ => none) := by
    simp only [inD, seqD, tiD, flatD, Bool.false_eq_true, false_and, if_false]
    try rfl
  have h2 : (D.mls (tis M)).toP = .list (M.map fun l => PyData.tuple (l.map PyData.int)) := by rw [D.toP, toPs_tis]
  have h3 : (D.mls (tis M)).okP = true := by rw [D.okP]; exact okPs_tis M
  rw [h1, h2, toP_ti]
  have h4 := depth_ti c
  simp only [okP_ti, h3, shaped_ti, shaped_tis, true_and, show (PyData.tuple (c.map PyData.int)).depth ≤ 16 by omega, if_true, any_tis]
theorem notin_tis (c : List Int) (M : List (List Int)) : dNotIn (tiD c) (.mls (tis M)) = some (.bl (!decide (c ∈ M))) := by
  unfold dNotIn; rw [in_tis]; rfl
theorem sort_tis (xs : List (List Int)) : ∃ ys : List (List Int), dSorted [.mls (tis xs)] = some (.mls (tis ys)) ∧ ys.length = xs.length ∧ ∀ y ∈ ys, y ∈ xs := by
  have h1 : sortOk (tis xs) = true := by
    unfold sortOk
    rw [toPs_tis, okPs_tis]
    simp only [Bool.true_and, Bool.and_eq_true, Bool.or_eq_true, List.all_eq_true, decide_eq_true_eq, List.mem_map]
    refine ⟨⟨?_, .inl ?_⟩, ?_⟩
    · rintro _ ⟨a, _, rfl⟩ _ ⟨b, _, rfl⟩
      rw [PySem.W.alike]; exact PySem.W.alike_ints a b
    · rintro _ ⟨a, _, rfl⟩; rfl
    · rintro _ ⟨a, _, rfl⟩
      have := depth_ti a; omega
  have h2 : ∀ d ∈ (tis xs).mergeSort leD, ∃ y, d = tiD y := fun d hd => by
    obtain ⟨y, _, rfl⟩ := List.mem_map.mp (List.mem_mergeSort.mp hd)
    exact ⟨y, rfl⟩
  have h3 : ∀ l : List D, (∀ d ∈ l, ∃ y, d = tiD y) → ∃ ys : List (List Int), l = tis ys := by
    intro l
    induction l with
    | nil => intro _; exact ⟨[], rfl⟩
    | cons d l ih =>
      intro h
      obtain ⟨y, rfl⟩ := h d (by simp)
      obtain ⟨ys, rfl⟩ := ih fun x hx => h x (List.mem_cons_of_mem _ hx)
      exact ⟨y :: ys, rfl⟩
  obtain ⟨ys, hy⟩ := h3 _ h2
  have inj : ∀ a b : List Int, tiD a = tiD b → a = b := fun a b e => by
    have := congrArg D.toP e
    rw [toP_ti, toP_ti] at this
    injection this with this
    have h := eqv_ints a b
    rw [this] at h
    have h' := eqv_ints b b
    rw [h] at h'
    simpa using h'
  refine ⟨ys, ?_, ?_, fun y hm => ?_⟩
  · simp only [dSorted, lsD, h1, if_true, hy]
  · have := congrArg List.length hy
    simpa [tis] using this.symm
  · have h4 : tiD y ∈ (tis xs).mergeSort leD := by rw [hy]; exact List.mem_map.mpr ⟨y, hm, rfl⟩
    obtain ⟨z, hz, e⟩ := List.mem_map.mp (List.mem_mergeSort.mp h4)
    rw [← inj _ _ e]
    exact hz
/-! ### _law_numbers -/
theorem numbers_ok (p : Pool) : ∃ (xs : List Int) (p' : Pool), m_l_numbers [p.d] = some (.ok (.mls (xs.map D.int)) [p'.d]) ∧ xs.length ≤ 60 := by
  unfold m_l_numbers mb_l_numbers
  rw [ev_fun (by rfl) (by rfl)]
  obtain ⟨s1, p1, d1, a1, b1⟩ := draw_ok p (n := 4) (by omega) (by omega)
  obtain ⟨s2, p2, d2, a2, b2⟩ := draw_ok p1 (n := 12) (by omega) (by omega)
  obtain ⟨s3, p3, d3, a3, b3⟩ := draw_ok p2 (n := 61) (by omega) (by omega)
  obtain ⟨r, p4, d4, a4, b4⟩ := draw_ok p3 (n := 3) (by omega) (by omega)
  obtain ⟨c, hc, _, hm⟩ := atI_int (xs := [D.int s1, .int s2, .int s3]) a4 (by simpa using b4)
  obtain ⟨s, rfl, h0, h1⟩ : ∃ s, c = .int s ∧ 0 ≤ s ∧ s ≤ 60 := by
    simp only [List.mem_cons, List.not_mem_nil, or_false] at hm
    rcases hm with rfl | rfl | rfl
    · exact ⟨s1, rfl, by omega, by omega⟩
    · exact ⟨s2, rfl, by omega, by omega⟩
    · exact ⟨s3, rfl, by omega, by omega⟩
  obtain ⟨e', hlo, p5, xs, o3, o4, rfl, hl⟩ := loop_inv (g := gNm 3) (b := lb_l_numbers_1)
    (fun k e => ∃ (p : Pool) (xs : List Int) (o3 o4 : Option D), e = [some p.d, some (.int s), some (.mls (xs.map D.int)), o3, o4] ∧ xs.length = k) (rngD 0 s.toNat) 0 [some p4.d, some (.int s), some (.mls []), none, none] ⟨p4, [], none, none, rfl, rfl⟩ fun k x e hk hI => by
      obtain ⟨p, xs, o3, o4, rfl, hl⟩ := hI
      obtain ⟨hk1, rfl⟩ := rngD_get hk
      obtain ⟨r, p1, d1, a1, b1⟩ := draw_ok p (n := 4) (by omega) (by omega)
      obtain ⟨c, hc, _, hm⟩ := atI_int (xs := [D.int 2, .int 9, .int 1000, .int 1000000]) a1 (by simpa using b1)
      obtain ⟨n, rfl, h0, h1⟩ : ∃ n, c = .int n ∧ 0 < n ∧ n ≤ 1000000 := by
        simp only [List.mem_cons, List.not_mem_nil, or_false] at hm
        rcases hm with rfl | rfl | rfl | rfl <;> exact ⟨_, rfl, by omega, by omega⟩
      obtain ⟨v, p2, d2, a2, b2⟩ := draw_ok p1 (n := n) h0 (by omega)
      obtain ⟨r3, p3, d3, a3, b3⟩ := draw_ok p2 (n := 8) (by omega) (by omega)
      have z : (xs.map D.int).length < 16777216 := by simp; omega
      have ms : ∀ v : Int, xs.map D.int ++ [D.int v] = (xs ++ [v]).map D.int := fun v => by simp
      by_cases h7 : r3 = 7
      · obtain ⟨w, p4, d4, a4, b4⟩ := draw_ok p3 (n := 1000000) (by omega) (by omega)
        have mu : -18446744073709551616 < v + 1 ∧ v + 1 < 18446744073709551616 := by omega
        refine ⟨_, .nx, [some p4.d, some (.int s), some (.mls ((xs ++ [(v + 1) * 10000000000000000000000000000000000000000 + w]).map D.int)), some (.int (0 + (k : Int))), some (.int ((v + 1) * 10000000000000000000000000000000000000000 + w))], rfl, ?_, .inl rfl, p4, _, _, _, rfl, by simp; omega⟩
        unfold lb_l_numbers_1
        push_cast [d1, hc, d2, d3, h7, d4, z, ms, mu]
      · refine ⟨_, .nx, [some p3.d, some (.int s), some (.mls ((xs ++ [v]).map D.int)), some (.int (0 + (k : Int))), some (.int v)], rfl, ?_, .inl rfl, p3, _, _, _, rfl, by simp; omega⟩
        unfold lb_l_numbers_1
        push_cast [d1, hc, d2, d3, eq_false h7, z, ms]
  rw [rngD_length] at hl
  refine ⟨xs, p5, ?_, by omega⟩
  have hr : -4611686018427387904 ≤ s ∧ s < 4611686018427387904 := by omega
  push_cast [d1, d2, d3, d4, hc, hr, hlo]
/-! ### _law_tasks -/
def chM (l : List Int) : List (List Int) := (List.range (l.length + 1)).map l.take
def chP (l : List Int) : List (List Int × List Int) := (List.range l.length).map fun i => (l.take i, l.take (i + 1))
theorem chM_snoc (l : List Int) (r : Int) : chM (l ++ [r]) = chM l ++ [l ++ [r]] := by
  unfold chM
  rw [List.length_append, List.length_singleton, List.range_succ, List.map_append]
  congr 1
  · refine List.map_congr_left fun i hi => ?_
    have := List.mem_range.mp hi
    exact List.take_append_of_le_length (by omega)
  · rw [List.map_cons, List.map_nil, List.take_of_length_le (by simp)]
theorem chP_snoc (l : List Int) (r : Int) : chP (l ++ [r]) = chP l ++ [(l, l ++ [r])] := by
  unfold chP
  rw [List.length_append, List.length_singleton, List.range_succ, List.map_append]
  congr 1
  · refine List.map_congr_left fun i hi => ?_
    have := List.mem_range.mp hi
    rw [List.take_append_of_le_length (by omega), List.take_append_of_le_length (by omega)]
  · have h1 : (l ++ [r]).take l.length = l := by simp
    have h2 : (l ++ [r]).take (l.length + 1) = l ++ [r] := List.take_of_length_le (by simp)
    rw [List.map_cons, List.map_nil, h1, h2]
/-- what _law_tasks has made -/
structure Wd (l : List Int) (M : List (List Int)) (P : List (List Int × List Int)) (k : Nat) : Prop where
  keys : ∀ q ∈ P, q.1 ∈ M
  nd : (P.map Prod.fst).Nodup
  lm : l ∈ M
  lk : l ∉ P.map Prod.fst
  ll : l.length ≤ 6
  ch : ∀ i < l.length, (l.take i, l.take (i + 1)) ∈ P
  ml : M.length ≤ 7 + 2 * k
  pl : P.length ≤ 6 + k
  tl : ∀ t ∈ M, t.length ≤ 6 + 2 * k
  ql : ∀ q ∈ P, q.2.length ≤ 6 + 2 * k
theorem Wd.first {l : List Int} (h : l.length ≤ 6) : Wd l (chM l) (chP l) 0 := by
  refine ⟨fun q hq => ?_, ?_, ?_, fun hl => ?_, h, fun i hi => ?_, by simp [chM]; omega, by simp [chP]; omega, fun t ht => ?_, fun q hq => ?_⟩
  · obtain ⟨i, hi, rfl⟩ := List.mem_map.mp hq
    exact List.mem_map.mpr ⟨i, List.mem_range.mpr (by have := List.mem_range.mp hi; omega), rfl⟩
  · unfold chP
    rw [List.map_map]
    unfold List.Nodup
    rw [List.pairwise_map]
    refine List.Pairwise.imp_of_mem (fun {i j} hi hj hlt e => ?_) List.pairwise_lt_range
    have h1 := List.mem_range.mp hi
    have h2 := List.mem_range.mp hj
    have := congrArg List.length e
    simp at this
    omega
  · exact List.mem_map.mpr ⟨l.length, by simp, by simp⟩
  · obtain ⟨q, hq, e⟩ := List.mem_map.mp hl
    obtain ⟨i, hi, rfl⟩ := List.mem_map.mp hq
    have := congrArg List.length e
    have h1 := List.mem_range.mp hi
    simp at this
    omega
  · exact List.mem_map.mpr ⟨i, List.mem_range.mpr hi, rfl⟩
  · obtain ⟨i, hi, rfl⟩ := List.mem_map.mp ht
    simp; omega
  · obtain ⟨i, hi, rfl⟩ := List.mem_map.mp hq
    simp; omega
theorem Wd.more {l : List Int} {M : List (List Int)} {P : List (List Int × List Int)} {k : Nat} (w : Wd l M P k) : Wd l M P (k + 1) :=
  ⟨w.keys, w.nd, w.lm, w.lk, w.ll, w.ch, by have := w.ml; omega, by have := w.pl; omega, fun t ht => by have := w.tl t ht; omega, fun q hq => by have := w.ql q hq; omega⟩
theorem Wd.child {l c : List Int} {M : List (List Int)} {P : List (List Int × List Int)} {k : Nat} (w : Wd l M P k) (hc : c.length ≤ 6 + 2 * (k + 1)) : Wd l (M ++ [c]) P (k + 1) :=
  ⟨fun q hq => List.mem_append.mpr (.inl (w.keys q hq)), w.nd, List.mem_append.mpr (.inl w.lm), w.lk, w.ll, w.ch, by have := w.ml; simp; omega, by have := w.pl; omega, fun t ht => by
    rcases List.mem_append.mp ht with ht | ht
    · have := w.tl t ht; omega
    · rw [List.mem_singleton.mp ht]; exact hc, fun q hq => by have := w.ql q hq; omega⟩
theorem Wd.both {l c o : List Int} {M : List (List Int)} {P : List (List Int × List Int)} {k : Nat} (w : Wd l M P k) (hn : c ∉ M) (hc : c.length ≤ 6 + 2 * (k + 1)) (ho : o.length ≤ 6 + 2 * (k + 1)) : Wd l (M ++ [c] ++ [o]) (P ++ [(c, o)]) (k + 1) := by
  have hcp : c ∉ P.map Prod.fst := fun h => by
    obtain ⟨q, hq, rfl⟩ := List.mem_map.mp h
    exact hn (w.keys q hq)
  refine ⟨fun q hq => ?_, ?_, by simp [w.lm], fun hl => ?_, w.ll, fun i hi => List.mem_append.mpr (.inl (w.ch i hi)), by have := w.ml; simp; omega, by have := w.pl; simp; omega, fun t ht => ?_, fun q hq => ?_⟩
  · rcases List.mem_append.mp hq with hq | hq
    · simp [w.keys q hq]
    · rw [List.mem_singleton.mp hq]; simp
  · rw [List.map_append]
    refine List.nodup_append.mpr ⟨w.nd, by simp, fun a ha b hb e => ?_⟩
    simp at hb
    subst hb e
    exact hcp ha
  · rw [List.map_append, List.mem_append] at hl
    rcases hl with hl | hl
    · exact w.lk hl
    · simp at hl
      subst hl
      exact hn w.lm
  · rcases List.mem_append.mp ht with ht | ht
    · rcases List.mem_append.mp ht with ht | ht
      · have := w.tl t ht; omega
      · rw [List.mem_singleton.mp ht]; exact hc
    · rw [List.mem_singleton.mp ht]; exact ho
  · rcases List.mem_append.mp hq with hq | hq
    · have := w.ql q hq; omega
    · rw [List.mem_singleton.mp hq]; exact ho
theorem loop_one (p : Pool) (n : Nat) (hn : n ≤ 6) : ∃ (p' : Pool) (l : List Int) (o4 o5 : Option D), mLoop (gNm 4) lb_l_tasks_1 (rngD 0 n) [some p.d, some (tiD []), some (.mls [tiD []]), some (.mls []), none, none, none, none, none, none] =
    some (.ok .nx [some p'.d, some (tiD l), some (.mls (tis (chM l))), some (.mls (prs (chP l))), o4, o5, none, none, none, none]) ∧ l.length = n := by
  obtain ⟨e', hlo, p', l, o4, o5, rfl, hl⟩ := loop_inv (g := gNm 4) (b := lb_l_tasks_1)
    (fun k e => ∃ (p : Pool) (l : List Int) (o4 o5 : Option D), e = [some p.d, some (tiD l), some (.mls (tis (chM l))), some (.mls (prs (chP l))), o4, o5, none, none, none, none] ∧ l.length = k) (rngD 0 n) 0 _ ⟨p, [], none, none, rfl, rfl⟩ fun k x e hk hI => by
      obtain ⟨p, l, o4, o5, rfl, hl⟩ := hI
      obtain ⟨hk1, rfl⟩ := rngD_get hk
      obtain ⟨r, p1, d1, a1, b1⟩ := draw_ok p (n := 12) (by omega) (by omega)
      have z1 : (tis (chM l)).length < 16777216 := by rw [tis_len]; simp [chM]; omega
      have z2 : (prs (chP l)).length < 16777216 := by rw [prs_len]; simp [chP]; omega
      have ad := tiD_add (l := l) (r := 1 + r) (by omega)
      refine ⟨_, .nx, [some p1.d, some (tiD (l ++ [1 + r])), some (.mls (tis (chM (l ++ [1 + r])))), some (.mls (prs (chP (l ++ [1 + r])))), some (.int (0 + (k : Int))), some (tiD (l ++ [1 + r])), none, none, none, none], rfl, ?_, .inl rfl, p1, _, _, _, rfl, by simp; omega⟩
      unfold lb_l_tasks_1
      rw [chM_snoc, chP_snoc]
      push_cast [d1, ad, tiD_fz, tiD_al, tiD_res, prD2_mk, prD2_fz, prD2_al, z1, z2, tis_snoc, prs_snoc]
  rw [rngD_length] at hl
  exact ⟨p', l, o4, o5, hlo, by omega⟩
theorem loop_two (l : List Int) (hll : l.length ≤ 6) (p : Pool) (o4 o5 : Option D) (n : Nat) (hn : n ≤ 7) : ∃ (p' : Pool) (M : List (List Int)) (P : List (List Int × List Int)) (q4 q5 o6 : Option D), mLoop (gNm 4) lb_l_tasks_2 (rngD 0 n) [some p.d, some (tiD l), some (.mls (tis (chM l))), some (.mls (prs (chP l))), o4, o5, none, none, none, none] =
    some (.ok .nx [some p'.d, some (tiD l), some (.mls (tis M)), some (.mls (prs P)), q4, q5, o6, none, none, none]) ∧ Wd l M P n := by
  obtain ⟨e', hlo, p', M, P, o4, o5, o6, rfl, hw⟩ := loop_inv (g := gNm 4) (b := lb_l_tasks_2)
    (fun k e => ∃ (p : Pool) (M : List (List Int)) (P : List (List Int × List Int)) (o4 o5 o6 : Option D), e = [some p.d, some (tiD l), some (.mls (tis M)), some (.mls (prs P)), o4, o5, o6, none, none, none] ∧ Wd l M P k) (rngD 0 n) 0 _ ⟨p, chM l, chP l, o4, o5, none, rfl, Wd.first hll⟩ fun k x e hk hI => by
      obtain ⟨p, M, P, o4, o5, o6, rfl, w⟩ := hI
      rw [Nat.zero_add] at w
      obtain ⟨hk1, rfl⟩ := rngD_get hk
      have hM0 : 0 < M.length := List.length_pos_of_mem w.lm
      have hM1 := w.ml
      have hP1 := w.pl
      obtain ⟨r, p1, d1, a1, b1⟩ := draw_ok p (n := ((tis M).length : Int)) (by rw [tis_len]; omega) (by rw [tis_len]; omega)
      obtain ⟨c0, hc0, _, hcm⟩ := atI_int (xs := tis M) a1 b1
      obtain ⟨t, ht, rfl⟩ := List.mem_map.mp hcm
      have htl := w.tl t ht
      obtain ⟨r2, p2, d2, a2, b2⟩ := draw_ok p1 (n := 12) (by omega) (by omega)
      have ad := tiD_add (l := t) (r := 1 + r2) (by omega)
      have nt := notin_tis (t ++ [1 + r2]) M
      by_cases hin : t ++ [1 + r2] ∈ M
      · rw [decide_eq_true hin, Bool.not_true] at nt
        refine ⟨_, .nx, [some p2.d, some (tiD l), some (.mls (tis M)), some (.mls (prs P)), some (.int (0 + (k : Int))), some (tiD (t ++ [1 + r2])), o6, none, none, none], rfl, ?_, .inl rfl, p2, _, _, _, _, _, rfl, by rw [Nat.zero_add]; exact w.more⟩
        unfold lb_l_tasks_2
        push_cast [d1, hc0, d2, ad, tiD_fz, tiD_al, tiD_res, nt]
      · rw [decide_eq_false hin, Bool.not_false] at nt
        obtain ⟨r3, p3, d3, a3, b3⟩ := draw_ok p2 (n := 3) (by omega) (by omega)
        have z1 : (tis M).length < 16777216 := by rw [tis_len]; omega
        by_cases h2 : r3 = 2
        · obtain ⟨r4, p4, d4, a4, b4⟩ := draw_ok p3 (n := 3) (by omega) (by omega)
          have ad2 := tiD_add (l := t ++ [1 + r2]) (r := 1 + r4) (by simp; omega)
          have z2 : (tis (M ++ [t ++ [1 + r2]])).length < 16777216 := by rw [tis_len]; simp; omega
          have z3 : (prs P).length < 16777216 := by rw [prs_len]; omega
          refine ⟨_, .nx, [some p4.d, some (tiD l), some (.mls (tis (M ++ [t ++ [1 + r2]] ++ [t ++ [1 + r2] ++ [1 + r4]]))), some (.mls (prs (P ++ [(t ++ [1 + r2], t ++ [1 + r2] ++ [1 + r4])]))), some (.int (0 + (k : Int))), some (tiD (t ++ [1 + r2])), some (tiD (t ++ [1 + r2] ++ [1 + r4])), none, none, none], rfl, ?_, .inl rfl, p4, _, _, _, _, _, rfl, by rw [Nat.zero_add]; exact w.both hin (by simp; omega) (by simp; omega)⟩
          unfold lb_l_tasks_2
          push_cast [d1, hc0, d2, ad, tiD_fz, tiD_al, tiD_res, nt, d3, h2, d4, ad2, z1, z2, z3, prD2_mk, prD2_fz, prD2_al, tis_snoc, prs_snoc]
        · refine ⟨_, .nx, [some p3.d, some (tiD l), some (.mls (tis (M ++ [t ++ [1 + r2]]))), some (.mls (prs P)), some (.int (0 + (k : Int))), some (tiD (t ++ [1 + r2])), o6, none, none, none], rfl, ?_, .inl rfl, p3, _, _, _, _, _, rfl, by rw [Nat.zero_add]; exact w.child (by simp; omega)⟩
          unfold lb_l_tasks_2
          push_cast [d1, hc0, d2, ad, tiD_fz, tiD_al, tiD_res, nt, d3, eq_false h2, z1, tis_snoc]
  rw [rngD_length, Nat.zero_add] at hw
  exact ⟨p', M, P, o4, o5, o6, hlo, hw⟩
/-! ### _law_tasks, _law_waits, _law_chosen -/
theorem tkf_tiD (l : List Int) (e : Env) : tkf (tiD l) e = some (tiD l, e) := nr rfl
/-- a comprehension by a test and a map -/
theorem cl_by {α : Type} {g : MG} {t : MT} {el : ME} {own : List Nat} {e : Env} (f h : α → D) (Z : α → Bool) : ∀ (xs : List α) (acc : List D), acc.length + xs.length < 16777216 → (∀ x ∈ xs, ∃ e1 e2, g (f x) e = some e1 ∧ t e1 = some (.ok (Z x) e2) ∧ ((Z x = false ∧ wipeE e2 own = e) ∨ (Z x = true ∧ isFz (h x) = true ∧ ∃ e3, el e2 = some (.ok (h x) e3) ∧ wipeE e3 own = e))) →
    mCl g t el own (xs.map f) acc e = some (acc ++ (xs.filter Z).map h, e)
  | [], acc, _, _ => by simp [cl_nil]
  | x :: xs, acc, hl, hs => by
    obtain ⟨e1, e2, h1, h2, h3⟩ := hs x (by simp)
    rw [List.map_cons, cl_cons, h1, kQ_ok, h2]
    rw [List.length_cons] at hl
    rcases h3 with ⟨hz, h4⟩ | ⟨hz, hf, e3, h4, h5⟩
    · rw [hz, kQ2_f, h4, cl_by f h Z xs acc (by omega) fun y hy => hs y (List.mem_cons_of_mem _ hy), List.filter_cons, hz, if_neg Bool.false_ne_true]
    · rw [hz, kQ2_t, h4, kQ3_ok, tkf_fz hf, kQ4_ok (by omega), h5, cl_by f h Z xs _ (by rw [List.length_append]; simp; omega) fun y hy => hs y (List.mem_cons_of_mem _ hy), List.filter_cons, hz, if_pos rfl]
      simp
/-- the world that _law_tasks tells -/
structure Wrld (R : List (List Int)) (P : List (List Int × List Int)) (l : List Int) : Prop where
  r0 : 0 < R.length
  rl : R.length ≤ 100
  rt : ∀ t ∈ R, t.length ≤ 100
  nd : (P.map Prod.fst).Nodup
  pl : P.length ≤ 100
  lk : l ∉ P.map Prod.fst
  ll : l.length ≤ 6
  ch : ∀ i < l.length, (l.take i, l.take (i + 1)) ∈ P
  ql : ∀ q ∈ P, q.2.length ≤ 100
theorem tasks_ok (p : Pool) : ∃ (R : List (List Int)) (P : List (List Int × List Int)) (l : List Int) (p' : Pool), m_l_tasks [p.d] = some (.ok (.mls [.lst (tis R), .lst (prs P), tiD l]) [p'.d]) ∧ Wrld R P l := by
  unfold m_l_tasks mb_l_tasks
  rw [ev_fun (by rfl) (by rfl)]
  obtain ⟨r1, p1, d1, a1, b1⟩ := draw_ok p (n := 7) (by omega) (by omega)
  obtain ⟨p2, l, o4, o5, hA, hl⟩ := loop_one p1 r1.toNat (by omega)
  obtain ⟨r2, p3, d3, a3, b3⟩ := draw_ok p2 (n := 8) (by omega) (by omega)
  obtain ⟨p4, M, P, o4', o5', o6, hB, w⟩ := loop_two l (by omega) p3 o4 o5 r2.toNat (by omega)
  have hM := w.ml
  have hP := w.pl
  have c1 := cl_by (g := gNm 8) (t := fun e => some (.ok true e)) (el := le_l_tasks_1) (own := [8]) (e := [some p4.d, some (tiD l), some (.mls (tis M)), some (.lst (prs P)), o4', o5', o6, none, none, none]) prD2 (fun q => tiD q.1) (fun _ => true) P [] (by simp; omega) fun q hq =>
    ⟨_, _, rfl, rfl, .inr ⟨rfl, rfl, [some p4.d, some (tiD l), some (.mls (tis M)), some (.lst (prs P)), o4', o5', o6, none, some (prD2 q), none], by
      unfold le_l_tasks_1
      push_cast [prD2_fz, prD2_res, prD2_0], rfl⟩⟩
  have e1 : (P.filter fun _ => true).map (fun q => tiD q.1) = tis (P.map Prod.fst) := by
    have : (P.filter fun _ => true) = P := List.filter_eq_self.mpr fun _ _ => rfl
    rw [this]; simp only [tis, List.map_map]; rfl
  rw [e1] at c1
  have c2 := cl_by (g := gNm 9) (t := lt_l_tasks_1) (el := le_l_tasks_2) (own := [9]) (e := [some p4.d, some (tiD l), some (.lst (tis M)), some (.lst (prs P)), o4', o5', o6, some (.mls (tis (P.map Prod.fst))), none, none]) tiD tiD (fun c => !decide (c ∈ P.map Prod.fst)) M [] (by simp; omega) fun c hc =>
    ⟨_, [some p4.d, some (tiD l), some (.lst (tis M)), some (.lst (prs P)), o4', o5', o6, some (.mls (tis (P.map Prod.fst))), none, some (tiD c)], rfl, by
      unfold lt_l_tasks_1
      push_cast [tiD_fz, tiD_res, notin_tis], by
      by_cases hz : c ∈ P.map Prod.fst
      · exact .inl ⟨by simpa using hz, rfl⟩
      · refine .inr ⟨by simpa using hz, rfl, [some p4.d, some (tiD l), some (.lst (tis M)), some (.lst (prs P)), o4', o5', o6, some (.mls (tis (P.map Prod.fst))), none, some (tiD c)], ?_, rfl⟩
        unfold le_l_tasks_2
        push_cast [tiD_fz]⟩
  obtain ⟨R, hs, hRl, hRm⟩ := sort_tis (M.filter fun c => !decide (c ∈ P.map Prod.fst))
  have e2 : (M.filter fun c => !decide (c ∈ P.map Prod.fst)).map tiD = tis (M.filter fun c => !decide (c ∈ P.map Prod.fst)) := rfl
  rw [e2] at c2
  have hlM : l ∈ M.filter fun c => !decide (c ∈ P.map Prod.fst) := List.mem_filter.mpr ⟨w.lm, by simpa using w.lk⟩
  have hfl : (M.filter fun c => !decide (c ∈ P.map Prod.fst)).length ≤ M.length := List.length_filter_le _ _
  refine ⟨R, P, l, p4, ?_, by rw [hRl]; exact List.length_pos_of_mem hlM, by omega, fun t ht => ?_, w.nd, by omega, w.lk, by omega, w.ch, fun q hq => by have := w.ql q hq; omega⟩
  · have h1 : -4611686018427387904 ≤ r1 ∧ r1 < 4611686018427387904 := by omega
    have h2 : -4611686018427387904 ≤ r2 ∧ r2 < 4611686018427387904 := by omega
    have c1' : mCl (gNm 8) (fun e => some (.ok true e)) le_l_tasks_1 [8] (prs P) [] [some p4.d, some (tiD l), some (.mls (tis M)), some (.lst (prs P)), o4', o5', o6, none, none, none] = some (tis (P.map Prod.fst), [some p4.d, some (tiD l), some (.mls (tis M)), some (.lst (prs P)), o4', o5', o6, none, none, none]) := c1
    have c2' : mCl (gNm 9) lt_l_tasks_1 le_l_tasks_2 [9] (tis M) [] [some p4.d, some (tiD l), some (.lst (tis M)), some (.lst (prs P)), o4', o5', o6, some (.mls (tis (P.map Prod.fst))), none, none] = some (tis (M.filter fun c => !decide (c ∈ P.map Prod.fst)), [some p4.d, some (tiD l), some (.lst (tis M)), some (.lst (prs P)), o4', o5', o6, some (.mls (tis (P.map Prod.fst))), none, none]) := c2
    push_cast [tiD_nil, tiD_fz, tiD_al, d1, h1, hA, d3, h2, hB, c1', c2', hs]
  · have := w.tl t (List.mem_filter.mp (hRm t ht)).1
    omega
/-! ### the waits -/
def kyI (l : List Int) : List Key := l.map Sum.inl
def wK (P : List (List Int × List Int)) : List (List Key) := P.map fun q => kyI q.1
def wV (P : List (List Int × List Int)) : List D := P.map fun q => tiD q.2
theorem kyI_inj {a b : List Int} (h : kyI a = kyI b) : a = b := by
  unfold kyI at h
  induction a generalizing b with
  | nil => cases b with
    | nil => rfl
    | cons y b => cases h
  | cons x a ih => cases b with
    | nil => cases h
    | cons y b =>
      rw [List.map_cons, List.map_cons] at h
      injection h with h1 h2
      injection h1 with h1
      rw [h1, ih h2]
theorem keys_ti (l : List Int) : keysD (tiD l) = some (kyI l) := by
  show (l.map D.int).mapM keyD = some (kyI l)
  induction l with
  | nil => rfl
  | cons x l ih =>
    rw [List.map_cons, List.mapM_cons, ih]
    rfl
theorem keys_ti' (l : List Int) : keysD (.tup (l.map D.int)) = some (kyI l) := keys_ti l
theorem wK_len (P : List (List Int × List Int)) : (wK P).length = P.length := by simp [wK]
theorem hasK_w (P : List (List Int × List Int)) (c : List Int) : hasK (wK P) (kyI c) = decide (c ∈ P.map Prod.fst) := by
  by_cases h : c ∈ P.map Prod.fst
  · rw [decide_eq_true h]
    obtain ⟨q, hq, rfl⟩ := List.mem_map.mp h
    exact hasK_of (List.mem_map.mpr ⟨q, hq, rfl⟩)
  · rw [decide_eq_false h]
    refine hasK_no fun hk => h ?_
    obtain ⟨q, hq, e⟩ := List.mem_map.mp hk
    exact List.mem_map.mpr ⟨q, hq, kyI_inj e⟩
theorem find_w : ∀ {P : List (List Int × List Int)} {q : List Int × List Int}, (P.map Prod.fst).Nodup → q ∈ P → findD (wK P) (wV P) (kyI q.1) = some (tiD q.2)
  | [], q, _, h => by cases h
  | r :: P, q, nd, h => by
    show (if kyI r.1 = kyI q.1 then some (tiD r.2) else findD (wK P) (wV P) (kyI q.1)) = _
    rw [List.map_cons, List.nodup_cons] at nd
    rcases List.mem_cons.mp h with rfl | h
    · rw [if_pos rfl]
    · rw [if_neg fun e => nd.1 (by rw [kyI_inj e]; exact List.mem_map.mpr ⟨q, h, rfl⟩)]
      exact find_w nd.2 h
theorem in_w (P : List (List Int × List Int)) (c : List Int) : dIn (tiD c) (.mdt (wK P) (wV P)) = some (.bl (decide (c ∈ P.map Prod.fst))) := by
  have : inD (tiD c) (.mdt (wK P) (wV P)) = (match keysD (tiD c) with | some k => some (hasK (wK P) k) | none => none) := rfl
  unfold dIn
  rw [this, keys_ti]
  show (some (hasK (wK P) (kyI c))).map D.bl = _
  rw [hasK_w]; rfl
theorem ix_w {P : List (List Int × List Int)} {q : List Int × List Int} (nd : (P.map Prod.fst).Nodup) (h : q ∈ P) : dIx (.mdt (wK P) (wV P)) (tiD q.1) = some (tiD q.2) := by
  have : dIx (.mdt (wK P) (wV P)) (tiD q.1) = (match keysD (tiD q.1) with | some k => findD (wK P) (wV P) k | none => none) := rfl
  rw [this, keys_ti]
  exact find_w nd h
theorem get_w {P : List (List Int × List Int)} {q : List Int × List Int} (nd : (P.map Prod.fst).Nodup) (h : q ∈ P) : dGet1 (.mdt (wK P) (wV P)) (tiD q.1) = some (tiD q.2) := by
  have : dGet1 (.mdt (wK P) (wV P)) (tiD q.1) = (match keysD (tiD q.1) with | some k => some ((findD (wK P) (wV P) k).getD .non) | none => none) := rfl
  rw [this, keys_ti]
  show some ((findD (wK P) (wV P) (kyI q.1)).getD .non) = _
  rw [find_w nd h]; rfl
theorem put_w {P : List (List Int × List Int)} {q : List Int × List Int} (h : q.1 ∉ P.map Prod.fst) : putKs (wK P) (kyI q.1) = wK (P ++ [q]) ∧ putDs (wK P) (wV P) (kyI q.1) (tiD q.2) = wV (P ++ [q]) := by
  have e : hasK (wK P) (kyI q.1) = false := by rw [hasK_w, decide_eq_false h]
  unfold putKs putDs
  rw [e]
  simp [wK, wV]
theorem waits_ok {P : List (List Int × List Int)} (nd : (P.map Prod.fst).Nodup) (hl : P.length ≤ 100) : m_l_waits [.lst (prs P)] = some (.ok (.mdt (wK P) (wV P)) [.lst (prs P)]) := by
  unfold m_l_waits mb_l_waits
  rw [ev_fun (by rfl) (by rfl)]
  obtain ⟨e', hlo, o, rfl⟩ := loop_inv (g := gNm 2) (b := lb_l_waits_1)
    (fun k e => ∃ o : Option D, e = [some (.lst (prs P)), some (.mdt (wK (P.take k)) (wV (P.take k))), o]) (prs P) 0 [some (.lst (prs P)), some (.mdt [] []), none] ⟨none, rfl⟩ fun k x e hk hI => by
      obtain ⟨o, rfl⟩ := hI
      rw [Nat.zero_add] at *
      unfold prs at hk
      rw [List.getElem?_map] at hk
      obtain ⟨q, hq, rfl⟩ := Option.map_eq_some_iff.mp hk
      obtain ⟨hkl, hqe⟩ := List.getElem?_eq_some_iff.mp hq
      have ht : P.take (k + 1) = P.take k ++ [q] := by rw [List.take_add_one, hq]; rfl
      have hn : q.1 ∉ (P.take k).map Prod.fst := fun hm => by
        have h1 : ((P.take k ++ [q]).map Prod.fst).Nodup := by
          rw [← ht, List.map_take]
          exact nd.sublist (List.take_sublist _ _)
        rw [List.map_append, List.nodup_append] at h1
        exact h1.2.2 _ hm q.1 (by simp) rfl
      obtain ⟨h1, h2⟩ := put_w hn
      have hz : (wK (P.take k)).length < 1000000 := by rw [wK_len]; simp; omega
      refine ⟨_, .nx, [some (.lst (prs P)), some (.mdt (wK (P.take (k + 1))) (wV (P.take (k + 1)))), some (prD2 q)], rfl, ?_, .inl rfl, _, rfl⟩
      unfold lb_l_waits_1
      rw [ht, ← h1, ← h2]
      have hx : ∀ e : Env, kTt1 (some (.ok (tiD q.1) e)) 1 (tiD q.2) = kTt2 e[1]? (q.1.map D.int) 1 (tiD q.2) e := fun e => rfl
      push_cast [prD2_fz, prD2_res, prD2_0, prD2_1, tiD_fz, tiD_al, tiD_res, hx, keys_ti', hz]
  rw [prs_len, Nat.zero_add, List.take_of_length_le (Nat.le_refl _)] at hlo
  push_cast [hlo]
/-! ### the picks -/
def chI (W : List Int) (c : Int) : Int := if c < W.length then (W[c.toNat]?).getD 0 else 0
def sel (R : List (List Int)) (n : Int) : List Int := (R[(n % (R.length : Int)).toNat]?).getD []
theorem at_w {W : List Int} {c : Int} (h0 : 0 ≤ c) (h : c < W.length) : atI (W.map D.int) c = some (.int (chI W c)) := by
  have hl : c.toNat < W.length := by omega
  have e : c = (c.toNat : Int) := by omega
  rw [e]
  refine atI_nat ?_
  rw [List.getElem?_map]
  unfold chI
  rw [← e, if_pos h, List.getElem?_eq_getElem hl]
  rfl
theorem at_r {R : List (List Int)} (h : 0 < R.length) (n : Int) : atI (tis R) (n % ((tis R).length : Int)) = some (tiD (sel R n)) := by
  rw [tis_len]
  have h0 : 0 ≤ n % (R.length : Int) := Int.emod_nonneg _ (by omega)
  have h1 : n % (R.length : Int) < R.length := Int.emod_lt_of_pos _ (by omega)
  have hl : (n % (R.length : Int)).toNat < R.length := by omega
  have e : n % (R.length : Int) = ((n % (R.length : Int)).toNat : Int) := by omega
  unfold sel
  rw [e]
  refine atI_nat ?_
  unfold tis
  rw [List.getElem?_map, ← e, List.getElem?_eq_getElem hl]
  rfl
theorem sel_mem {R : List (List Int)} (h : 0 < R.length) (n : Int) : sel R n ∈ R := by
  have h0 : 0 ≤ n % (R.length : Int) := Int.emod_nonneg _ (by omega)
  have h1 : n % (R.length : Int) < R.length := Int.emod_lt_of_pos _ (by omega)
  have hl : (n % (R.length : Int)).toNat < R.length := by omega
  unfold sel
  rw [List.getElem?_eq_getElem hl]
  exact List.getElem_mem hl
theorem chosen_ok {R : List (List Int)} {W : List Int} {c : Int} (h : 0 < R.length) (h0 : 0 ≤ c) : m_l_chosen [.lst (tis R), .lst (W.map D.int), .int c] = some (.ok (tiD (sel R (chI W c))) [.lst (tis R), .lst (W.map D.int), .int c]) := by
  unfold m_l_chosen mb_l_chosen
  rw [ev_fun (by rfl) (by rfl)]
  have hp : 0 < ((tis R).length : Int) := by rw [tis_len]; omega
  have hw : (W.map D.int).length = W.length := by simp
  by_cases hc : c < W.length
  · push_cast [hw, hc, at_w h0 hc, hp, at_r h, tiD_fz]
  · have : chI W c = 0 := by unfold chI; rw [if_neg hc]
    rw [this]
    push_cast [hw, eq_false hc, hp, at_r h, tiD_fz]
theorem woven_ok {R : List (List Int)} {W : List Int} {c : Int} {ks : List (List Key)} {ds : List D} (h : 0 < R.length) (h0 : 0 ≤ c) : m_WovenTasks_pick [.obj 101 [(st [119, 101, 97, 118, 105, 110, 103])] [.tup (W.map D.int)], .int c, .mls (tis R), .mdt ks ds] = some (.ok (tiD (sel R (chI W c))) [.obj 101 [(st [119, 101, 97, 118, 105, 110, 103])] [.tup (W.map D.int)], .int c, .mls (tis R), .mdt ks ds]) := by
  unfold m_WovenTasks_pick mb_WovenTasks_pick
  rw [ev_fun (by rfl) (by rfl)]
  have hp : 0 < ((tis R).length : Int) := by rw [tis_len]; omega
  have hw : (W.map D.int).length = W.length := by simp
  have hf : dFld fc_weaving (st [119, 101, 97, 118, 105, 110, 103]) (.obj 101 [(st [119, 101, 97, 118, 105, 110, 103])] [.tup (W.map D.int)]) = some (.tup (W.map D.int)) := by
    rw [dFld_obj (by decide)]
    simp [findD]
  by_cases hc : c < W.length
  · push_cast [hf, hw, hc, at_w h0 hc, hp, at_r h, tiD_fz]
  · have : chI W c = 0 := by unfold chI; rw [if_neg hc]
    rw [this]
    push_cast [hf, hw, eq_false hc, hp, at_r h, tiD_fz]
theorem wait_loop {P : List (List Int × List Int)} {l : List Int} (nd : (P.map Prod.fst).Nodup) (lk : l ∉ P.map Prod.fst) (ch : ∀ i < l.length, (l.take i, l.take (i + 1)) ∈ P) (a0 a1 a2 : Option D) : ∀ (j i : Nat), i + j = l.length → ∀ n, j < n →
    mWh lc_WaitTasks_pick_1 lb_WaitTasks_pick_1 n [a0, a1, a2, some (.mdt (wK P) (wV P)), some (tiD (l.take i))] = some (.ok .nx [a0, a1, a2, some (.mdt (wK P) (wV P)), some (tiD l)])
  | 0, i, hi, n, hn => by
    obtain ⟨n, rfl⟩ : ∃ m, n = m + 1 := ⟨n - 1, by omega⟩
    have : l.take i = l := List.take_of_length_le (by omega)
    rw [this, wh_succ]
    have hin := in_w P l
    rw [decide_eq_false lk] at hin
    unfold lc_WaitTasks_pick_1
    push_cast [tiD_fz, tiD_res, hin]
  | j + 1, i, hi, n, hn => by
    obtain ⟨n, rfl⟩ : ∃ m, n = m + 1 := ⟨n - 1, by omega⟩
    have hm := ch i (by omega)
    have hin := in_w P (l.take i)
    rw [decide_eq_true (List.mem_map.mpr ⟨_, hm, rfl⟩)] at hin
    have hix := ix_w nd hm
    have ih := wait_loop nd lk ch a0 a1 a2 j (i + 1) (by omega) n (by omega)
    have ht : lc_WaitTasks_pick_1 [a0, a1, a2, some (.mdt (wK P) (wV P)), some (tiD (l.take i))] = some (.ok true [a0, a1, a2, some (.mdt (wK P) (wV P)), some (tiD (l.take i))]) := by
      unfold lc_WaitTasks_pick_1
      push_cast [tiD_fz, tiD_res, hin]
    have hb : lb_WaitTasks_pick_1 [a0, a1, a2, some (.mdt (wK P) (wV P)), some (tiD (l.take i))] = some (.ok .nx [a0, a1, a2, some (.mdt (wK P) (wV P)), some (tiD (l.take (i + 1)))]) := by
      unfold lb_WaitTasks_pick_1
      push_cast [tiD_fz, tiD_res, hix]
    rw [wh_succ, ht, kWh_t, hb, kWh2_nx]
    exact ih
theorem wait_ok {R : List (List Int)} {P : List (List Int × List Int)} {l : List Int} {c : Int} (w : Wrld R P l) : m_WaitTasks_pick [.obj 102 [] [], .int c, .mls (tis R), .mdt (wK P) (wV P)] = some (.ok (tiD l) [.obj 102 [] [], .int c, .mls (tis R), .mdt (wK P) (wV P)]) := by
  unfold m_WaitTasks_pick mb_WaitTasks_pick
  rw [ev_fun (by rfl) (by rfl)]
  have h := wait_loop w.nd w.lk w.ch (some (.obj 102 [] [])) (some (.int c)) (some (.mls (tis R))) l.length 0 (by omega) wFuel (by unfold wFuel; have := w.ll; omega)
  rw [List.take_zero] at h
  push_cast [tiD_nil, tiD_fz, tiD_al, h]
theorem init_ok (x : D) (W : List Int) (hx : x = .mls (W.map D.int) ∨ x = .tup (W.map D.int)) : m_WovenTasks___init__ [.mob 101 [] [], x] = some (.ok .non [.mob 101 [(st [119, 101, 97, 118, 105, 110, 103])] [.tup (W.map D.int)], x]) := by
  unfold m_WovenTasks___init__ mb_WovenTasks___init__
  rw [ev_fun (by rfl) (by rfl)]
  have hc : fc_weaving.contains 101 = true := by decide
  rcases hx with rfl | rfl
  · push_cast [hc]
  · push_cast [hc]
/-! ### _law_picked -/
theorem Sm.ints {n : Nat} (l : List Int) (hl : l.length ≤ 16777216) : Sm (n + 1) (.tup (l.map D.int)) (.tup (l.map D.int)) := .tup rfl (by simpa using hl) fun i x y e1 e2 => by
  rw [e1] at e2; cases e2
  obtain ⟨s, _, rfl⟩ := List.mem_map.mp (List.mem_of_getElem? e1)
  exact .int s
theorem same_ti {l : List Int} (hl : l.length ≤ 100) : m_l_same 8 [tiD l, tiD l] = some (.ok (.bl true) [tiD l, tiD l]) := same_ok (Sm.ints (n := 6) l (by omega))
theorem eq_ti (l : List Int) : dEq (tiD l) (tiD l) = some (.bl true) := by
  have : eqD (tiD l) (tiD l) = some (PyData.eqv (tiD l).toP (tiD l).toP) := by
    have h : (tiD l).okP = true ∧ (tiD l).okP = true ∧ SeqAt.shaped (tiD l).toP = true ∧ SeqAt.shaped (tiD l).toP = true := ⟨okP_ti l, okP_ti l, by rw [toP_ti]; exact shaped_ti l, by rw [toP_ti]; exact shaped_ti l⟩
    show (if _ then _ else _) = _
    rw [if_pos h]
  unfold dEq
  rw [this, toP_ti, eqv_ti, decide_eq_true rfl]; rfl
theorem eqv_tis : ∀ M : List (List Int), PyData.eqvAll (M.map fun l => PyData.tuple (l.map PyData.int)) (M.map fun l => PyData.tuple (l.map PyData.int)) = true
  | [] => by simp [PyData.eqvAll]
  | l :: M => by rw [List.map_cons, PyData.eqvAll, eqv_tis M, eqv_ti, decide_eq_true rfl]; rfl
theorem ne_tis (M : List (List Int)) : dNe (.mls (tis M)) (.lst (tis M)) = some (.bl false) := by
  have h1 : (D.mls (tis M)).toP = .list (M.map fun l => PyData.tuple (l.map PyData.int)) := by rw [D.toP, toPs_tis]
  have h2 : (D.lst (tis M)).toP = .list (M.map fun l => PyData.tuple (l.map PyData.int)) := by rw [D.toP, toPs_tis]
  have h3 : (D.mls (tis M)).okP = true := by rw [D.okP]; exact okPs_tis M
  have h4 : (D.lst (tis M)).okP = true := by rw [D.okP]; exact okPs_tis M
  have : eqD (.mls (tis M)) (.lst (tis M)) = some (PyData.eqv (D.mls (tis M)).toP (D.lst (tis M)).toP) := by
    show (if _ then _ else _) = _
    rw [if_pos ⟨h3, h4, by rw [h1]; exact shaped_tis M, by rw [h2]; exact shaped_tis M⟩]
  unfold dNe
  rw [this, h1, h2, PyData.eqv, eqv_tis]; rfl
theorem all_true {α : Type} (l : List α) : dAll [.mls (l.map fun _ => D.bl true)] = some (.bl true) := by
  have h : ∀ l : List α, (l.map fun _ => D.bl true).all isBl = true ∧ (l.map fun _ => D.bl true).all unBl = true := fun l => by
    induction l with
    | nil => exact ⟨rfl, rfl⟩
    | cons x l ih => exact ⟨by rw [List.map_cons, List.all_cons, ih.1]; rfl, by rw [List.map_cons, List.all_cons, ih.2]; rfl⟩
  simp only [dAll, lsD, (h l).1, (h l).2, if_true]
def wvO (W : List Int) : D := .obj 101 [(st [119, 101, 97, 118, 105, 110, 103])] [.tup (W.map D.int)]
def wtO : D := .obj 102 [] []
theorem wvO_fz (W : List Int) : isFz (wvO W) = true := nr rfl
theorem wvO_al (W : List Int) : isAl (wvO W) = false := nr rfl
theorem wvO_res (W : List Int) (e : Env) : res e (wvO W) = some (wvO W) := nr rfl
theorem wvO_ob (W : List Int) : objD (wvO W) = some (101, [(st [119, 101, 97, 118, 105, 110, 103])], [.tup (W.map D.int)]) := nr rfl
theorem wtO_fz : isFz wtO = true := nr rfl
theorem wtO_al : isAl wtO = false := nr rfl
theorem wtO_res (e : Env) : res e wtO = some wtO := nr rfl
theorem wtO_ob : objD wtO = some (102, [], []) := nr rfl
theorem tab1 : tab_pick 101 = some m_WovenTasks_pick := nr rfl
theorem tab2 : tab_pick 102 = some m_WaitTasks_pick := nr rfl
theorem noPick : hasK [(st [119, 101, 97, 118, 105, 110, 103])] (st [112, 105, 99, 107]) = false := by decide +kernel
theorem noPick0 : hasK ([] : List Str) (st [112, 105, 99, 107]) = false := nr rfl
theorem picked_it {R : List (List Int)} {P : List (List Int × List Int)} {l : List Int} (w : Wrld R P l) (W0 W1 : List Int) {c : Int} (h0 : 0 ≤ c) (a1 a2 a4 a5 a6 a11 : Option D) (k : Int) (hk : k = 0 ∨ k = 1 ∨ k = 2) :
    lb_l_picked_1 [some (.mls [wvO W0, wvO W1, wtO]), a1, a2, some (.int c), a4, a5, a6, some (.mls (tis R)), some (.mdt (wK P) (wV P)), some (.mls [tiD (sel R (chI W0 c)), tiD (sel R (chI W1 c)), tiD l]), some (.int k), a11] =
    some (.ok .nx [some (.mls [wvO W0, wvO W1, wtO]), a1, a2, some (.int c), a4, a5, a6, some (.mls (tis R)), some (.mdt (wK P) (wV P)), some (.mls [tiD (sel R (chI W0 c)), tiD (sel R (chI W1 c)), tiD l]), some (.int k), a11]) := by
  have k0 : m_WovenTasks_pick [wvO W0, .int c, .mls (tis R), .mdt (wK P) (wV P)] = some (.ok (tiD (sel R (chI W0 c))) [wvO W0, .int c, .mls (tis R), .mdt (wK P) (wV P)]) := woven_ok w.r0 h0
  have k1 : m_WovenTasks_pick [wvO W1, .int c, .mls (tis R), .mdt (wK P) (wV P)] = some (.ok (tiD (sel R (chI W1 c))) [wvO W1, .int c, .mls (tis R), .mdt (wK P) (wV P)]) := woven_ok w.r0 h0
  have k2 : m_WaitTasks_pick [wtO, .int c, .mls (tis R), .mdt (wK P) (wV P)] = some (.ok (tiD l) [wtO, .int c, .mls (tis R), .mdt (wK P) (wV P)]) := wait_ok w
  have s0 := same_ti (w.rt _ (sel_mem w.r0 (chI W0 c)))
  have s1 := same_ti (w.rt _ (sel_mem w.r0 (chI W1 c)))
  have s2 := same_ti (l := l) (by have := w.ll; omega)
  unfold lb_l_picked_1
  have i0 : ∀ (α : Type) (x y z : α), atI [x, y, z] 0 = some x := fun _ _ _ _ => rfl
  have i1 : ∀ (α : Type) (x y z : α), atI [x, y, z] 1 = some y := fun _ _ _ _ => rfl
  have i2 : ∀ (α : Type) (x y z : α), atI [x, y, z] 2 = some z := fun _ _ _ _ => rfl
  rcases hk with rfl | rfl | rfl
  · push_cast [i0, wvO_fz, wvO_al, wvO_res, wvO_ob, noPick, tab1, k0, tiD_fz, tiD_al, tiD_res, s0]
  · push_cast [i1, wvO_fz, wvO_al, wvO_res, wvO_ob, noPick, tab1, k1, tiD_fz, tiD_al, tiD_res, s1]
  · push_cast [i2, wtO_fz, wtO_al, wtO_res, wtO_ob, noPick0, tab2, k2, tiD_fz, tiD_al, tiD_res, s2]
theorem picked_loop {R : List (List Int)} {P : List (List Int × List Int)} {l : List Int} (w : Wrld R P l) (W0 W1 : List Int) {c : Int} (h0 : 0 ≤ c) (a1 a2 a4 a5 a6 a11 : Option D) :
    ∃ o10, mLoop (gNm 10) lb_l_picked_1 [.int 0, .int 2, .int 1, .int 0, .int 2] [some (.mls [wvO W0, wvO W1, wtO]), a1, a2, some (.int c), a4, a5, a6, some (.mls (tis R)), some (.mdt (wK P) (wV P)), some (.mls [tiD (sel R (chI W0 c)), tiD (sel R (chI W1 c)), tiD l]), none, a11] =
    some (.ok .nx [some (.mls [wvO W0, wvO W1, wtO]), a1, a2, some (.int c), a4, a5, a6, some (.mls (tis R)), some (.mdt (wK P) (wV P)), some (.mls [tiD (sel R (chI W0 c)), tiD (sel R (chI W1 c)), tiD l]), o10, a11]) := by
  obtain ⟨e', hlo, o, rfl⟩ := loop_inv (g := gNm 10) (b := lb_l_picked_1)
    (fun _ e => ∃ o : Option D, e = [some (.mls [wvO W0, wvO W1, wtO]), a1, a2, some (.int c), a4, a5, a6, some (.mls (tis R)), some (.mdt (wK P) (wV P)), some (.mls [tiD (sel R (chI W0 c)), tiD (sel R (chI W1 c)), tiD l]), o, a11]) [.int 0, .int 2, .int 1, .int 0, .int 2] 0 _ ⟨none, rfl⟩ fun k x e hk hI => by
      obtain ⟨o, rfl⟩ := hI
      obtain ⟨j, rfl, hj⟩ : ∃ j : Int, x = .int j ∧ (j = 0 ∨ j = 1 ∨ j = 2) := by
        have hm := List.mem_of_getElem? hk
        simp only [List.mem_cons, List.not_mem_nil, or_false] at hm
        rcases hm with rfl | rfl | rfl | rfl | rfl <;> exact ⟨_, rfl, by omega⟩
      exact ⟨_, .nx, _, rfl, picked_it w W0 W1 h0 a1 a2 a4 a5 a6 a11 j hj, .inl rfl, _, rfl⟩
  exact ⟨o, hlo⟩
theorem picked_ok {R : List (List Int)} {P : List (List Int × List Int)} {l : List Int} (w : Wrld R P l) (W0 W1 : List Int) {c : Int} (h0 : 0 ≤ c) (x : D) (hx : x = .mls [.lst (tis R), .lst (prs P), tiD l] ∨ x = .lst [.lst (tis R), .lst (prs P), tiD l]) :
    m_l_picked [.mls [wvO W0, wvO W1, wtO], .mls [.lst (W0.map D.int), .lst (W1.map D.int)], x, .int c] = some (.ok (.bl true) [.mls [wvO W0, wvO W1, wtO], .mls [.lst (W0.map D.int), .lst (W1.map D.int)], .lst [.lst (tis R), .lst (prs P), tiD l], .int c]) := by
  unfold m_l_picked mb_l_picked
  have hw := waits_ok w.nd w.pl
  have c0 := chosen_ok (W := W0) w.r0 h0
  have c1 := chosen_ok (W := W1) w.r0 h0
  have hP := w.pl
  obtain ⟨o10, hlo⟩ := picked_loop w W0 W1 h0 (some (.mls [.lst (W0.map D.int), .lst (W1.map D.int)])) (some (.lst [.lst (tis R), .lst (prs P), tiD l])) (some (.lst (tis R))) (some (.lst (prs P))) (some (tiD l)) none
  obtain ⟨ks, hks⟩ : ∃ ks : List D, [.int 0, .int 2, .int 1, .int 0, .int 2] = ks := ⟨_, rfl⟩
  have hkt : ∀ e, tkfA ks e = some (ks, e) := by
    intro e
    rw [← hks]
    walk_at "ev"
  have hkl : ks.length ≤ 16777216 := by rw [← hks]; simp
  rw [hks] at hlo
  have cc := cl_by (g := gNm 11) (t := fun e => some (.ok true e)) (el := le_l_picked_1) (own := [11]) (e := [some (.mls [wvO W0, wvO W1, wtO]), some (.mls [.lst (W0.map D.int), .lst (W1.map D.int)]), some (.lst [.lst (tis R), .lst (prs P), tiD l]), some (.int c), some (.lst (tis R)), some (.lst (prs P)), some (tiD l), some (.mls (tis R)), some (.mdt (wK P) (wV P)), some (.mls [tiD (sel R (chI W0 c)), tiD (sel R (chI W1 c)), tiD l]), o10, none]) prD2 (fun _ => .bl true) (fun _ => true) P [] (by simp; omega) fun q hq =>
    ⟨_, _, rfl, rfl, .inr ⟨rfl, rfl, [some (.mls [wvO W0, wvO W1, wtO]), some (.mls [.lst (W0.map D.int), .lst (W1.map D.int)]), some (.lst [.lst (tis R), .lst (prs P), tiD l]), some (.int c), some (.lst (tis R)), some (.lst (prs P)), some (tiD l), some (.mls (tis R)), some (.mdt (wK P) (wV P)), some (.mls [tiD (sel R (chI W0 c)), tiD (sel R (chI W1 c)), tiD l]), o10, some (prD2 q)], by
      unfold le_l_picked_1
      push_cast [prD2_fz, prD2_res, prD2_0, prD2_1, tiD_res, tiD_fz, get_w w.nd hq, eq_ti], rfl⟩⟩
  rw [List.filter_eq_self.mpr fun _ _ => rfl, List.nil_append] at cc
  have i0 : ∀ (α : Type) (x y : α), atI [x, y] 0 = some x := fun _ _ _ => rfl
  have i1 : ∀ (α : Type) (x y : α), atI [x, y] 1 = some y := fun _ _ _ => rfl
  have hcc : mCl (gNm 11) (fun e => some (.ok true e)) le_l_picked_1 [11] (prs P) [] _ = _ := cc
  have hat := all_true P
  generalize (P.map fun _ => D.bl true) = bs at *
  rcases hx with rfl | rfl <;>
  · rw [ev_fun (by rfl) (by rfl)]
    push_cast [tiD_fz, tiD_al, tiD_res, hw, c0, c1, i0, i1, hks, hkt, hkl, hlo, ne_tis, wK_len, prs_len, hcc, hat, wvO_fz, wvO_al, wtO_fz, wtO_al]
/-! ### the law -/
theorem wvO_f (W : List Int) : dFld fc_weaving (st [119, 101, 97, 118, 105, 110, 103]) (wvO W) = some (.tup (W.map D.int)) := by
  unfold wvO
  rw [dFld_obj (by decide)]
  simp [findD]
theorem wvO_mk (W : List Int) : D.obj 101 [(st [119, 101, 97, 118, 105, 110, 103])] [.tup (W.map D.int)] = wvO W := nr rfl
theorem wtO_mk : D.obj 102 [] [] = wtO := nr rfl
theorem same_pair (W0 W1 : List Int) (h0 : W0.length ≤ 100) (h1 : W1.length ≤ 100) : m_l_same 8 [.mls [.tup (W0.map D.int), .tup (W1.map D.int)], .mls [.tup (W0.map D.int), .tup (W1.map D.int)]] = some (.ok (.bl true) [.mls [.tup (W0.map D.int), .tup (W1.map D.int)], .mls [.tup (W0.map D.int), .tup (W1.map D.int)]]) := by
  refine same_seq (.inr ⟨⟨_, .inr rfl⟩, _, .inr rfl⟩) rfl rfl rfl (by simp) fun i a b e1 e2 => ?_
  rw [e1] at e2; cases e2
  have hm := List.mem_of_getElem? e1
  simp only [List.mem_cons, List.not_mem_nil, or_false] at hm
  rcases hm with rfl | rfl
  · exact ⟨rfl, rfl, same_ok (Sm.ints (n := 5) W0 (by omega))⟩
  · exact ⟨rfl, rfl, same_ok (Sm.ints (n := 5) W1 (by omega))⟩
theorem counts_loop {R : List (List Int)} {P : List (List Int × List Int)} {l : List Int} (w : Wrld R P l) (W0 W1 : List Int) (a0 a1 a3 a5 a6 a8 o9 : Option D) (ds : List D) (hd : ∀ d ∈ ds, ∃ c : Int, d = .int c ∧ 0 ≤ c) :
    ∃ o7 o9', mLoop (gNm 9) lb_law_1 ds [a0, a1, some (.mls [.lst (W0.map D.int), .lst (W1.map D.int)]), a3, some (.mls [wvO W0, wvO W1, wtO]), a5, a6, some (.mls [.lst (tis R), .lst (prs P), tiD l]), a8, o9] =
    some (.ok .nx [a0, a1, some (.mls [.lst (W0.map D.int), .lst (W1.map D.int)]), a3, some (.mls [wvO W0, wvO W1, wtO]), a5, a6, o7, a8, o9']) := by
  obtain ⟨e', hlo, x, o, rfl, _⟩ := loop_inv (g := gNm 9) (b := lb_law_1)
    (fun _ e => ∃ (x : D) (o : Option D), e = [a0, a1, some (.mls [.lst (W0.map D.int), .lst (W1.map D.int)]), a3, some (.mls [wvO W0, wvO W1, wtO]), a5, a6, some x, a8, o] ∧ (x = .mls [.lst (tis R), .lst (prs P), tiD l] ∨ x = .lst [.lst (tis R), .lst (prs P), tiD l])) ds 0 _ ⟨_, o9, rfl, .inl rfl⟩ fun k d e hk hI => by
      obtain ⟨x, o, rfl, hx⟩ := hI
      obtain ⟨c, rfl, h0⟩ := hd d (List.mem_of_getElem? hk)
      have hp := picked_ok w W0 W1 h0 x hx
      refine ⟨_, .nx, [a0, a1, some (.mls [.lst (W0.map D.int), .lst (W1.map D.int)]), a3, some (.mls [wvO W0, wvO W1, wtO]), a5, a6, some (.lst [.lst (tis R), .lst (prs P), tiD l]), a8, some (.int c)], rfl, ?_, .inl rfl, _, _, rfl, .inr rfl⟩
      unfold lb_law_1
      rcases hx with rfl | rfl
      · push_cast [hp]
      · push_cast [hp]
  exact ⟨some x, o, hlo⟩
theorem world_loop (W0 W1 : List Int) (h0 : W0.length ≤ 60) (h1 : W1.length ≤ 60) (a0 a3 : Option D) (p : Pool) : ∃ e', mLoop (gNm 6) lb_law_2 (rngD 0 3) [a0, some p.d, some (.mls [.lst (W0.map D.int), .lst (W1.map D.int)]), a3, some (.mls [wvO W0, wvO W1, wtO]), some (.mls [.int W0.length, .int W1.length]), none, none, none, none] = some (.ok .nx e') ∧ e'.length = 10 ∧ e'[0]? = some a0 := by
  obtain ⟨e', hlo, p', o6, o7, o8, o9, rfl⟩ := loop_inv (g := gNm 6) (b := lb_law_2)
    (fun _ e => ∃ (p : Pool) (o6 o7 o8 o9 : Option D), e = [a0, some p.d, some (.mls [.lst (W0.map D.int), .lst (W1.map D.int)]), a3, some (.mls [wvO W0, wvO W1, wtO]), some (.mls [.int W0.length, .int W1.length]), o6, o7, o8, o9]) (rngD 0 3) 0 _ ⟨p, none, none, none, none, rfl⟩ fun k x e hk hI => by
      obtain ⟨p, o6, o7, o8, o9, rfl⟩ := hI
      obtain ⟨hk1, rfl⟩ := rngD_get hk
      obtain ⟨R, P, l, p1, d1, w⟩ := tasks_ok p
      obtain ⟨r, p2, d2, a2, b2⟩ := draw_ok p1 (n := 200) (by omega) (by omega)
      obtain ⟨r3, p3, d3, a3', b3⟩ := draw_ok p2 (n := (W0.length : Int) + 1) (by omega) (by omega)
      obtain ⟨ds, hds⟩ : ∃ ds : List D, [.int 0, .int (if (W0.length : Int) - 1 > 0 then (W0.length : Int) - 1 else 0), .int W0.length, .int (if (W1.length : Int) - 1 > 0 then (W1.length : Int) - 1 else 0), .int W1.length, .int r, .int r3] = ds := ⟨_, rfl⟩
      have hdc : ∀ d ∈ ds, ∃ c : Int, d = .int c ∧ 0 ≤ c := by
        rw [← hds]
        intro d hd
        simp only [List.mem_cons, List.not_mem_nil, or_false] at hd
        rcases hd with rfl | rfl | rfl | rfl | rfl | rfl | rfl <;> refine ⟨_, rfl, ?_⟩
        · omega
        · split <;> omega
        · omega
        · split <;> omega
        · omega
        · omega
        · omega
      obtain ⟨o7', o9', hC⟩ := counts_loop w W0 W1 a0 (some p3.d) a3 (some (.mls [.int W0.length, .int W1.length])) (some (.int (0 + (k : Int)))) (some (.mls [.int 0, .int (if (W0.length : Int) - 1 > 0 then (W0.length : Int) - 1 else 0), .int W0.length, .int (if (W1.length : Int) - 1 > 0 then (W1.length : Int) - 1 else 0), .int W1.length, .int r])) o9 ds hdc
      have i0 : ∀ (α : Type) (x y : α), atI [x, y] 0 = some x := fun _ _ _ => rfl
      have i1 : ∀ (α : Type) (x y : α), atI [x, y] 1 = some y := fun _ _ _ => rfl
      have j0 : ∀ (α : Type) (x y z : α), atI [x, y, z] 0 = some x := fun _ _ _ _ => rfl
      have j1 : ∀ (α : Type) (x y z : α), atI [x, y, z] 1 = some y := fun _ _ _ _ => rfl
      have sp := same_pair W0 W1 (by omega) (by omega)
      refine ⟨_, .nx, [a0, some p3.d, some (.mls [.lst (W0.map D.int), .lst (W1.map D.int)]), a3, some (.mls [wvO W0, wvO W1, wtO]), some (.mls [.int W0.length, .int W1.length]), some (.int (0 + (k : Int))), o7', some (.mls [.int 0, .int (if (W0.length : Int) - 1 > 0 then (W0.length : Int) - 1 else 0), .int W0.length, .int (if (W1.length : Int) - 1 > 0 then (W1.length : Int) - 1 else 0), .int W1.length, .int r]), o9'], rfl, ?_, .inl rfl, p3, _, _, _, _, rfl⟩
      unfold lb_law_2
      push_cast [d1, i0, i1, j0, j1, d2, d3, hds, hC, wvO_fz, wvO_al, wvO_res, wvO_f, sp]
  exact ⟨_, hlo, rfl, rfl⟩
theorem law_mir (ns : List Int) (hns : ns.length ≤ 63) : ∃ ds', m_law [.rol (ns.map D.int)] = some (.ok (.bl true) ds') := by
  unfold m_law mb_law
  rw [ev_fun (by rfl) (by rfl)]
  obtain ⟨p0, d0⟩ := pool_new ns
  obtain ⟨W0, p1, h1, l1⟩ := numbers_ok p0
  obtain ⟨W1, p2, h2, l2⟩ := numbers_ok p1
  have i0 : ∀ (α : Type) (x y : α), atI [x, y] 0 = some x := fun _ _ _ => rfl
  have i1 : ∀ (α : Type) (x y : α), atI [x, y] 1 = some y := fun _ _ _ => rfl
  have n1 := init_ok (.mls (W0.map D.int)) W0 (.inl rfl)
  have n2 := init_ok (.tup (W1.map D.int)) W1 (.inr rfl)
  have z1 : W0.length < 16777216 := by omega
  obtain ⟨gs, hgs⟩ : ∃ gs : List D, W0.map D.int ++ [D.int 7] = gs := ⟨_, rfl⟩
  obtain ⟨g, hg⟩ : ∃ g : Int, atI gs 0 = some (.int g) := by
    rw [← hgs]
    have e : W0.map D.int ++ [D.int 7] = (W0 ++ [7]).map D.int := by simp
    rw [e]
    cases hW : W0 ++ [7] with
    | nil => simp at hW
    | cons x xs => exact ⟨x, atI_nat (xs := (x :: xs).map D.int) (j := 0) rfl⟩
  have hgl : (0 : Int) < gs.length := by rw [← hgs]; simp
  have hw : ∀ W : List Int, (W.map D.int).length = W.length := fun W => by simp
  obtain ⟨e', hL, hl, he⟩ := world_loop W0 W1 l1 l2 (some (.rol (ns.map D.int))) (some (.mls (gs.set 0 (.int (g + 1))))) p2
  obtain ⟨x0, e1, rfl⟩ : ∃ x0 e1, e' = x0 :: e1 := by
    cases e' with
    | nil => cases hl
    | cons x e => exact ⟨x, e, rfl⟩
  refine ⟨[.rol (ns.map D.int)], ?_⟩
  have hr : rngD 0 (3 : Int).toNat = rngD 0 3 := rfl
  have t3 : (3 : Int).toNat = 3 := rfl
  obtain ⟨rs, hrs⟩ : ∃ rs : List D, rngD 0 3 = rs := ⟨_, rfl⟩
  rw [hrs] at hL
  push_cast [d0, h1, h2, i0, i1, n1, n2, z1, hgs, hg, hgl, hw, wvO_mk, wtO_mk, wvO_fz, wvO_al, wtO_fz, wtO_al, t3, hrs, hL]
end Q

namespace Q
open PySem L2
theorem all_mk {l : PySem.W.OpenLaw} {w : World} {K : PySem.W.Frag} {h : Heap} {mg : Str → Option Value} {fa : Addr} (X : K.In h) (G : h.Ns mainGlobals mg) (hfa : mg "law" = some (.ref fa))
    {C_WaitTasks : Addr}
    {C_WovenTasks : Addr}
    {f_WovenTasks___init__ : Addr}
    {f_WaitTasks_pick : Addr}
    {f_WovenTasks_pick : Addr}
    {f_l_pool : Addr} {od_l_pool an_l_pool : Option Addr} {sl_l_pool : Array (Option Value)} {oc_l_pool kV_l_pool dc_l_pool pm_l_pool cd_l_pool ct_l_pool : Value}
    {f_l_mixed : Addr} {od_l_mixed an_l_mixed : Option Addr} {sl_l_mixed : Array (Option Value)} {oc_l_mixed kV_l_mixed dc_l_mixed pm_l_mixed cd_l_mixed ct_l_mixed : Value}
    {f_l_draw : Addr} {od_l_draw an_l_draw : Option Addr} {sl_l_draw : Array (Option Value)} {oc_l_draw kV_l_draw dc_l_draw pm_l_draw cd_l_draw ct_l_draw : Value}
    {f_l_numbers : Addr} {od_l_numbers an_l_numbers : Option Addr} {sl_l_numbers : Array (Option Value)} {oc_l_numbers kV_l_numbers dc_l_numbers pm_l_numbers cd_l_numbers ct_l_numbers : Value}
    {od_WovenTasks___init__ an_WovenTasks___init__ : Option Addr} {sl_WovenTasks___init__ : Array (Option Value)} {oc_WovenTasks___init__ kV_WovenTasks___init__ dc_WovenTasks___init__ pm_WovenTasks___init__ cd_WovenTasks___init__ ct_WovenTasks___init__ : Value}
    {f_l_tasks : Addr} {od_l_tasks an_l_tasks : Option Addr} {sl_l_tasks : Array (Option Value)} {oc_l_tasks kV_l_tasks dc_l_tasks pm_l_tasks cd_l_tasks ct_l_tasks : Value}
    {f_l_waits : Addr} {od_l_waits an_l_waits : Option Addr} {sl_l_waits : Array (Option Value)} {oc_l_waits kV_l_waits dc_l_waits pm_l_waits cd_l_waits ct_l_waits : Value}
    {f_l_chosen : Addr} {od_l_chosen an_l_chosen : Option Addr} {sl_l_chosen : Array (Option Value)} {oc_l_chosen kV_l_chosen dc_l_chosen pm_l_chosen cd_l_chosen ct_l_chosen : Value}
    {f_l_is_int : Addr} {od_l_is_int an_l_is_int : Option Addr} {sl_l_is_int : Array (Option Value)} {oc_l_is_int kV_l_is_int dc_l_is_int pm_l_is_int cd_l_is_int ct_l_is_int : Value}
    {f_l_same : Addr} {od_l_same an_l_same : Option Addr} {sl_l_same : Array (Option Value)} {oc_l_same kV_l_same dc_l_same pm_l_same cd_l_same ct_l_same : Value}
    {od_WaitTasks_pick an_WaitTasks_pick : Option Addr} {sl_WaitTasks_pick : Array (Option Value)} {oc_WaitTasks_pick kV_WaitTasks_pick dc_WaitTasks_pick pm_WaitTasks_pick cd_WaitTasks_pick ct_WaitTasks_pick : Value}
    {od_WovenTasks_pick an_WovenTasks_pick : Option Addr} {sl_WovenTasks_pick : Array (Option Value)} {oc_WovenTasks_pick kV_WovenTasks_pick dc_WovenTasks_pick pm_WovenTasks_pick cd_WovenTasks_pick ct_WovenTasks_pick : Value}
    {f_l_picked : Addr} {od_l_picked an_l_picked : Option Addr} {sl_l_picked : Array (Option Value)} {oc_l_picked kV_l_picked dc_l_picked pm_l_picked cd_l_picked ct_l_picked : Value}
    {f_law : Addr} {od_law an_law : Option Addr} {sl_law : Array (Option Value)} {oc_law kV_law dc_law pm_law cd_law ct_law : Value}
    (aC_WaitTasks : PySem.W.nsIn K mainGlobals "WaitTasks" = some (some (.ref C_WaitTasks)))
    (aC_WovenTasks : PySem.W.nsIn K mainGlobals "WovenTasks" = some (some (.ref C_WovenTasks)))
    (o1_WaitTasks : PySem.W.plainGet K C_WaitTasks Str.empty = true)
    (o2_WaitTasks : PySem.W.hasDictIn K C_WaitTasks = true)
    (o3_WaitTasks : PySem.W.plainOver K C_WaitTasks = true)
    (o4_WaitTasks : PySem.W.findIn K (.ref C_WaitTasks) "__setattr__" = some (some (.builtin "object.__setattr__")))
    (o1_WovenTasks : PySem.W.plainGet K C_WovenTasks Str.empty = true)
    (o2_WovenTasks : PySem.W.hasDictIn K C_WovenTasks = true)
    (o3_WovenTasks : PySem.W.plainOver K C_WovenTasks = true)
    (o4_WovenTasks : PySem.W.findIn K (.ref C_WovenTasks) "__setattr__" = some (some (.builtin "object.__setattr__")))
    (w1_WaitTasks : PySem.W.makesIn K C_WaitTasks = true)
    (w2_WaitTasks : PySem.W.findIn K (.ref C_WaitTasks) "__init__" = some (some (.builtin "object.__init__")))
    (w3_WaitTasks : PySem.W.mroIn K C_WaitTasks (.type "object") = some true)
    (w4_WaitTasks : PySem.W.keepIn K (.ref C_WaitTasks) = true)
    (w1_WovenTasks : PySem.W.makesIn K C_WovenTasks = true)
    (w2_WovenTasks : PySem.W.findIn K (.ref C_WovenTasks) "__init__" = some (some (.ref f_WovenTasks___init__)))
    (w3_WovenTasks : PySem.W.isFn K (.ref f_WovenTasks___init__) = true)
    (w4_WovenTasks : PySem.W.keepIn K (.ref C_WovenTasks) = true)
    (v1_WovenTasks_pick : PySem.W.findIn K (.ref C_WovenTasks) "pick" = some (some (.ref f_WovenTasks_pick)))
    (v2_WovenTasks_pick : PySem.W.isFn K (.ref f_WovenTasks_pick) = true)
    (v3_WovenTasks_pick : PySem.W.keepIn K (.ref f_WovenTasks_pick) = true)
    (v1_WaitTasks_pick : PySem.W.findIn K (.ref C_WaitTasks) "pick" = some (some (.ref f_WaitTasks_pick)))
    (v2_WaitTasks_pick : PySem.W.isFn K (.ref f_WaitTasks_pick) = true)
    (v3_WaitTasks_pick : PySem.W.keepIn K (.ref f_WaitTasks_pick) = true)
    (na_WovenTasks_weaving : PySem.W.findIn K (.ref C_WovenTasks) "weaving" = some none)
    (a_l_pool : PySem.W.nsIn K mainGlobals "_law_pool" = some (some (.ref f_l_pool)))
    (l_l_pool : K.lookup f_l_pool = some ⟨oc_l_pool, od_l_pool, .func (PySem.W.fnOf "_law_pool" "_law_pool" (defArgs s_l_pool) (defBody s_l_pool) (defScope s_l_pool) .none kV_l_pool dc_l_pool pm_l_pool an_l_pool cd_l_pool ct_l_pool), sl_l_pool⟩)
    (c_l_pool : PySem.W.codeIn K cd_l_pool "_law_pool" = true)
    (k_l_pool : PySem.W.keepIn K (.ref f_l_pool) = true)
    (a_l_mixed : PySem.W.nsIn K mainGlobals "_law_mixed" = some (some (.ref f_l_mixed)))
    (l_l_mixed : K.lookup f_l_mixed = some ⟨oc_l_mixed, od_l_mixed, .func (PySem.W.fnOf "_law_mixed" "_law_mixed" (defArgs s_l_mixed) (defBody s_l_mixed) (defScope s_l_mixed) .none kV_l_mixed dc_l_mixed pm_l_mixed an_l_mixed cd_l_mixed ct_l_mixed), sl_l_mixed⟩)
    (c_l_mixed : PySem.W.codeIn K cd_l_mixed "_law_mixed" = true)
    (k_l_mixed : PySem.W.keepIn K (.ref f_l_mixed) = true)
    (a_l_draw : PySem.W.nsIn K mainGlobals "_law_draw" = some (some (.ref f_l_draw)))
    (l_l_draw : K.lookup f_l_draw = some ⟨oc_l_draw, od_l_draw, .func (PySem.W.fnOf "_law_draw" "_law_draw" (defArgs s_l_draw) (defBody s_l_draw) (defScope s_l_draw) .none kV_l_draw dc_l_draw pm_l_draw an_l_draw cd_l_draw ct_l_draw), sl_l_draw⟩)
    (c_l_draw : PySem.W.codeIn K cd_l_draw "_law_draw" = true)
    (k_l_draw : PySem.W.keepIn K (.ref f_l_draw) = true)
    (a_l_numbers : PySem.W.nsIn K mainGlobals "_law_numbers" = some (some (.ref f_l_numbers)))
    (l_l_numbers : K.lookup f_l_numbers = some ⟨oc_l_numbers, od_l_numbers, .func (PySem.W.fnOf "_law_numbers" "_law_numbers" (defArgs s_l_numbers) (defBody s_l_numbers) (defScope s_l_numbers) .none kV_l_numbers dc_l_numbers pm_l_numbers an_l_numbers cd_l_numbers ct_l_numbers), sl_l_numbers⟩)
    (c_l_numbers : PySem.W.codeIn K cd_l_numbers "_law_numbers" = true)
    (k_l_numbers : PySem.W.keepIn K (.ref f_l_numbers) = true)
    (l_WovenTasks___init__ : K.lookup f_WovenTasks___init__ = some ⟨oc_WovenTasks___init__, od_WovenTasks___init__, .func (PySem.W.fnOf "__init__" "WovenTasks.__init__" (defArgs s_WovenTasks___init__) (defBody s_WovenTasks___init__) (defScope s_WovenTasks___init__) .none kV_WovenTasks___init__ dc_WovenTasks___init__ pm_WovenTasks___init__ an_WovenTasks___init__ cd_WovenTasks___init__ ct_WovenTasks___init__), sl_WovenTasks___init__⟩)
    (c_WovenTasks___init__ : PySem.W.codeIn K cd_WovenTasks___init__ "WovenTasks.__init__" = true)
    (k_WovenTasks___init__ : PySem.W.keepIn K (.ref f_WovenTasks___init__) = true)
    (a_l_tasks : PySem.W.nsIn K mainGlobals "_law_tasks" = some (some (.ref f_l_tasks)))
    (l_l_tasks : K.lookup f_l_tasks = some ⟨oc_l_tasks, od_l_tasks, .func (PySem.W.fnOf "_law_tasks" "_law_tasks" (defArgs s_l_tasks) (defBody s_l_tasks) (defScope s_l_tasks) .none kV_l_tasks dc_l_tasks pm_l_tasks an_l_tasks cd_l_tasks ct_l_tasks), sl_l_tasks⟩)
    (c_l_tasks : PySem.W.codeIn K cd_l_tasks "_law_tasks" = true)
    (k_l_tasks : PySem.W.keepIn K (.ref f_l_tasks) = true)
    (a_l_waits : PySem.W.nsIn K mainGlobals "_law_waits" = some (some (.ref f_l_waits)))
    (l_l_waits : K.lookup f_l_waits = some ⟨oc_l_waits, od_l_waits, .func (PySem.W.fnOf "_law_waits" "_law_waits" (defArgs s_l_waits) (defBody s_l_waits) (defScope s_l_waits) .none kV_l_waits dc_l_waits pm_l_waits an_l_waits cd_l_waits ct_l_waits), sl_l_waits⟩)
    (c_l_waits : PySem.W.codeIn K cd_l_waits "_law_waits" = true)
    (k_l_waits : PySem.W.keepIn K (.ref f_l_waits) = true)
    (a_l_chosen : PySem.W.nsIn K mainGlobals "_law_chosen" = some (some (.ref f_l_chosen)))
    (l_l_chosen : K.lookup f_l_chosen = some ⟨oc_l_chosen, od_l_chosen, .func (PySem.W.fnOf "_law_chosen" "_law_chosen" (defArgs s_l_chosen) (defBody s_l_chosen) (defScope s_l_chosen) .none kV_l_chosen dc_l_chosen pm_l_chosen an_l_chosen cd_l_chosen ct_l_chosen), sl_l_chosen⟩)
    (c_l_chosen : PySem.W.codeIn K cd_l_chosen "_law_chosen" = true)
    (k_l_chosen : PySem.W.keepIn K (.ref f_l_chosen) = true)
    (a_l_is_int : PySem.W.nsIn K mainGlobals "_law_is_int" = some (some (.ref f_l_is_int)))
    (l_l_is_int : K.lookup f_l_is_int = some ⟨oc_l_is_int, od_l_is_int, .func (PySem.W.fnOf "_law_is_int" "_law_is_int" (defArgs s_l_is_int) (defBody s_l_is_int) (defScope s_l_is_int) .none kV_l_is_int dc_l_is_int pm_l_is_int an_l_is_int cd_l_is_int ct_l_is_int), sl_l_is_int⟩)
    (c_l_is_int : PySem.W.codeIn K cd_l_is_int "_law_is_int" = true)
    (k_l_is_int : PySem.W.keepIn K (.ref f_l_is_int) = true)
    (a_l_same : PySem.W.nsIn K mainGlobals "_law_same" = some (some (.ref f_l_same)))
    (l_l_same : K.lookup f_l_same = some ⟨oc_l_same, od_l_same, .func (PySem.W.fnOf "_law_same" "_law_same" (defArgs s_l_same) (defBody s_l_same) (defScope s_l_same) .none kV_l_same dc_l_same pm_l_same an_l_same cd_l_same ct_l_same), sl_l_same⟩)
    (c_l_same : PySem.W.codeIn K cd_l_same "_law_same" = true)
    (k_l_same : PySem.W.keepIn K (.ref f_l_same) = true)
    (l_WaitTasks_pick : K.lookup f_WaitTasks_pick = some ⟨oc_WaitTasks_pick, od_WaitTasks_pick, .func (PySem.W.fnOf "pick" "WaitTasks.pick" (defArgs s_WaitTasks_pick) (defBody s_WaitTasks_pick) (defScope s_WaitTasks_pick) .none kV_WaitTasks_pick dc_WaitTasks_pick pm_WaitTasks_pick an_WaitTasks_pick cd_WaitTasks_pick ct_WaitTasks_pick), sl_WaitTasks_pick⟩)
    (c_WaitTasks_pick : PySem.W.codeIn K cd_WaitTasks_pick "WaitTasks.pick" = true)
    (k_WaitTasks_pick : PySem.W.keepIn K (.ref f_WaitTasks_pick) = true)
    (l_WovenTasks_pick : K.lookup f_WovenTasks_pick = some ⟨oc_WovenTasks_pick, od_WovenTasks_pick, .func (PySem.W.fnOf "pick" "WovenTasks.pick" (defArgs s_WovenTasks_pick) (defBody s_WovenTasks_pick) (defScope s_WovenTasks_pick) .none kV_WovenTasks_pick dc_WovenTasks_pick pm_WovenTasks_pick an_WovenTasks_pick cd_WovenTasks_pick ct_WovenTasks_pick), sl_WovenTasks_pick⟩)
    (c_WovenTasks_pick : PySem.W.codeIn K cd_WovenTasks_pick "WovenTasks.pick" = true)
    (k_WovenTasks_pick : PySem.W.keepIn K (.ref f_WovenTasks_pick) = true)
    (a_l_picked : PySem.W.nsIn K mainGlobals "_law_picked" = some (some (.ref f_l_picked)))
    (l_l_picked : K.lookup f_l_picked = some ⟨oc_l_picked, od_l_picked, .func (PySem.W.fnOf "_law_picked" "_law_picked" (defArgs s_l_picked) (defBody s_l_picked) (defScope s_l_picked) .none kV_l_picked dc_l_picked pm_l_picked an_l_picked cd_l_picked ct_l_picked), sl_l_picked⟩)
    (c_l_picked : PySem.W.codeIn K cd_l_picked "_law_picked" = true)
    (k_l_picked : PySem.W.keepIn K (.ref f_l_picked) = true)
    (a_law : PySem.W.nsIn K mainGlobals "law" = some (some (.ref f_law)))
    (l_law : K.lookup f_law = some ⟨oc_law, od_law, .func (PySem.W.fnOf "law" "law" (defArgs s_law) (defBody s_law) (defScope s_law) .none kV_law dc_law pm_law an_law cd_law ct_law), sl_law⟩)
    (c_law : PySem.W.codeIn K cd_law "law" = true)
    (k_law : PySem.W.keepIn K (.ref f_law) = true)
    (z_list : PySem.W.nsIn K mainGlobals "list" = some none)
    (z_tuple : PySem.W.nsIn K mainGlobals "tuple" = some none)
    (z_len : PySem.W.nsIn K mainGlobals "len" = some none)
    (z_range : PySem.W.nsIn K mainGlobals "range" = some none)
    (z_max : PySem.W.nsIn K mainGlobals "max" = some none)
    (z_int : PySem.W.nsIn K mainGlobals "int" = some none)
    (z_sorted : PySem.W.nsIn K mainGlobals "sorted" = some none)
    (z_all : PySem.W.nsIn K mainGlobals "all" = some none)
    (z_isinstance : PySem.W.nsIn K mainGlobals "isinstance" = some none)
    (z_bool : PySem.W.nsIn K mainGlobals "bool" = some none)
    (z_str : PySem.W.nsIn K mainGlobals "str" = some none) :
    ∃ fd : FuncData, (∀ (s : Shared) (v : Value), BindsTo s fd ⟨[v], []⟩ [("_law_script", v)]) ∧ ∃ cv wt, ∀ base : Heap, K.In base → base.Ns mainGlobals mg → FnOk l.prog w K mg base (L2N.CX l.prog w) 12 fa fd ["_law_script"] (spM ⟨K, cv, wt⟩ m_law) := by
  have e := hfa.symm.trans (PySem.W.mg_of X G a_law)
  cases e
  have F_l_pool := fun_mk (st := s_l_pool) l_l_pool c_l_pool k_l_pool
  have b_l_pool := F_l_pool.binds (ps := ["_law_script"]) fun _ _ _ _ _ _ us hl => match us, hl with | [_], _ => rfl
  have F_l_mixed := fun_mk (st := s_l_mixed) l_l_mixed c_l_mixed k_l_mixed
  have b_l_mixed := F_l_mixed.binds (ps := ["_law_cell", "_law_turn", "_law_limit"]) fun _ _ _ _ _ _ us hl => match us, hl with | [_, _, _], _ => rfl
  have F_l_draw := fun_mk (st := s_l_draw) l_l_draw c_l_draw k_l_draw
  have b_l_draw := F_l_draw.binds (ps := ["_law_pool_here", "_law_limit"]) fun _ _ _ _ _ _ us hl => match us, hl with | [_, _], _ => rfl
  have F_l_numbers := fun_mk (st := s_l_numbers) l_l_numbers c_l_numbers k_l_numbers
  have b_l_numbers := F_l_numbers.binds (ps := ["_law_pool_here"]) fun _ _ _ _ _ _ us hl => match us, hl with | [_], _ => rfl
  have F_WovenTasks___init__ := fun_mk (st := s_WovenTasks___init__) l_WovenTasks___init__ c_WovenTasks___init__ k_WovenTasks___init__
  have b_WovenTasks___init__ := F_WovenTasks___init__.binds (ps := ["self", "weaving"]) fun _ _ _ _ _ _ us hl => match us, hl with | [_, _], _ => rfl
  have F_l_tasks := fun_mk (st := s_l_tasks) l_l_tasks c_l_tasks k_l_tasks
  have b_l_tasks := F_l_tasks.binds (ps := ["_law_pool_here"]) fun _ _ _ _ _ _ us hl => match us, hl with | [_], _ => rfl
  have F_l_waits := fun_mk (st := s_l_waits) l_l_waits c_l_waits k_l_waits
  have b_l_waits := F_l_waits.binds (ps := ["_law_pairs"]) fun _ _ _ _ _ _ us hl => match us, hl with | [_], _ => rfl
  have F_l_chosen := fun_mk (st := s_l_chosen) l_l_chosen c_l_chosen k_l_chosen
  have b_l_chosen := F_l_chosen.binds (ps := ["_law_ready", "_law_woven", "_law_count"]) fun _ _ _ _ _ _ us hl => match us, hl with | [_, _, _], _ => rfl
  have F_l_is_int := fun_mk (st := s_l_is_int) l_l_is_int c_l_is_int k_l_is_int
  have b_l_is_int := F_l_is_int.binds (ps := ["_law_thing"]) fun _ _ _ _ _ _ us hl => match us, hl with | [_], _ => rfl
  have F_l_same := fun_mk (st := s_l_same) l_l_same c_l_same k_l_same
  have b_l_same := F_l_same.binds (ps := ["_law_mine", "_law_due"]) fun _ _ _ _ _ _ us hl => match us, hl with | [_, _], _ => rfl
  have F_WaitTasks_pick := fun_mk (st := s_WaitTasks_pick) l_WaitTasks_pick c_WaitTasks_pick k_WaitTasks_pick
  have b_WaitTasks_pick := F_WaitTasks_pick.binds (ps := ["self", "count", "ready", "waits"]) fun _ _ _ _ _ _ us hl => match us, hl with | [_, _, _, _], _ => rfl
  have F_WovenTasks_pick := fun_mk (st := s_WovenTasks_pick) l_WovenTasks_pick c_WovenTasks_pick k_WovenTasks_pick
  have b_WovenTasks_pick := F_WovenTasks_pick.binds (ps := ["self", "count", "ready", "waits"]) fun _ _ _ _ _ _ us hl => match us, hl with | [_, _, _, _], _ => rfl
  have F_l_picked := fun_mk (st := s_l_picked) l_l_picked c_l_picked k_l_picked
  have b_l_picked := F_l_picked.binds (ps := ["_law_tasks_here", "_law_woven", "_law_world", "_law_count"]) fun _ _ _ _ _ _ us hl => match us, hl with | [_, _, _, _], _ => rfl
  have F_law := fun_mk (st := s_law) l_law c_law k_law
  have b_law := F_law.binds (ps := ["_law_script"]) fun _ _ _ _ _ _ us hl => match us, hl with | [_], _ => rfl
  let T : Txt l.prog w K mg := { C_WaitTasks := C_WaitTasks, gC_WaitTasks := PySem.W.mg_of X G aC_WaitTasks, C_WovenTasks := C_WovenTasks, gC_WovenTasks := PySem.W.mg_of X G aC_WovenTasks, cl_WaitTasks := ⟨o1_WaitTasks, o2_WaitTasks, o3_WaitTasks, o4_WaitTasks⟩, cl_WovenTasks := ⟨o1_WovenTasks, o2_WovenTasks, o3_WovenTasks, o4_WovenTasks⟩, MO_WaitTasks := ⟨w1_WaitTasks, w2_WaitTasks, w3_WaitTasks, w4_WaitTasks⟩, M_WovenTasks := ⟨w1_WovenTasks, w2_WovenTasks, w3_WovenTasks, w4_WovenTasks⟩, mt_WovenTasks_pick := ⟨v1_WovenTasks_pick, v2_WovenTasks_pick, v3_WovenTasks_pick⟩, mt_WaitTasks_pick := ⟨v1_WaitTasks_pick, v2_WaitTasks_pick, v3_WaitTasks_pick⟩, na_WovenTasks_weaving := na_WovenTasks_weaving, f_l_pool := f_l_pool, d_l_pool := _, F_l_pool := F_l_pool, g_l_pool := PySem.W.mg_of X G a_l_pool, b_l_pool := b_l_pool, f_l_mixed := f_l_mixed, d_l_mixed := _, F_l_mixed := F_l_mixed, g_l_mixed := PySem.W.mg_of X G a_l_mixed, b_l_mixed := b_l_mixed, f_l_draw := f_l_draw, d_l_draw := _, F_l_draw := F_l_draw, g_l_draw := PySem.W.mg_of X G a_l_draw, b_l_draw := b_l_draw, f_l_numbers := f_l_numbers, d_l_numbers := _, F_l_numbers := F_l_numbers, g_l_numbers := PySem.W.mg_of X G a_l_numbers, b_l_numbers := b_l_numbers, f_WovenTasks___init__ := f_WovenTasks___init__, d_WovenTasks___init__ := _, F_WovenTasks___init__ := F_WovenTasks___init__, b_WovenTasks___init__ := b_WovenTasks___init__, f_l_tasks := f_l_tasks, d_l_tasks := _, F_l_tasks := F_l_tasks, g_l_tasks := PySem.W.mg_of X G a_l_tasks, b_l_tasks := b_l_tasks, f_l_waits := f_l_waits, d_l_waits := _, F_l_waits := F_l_waits, g_l_waits := PySem.W.mg_of X G a_l_waits, b_l_waits := b_l_waits, f_l_chosen := f_l_chosen, d_l_chosen := _, F_l_chosen := F_l_chosen, g_l_chosen := PySem.W.mg_of X G a_l_chosen, b_l_chosen := b_l_chosen, f_l_is_int := f_l_is_int, d_l_is_int := _, F_l_is_int := F_l_is_int, g_l_is_int := PySem.W.mg_of X G a_l_is_int, b_l_is_int := b_l_is_int, f_l_same := f_l_same, d_l_same := _, F_l_same := F_l_same, g_l_same := PySem.W.mg_of X G a_l_same, b_l_same := b_l_same, f_WaitTasks_pick := f_WaitTasks_pick, d_WaitTasks_pick := _, F_WaitTasks_pick := F_WaitTasks_pick, b_WaitTasks_pick := b_WaitTasks_pick, f_WovenTasks_pick := f_WovenTasks_pick, d_WovenTasks_pick := _, F_WovenTasks_pick := F_WovenTasks_pick, b_WovenTasks_pick := b_WovenTasks_pick, f_l_picked := f_l_picked, d_l_picked := _, F_l_picked := F_l_picked, g_l_picked := PySem.W.mg_of X G a_l_picked, b_l_picked := b_l_picked, f_law := fa, d_law := _, F_law := F_law, g_law := PySem.W.mg_of X G a_law, b_law := b_law, b_list := PySem.W.mg_none_of X G z_list, b_tuple := PySem.W.mg_none_of X G z_tuple, b_len := PySem.W.mg_none_of X G z_len, b_range := PySem.W.mg_none_of X G z_range, b_max := PySem.W.mg_none_of X G z_max, b_int := PySem.W.mg_none_of X G z_int, b_sorted := PySem.W.mg_none_of X G z_sorted, b_all := PySem.W.mg_none_of X G z_all, b_isinstance := PySem.W.mg_none_of X G z_isinstance, b_bool := PySem.W.mg_none_of X G z_bool, b_str := PySem.W.mg_none_of X G z_str }
  exact ⟨T.d_law, fun s v => .of_eq rfl, cvT T, wtT, fun base _ _ => ok_law T⟩
theorem walk {l : PySem.W.OpenLaw} {q : Program} {loose : List Str} {XP : (Str → Option Value) → Heap → Prop} {YP : World → Heap → Prop} {d : DefRec} {K : Params → PySem.W.Frag} (hn : l.most = some 63) (hdf : d.params.defaults = [])
    (hY : ∀ (w : World) (h : Heap), YP w h → (K w.params).In h)
    (F : ∀ (w : World) (mg : Str → Option Value) (fa : Addr) (h : Heap), (K w.params).In h → h.Ns mainGlobals mg → mg d.name = some (.ref fa) →
      ∃ fd : FuncData, (∀ (s : Shared) (u : Value), BindsTo s fd ⟨[u], []⟩ [("_law_script", u)]) ∧ ∃ cv wt, ∀ base : Heap, (K w.params).In base → base.Ns mainGlobals mg → FnOk l.prog w (K w.params) mg base (L2N.CX l.prog w) 12 fa fd ["_law_script"] (spM ⟨K w.params, cv, wt⟩ m_law)) :
    PySem.W.WalkO q loose XP YP l.row.toRowW d [] (fun f vs => PySem.call f vs) :=
  L2.walk_of (n := 63) (k := 12) (x := "_law_script") (CX := fun w => L2N.CX l.prog w) (sp := fun w => spE (K w.params) m_law) hn (by decide) hdf ⟨rfl, by decide, by decide⟩ hY (fun w mg fa h a b c => by
    obtain ⟨fd, h1, cv, wt, h2⟩ := F w mg fa h a b c
    exact ⟨fd, h1, fun base a b => spE_of (h2 base a b)⟩) (fun _ _ a ns hl _ hS => spE_law hS (law_mir ns hl)) fun _ _ _ _ _ z => cx_none z
end Q
open PySem PySem.W PyProof.Rows
set_option maxRecDepth 100000 in
set_option maxHeartbeats 0 in
theorem PySem.Challenge.cw_quickways_k24_picks_of_both_ways_holds : PySem.Challenge.rw_quickways_k24_picks_of_both_ways.Holds := by
  w_on; o_law; k_head; (case hw => w_witness2)
  k_fill
  refine Q.walk (l := PySem.Challenge.rw_quickways_k24_picks_of_both_ways) rfl rfl (fun w h Y => PySem.W.kIn_of Y) ?F
  case F =>
    intro w mg fa h KX G hmg
    refine' Q.all_mk KX G hmg ?aC_WaitTasks ?aC_WovenTasks ?o1_WaitTasks ?o2_WaitTasks ?o3_WaitTasks ?o4_WaitTasks ?o1_WovenTasks ?o2_WovenTasks ?o3_WovenTasks ?o4_WovenTasks ?w1_WaitTasks ?w2_WaitTasks ?w3_WaitTasks ?w4_WaitTasks ?w1_WovenTasks ?w2_WovenTasks ?w3_WovenTasks ?w4_WovenTasks ?v1_WovenTasks_pick ?v2_WovenTasks_pick ?v3_WovenTasks_pick ?v1_WaitTasks_pick ?v2_WaitTasks_pick ?v3_WaitTasks_pick ?na_WovenTasks_weaving ?a_l_pool ?l_l_pool ?c_l_pool ?k_l_pool ?a_l_mixed ?l_l_mixed ?c_l_mixed ?k_l_mixed ?a_l_draw ?l_l_draw ?c_l_draw ?k_l_draw ?a_l_numbers ?l_l_numbers ?c_l_numbers ?k_l_numbers ?l_WovenTasks___init__ ?c_WovenTasks___init__ ?k_WovenTasks___init__ ?a_l_tasks ?l_l_tasks ?c_l_tasks ?k_l_tasks ?a_l_waits ?l_l_waits ?c_l_waits ?k_l_waits ?a_l_chosen ?l_l_chosen ?c_l_chosen ?k_l_chosen ?a_l_is_int ?l_l_is_int ?c_l_is_int ?k_l_is_int ?a_l_same ?l_l_same ?c_l_same ?k_l_same ?l_WaitTasks_pick ?c_WaitTasks_pick ?k_WaitTasks_pick ?l_WovenTasks_pick ?c_WovenTasks_pick ?k_WovenTasks_pick ?a_l_picked ?l_l_picked ?c_l_picked ?k_l_picked ?a_law ?l_law ?c_law ?k_law ?z_list ?z_tuple ?z_len ?z_range ?z_max ?z_int ?z_sorted ?z_all ?z_isinstance ?z_bool ?z_str
    (case aC_WaitTasks => k_is)
    (case aC_WovenTasks => k_is)
    (case o1_WaitTasks => k_is)
    (case o2_WaitTasks => k_is)
    (case o3_WaitTasks => k_is)
    (case o4_WaitTasks => k_is)
    (case o1_WovenTasks => k_is)
    (case o2_WovenTasks => k_is)
    (case o3_WovenTasks => k_is)
    (case o4_WovenTasks => k_is)
    (case w1_WaitTasks => k_is)
    (case w2_WaitTasks => k_is)
    (case w3_WaitTasks => k_is)
    (case w4_WaitTasks => k_is)
    (case w1_WovenTasks => k_is)
    (case w2_WovenTasks => k_is)
    (case w3_WovenTasks => k_is)
    (case w4_WovenTasks => k_is)
    (case v1_WovenTasks_pick => k_is)
    (case v2_WovenTasks_pick => k_is)
    (case v3_WovenTasks_pick => k_is)
    (case v1_WaitTasks_pick => k_is)
    (case v2_WaitTasks_pick => k_is)
    (case v3_WaitTasks_pick => k_is)
    (case na_WovenTasks_weaving => k_is)
    (case a_l_pool => k_is)
    (case l_l_pool => k_is)
    (case c_l_pool => k_is)
    (case k_l_pool => k_is)
    (case a_l_mixed => k_is)
    (case l_l_mixed => k_is)
    (case c_l_mixed => k_is)
    (case k_l_mixed => k_is)
    (case a_l_draw => k_is)
    (case l_l_draw => k_is)
    (case c_l_draw => k_is)
    (case k_l_draw => k_is)
    (case a_l_numbers => k_is)
    (case l_l_numbers => k_is)
    (case c_l_numbers => k_is)
    (case k_l_numbers => k_is)
    (case l_WovenTasks___init__ => k_is)
    (case c_WovenTasks___init__ => k_is)
    (case k_WovenTasks___init__ => k_is)
    (case a_l_tasks => k_is)
    (case l_l_tasks => k_is)
    (case c_l_tasks => k_is)
    (case k_l_tasks => k_is)
    (case a_l_waits => k_is)
    (case l_l_waits => k_is)
    (case c_l_waits => k_is)
    (case k_l_waits => k_is)
    (case a_l_chosen => k_is)
    (case l_l_chosen => k_is)
    (case c_l_chosen => k_is)
    (case k_l_chosen => k_is)
    (case a_l_is_int => k_is)
    (case l_l_is_int => k_is)
    (case c_l_is_int => k_is)
    (case k_l_is_int => k_is)
    (case a_l_same => k_is)
    (case l_l_same => k_is)
    (case c_l_same => k_is)
    (case k_l_same => k_is)
    (case l_WaitTasks_pick => k_is)
    (case c_WaitTasks_pick => k_is)
    (case k_WaitTasks_pick => k_is)
    (case l_WovenTasks_pick => k_is)
    (case c_WovenTasks_pick => k_is)
    (case k_WovenTasks_pick => k_is)
    (case a_l_picked => k_is)
    (case l_l_picked => k_is)
    (case c_l_picked => k_is)
    (case k_l_picked => k_is)
    (case a_law => k_is)
    (case l_law => k_is)
    (case c_law => k_is)
    (case k_law => k_is)
    (case z_list => k_is)
    (case z_tuple => k_is)
    (case z_len => k_is)
    (case z_range => k_is)
    (case z_max => k_is)
    (case z_int => k_is)
    (case z_sorted => k_is)
    (case z_all => k_is)
    (case z_isinstance => k_is)
    (case z_bool => k_is)
    (case z_str => k_is)
#print axioms PySem.Challenge.cw_quickways_k24_picks_of_both_ways_holds
