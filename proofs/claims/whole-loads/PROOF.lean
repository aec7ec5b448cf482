import PyProof.Rows.All
import Wide.All
import OpenK.AllK
import Wide.FinOn
import HandS.ForMost
import HandS.Deep
import KE.SortData
import PyProof.SumWalkG
import PyProof.Rows.SortWalk
import HandS.TupMul
import HandS.TupSets
import PyProof.SetRoads
import PyProof.DictCompW
import PyProof.DictMoreH
import HandS.DictComp
import HandS.Conv
import HandS.Star
import HandS.Zip
import HandS.Style
import HandS.IsInst
import HandS.Steps
import HandS.Evl
import PySem.Challenge.RW_allcalls_k10_whole_loads_beside_and_with
import HandS.Words
set_option Elab.async false
set_option linter.all false
set_option maxRecDepth 100000
set_option maxHeartbeats 2000000
/-! rules that the layer lacks: order and sorting of data, in over tuples, count, sum and extend of tuples, fields as targets, freezing -/
namespace Bx
open PySem L2

section
variable {X : Cx}

/-! x < y of alike data -/
def rLtA (K : PySem.W.Frag) : R2 := fun x y H Q => ∃ d e, Dp K H x d ∧ Dp K H y e ∧ W.alike d e = true ∧ d ≠ .none ∧ d.depth ≤ 60 ∧ Q (.bl (W.dataLt d e)) H
theorem op_ltA (hu : X.A.units + 64 < cLine) : OpR X (compareOp .Lt) (rLtA X.K) := by
  intro pins s σ H x y v u Q I rx ry h
  obtain ⟨d, e, hd, he, hk, hn, hz, q⟩ := h
  obtain ⟨as, r1⟩ := Dp.reads I d x v hd rx
  obtain ⟨bs, r2⟩ := Dp.reads I e y u he ry
  have hm : min d.depth e.depth ≤ d.depth := Nat.min_le_left _ _
  have go := W.rcLt_alike d e X.A s v u as bs r1 r2 hk hn (by omega)
  exact go X.prog X.w X.xe (EP X pins σ Q) ⟨.bl _, H, I, rfl, q⟩

/-! x in t, x not in t: t a tuple of data -/
def rInT (K : PySem.W.Frag) : R2 := fun x y H Q => ∃ d ds, Dp K H x d ∧ Dp K H y (.tuple ds) ∧ SeqAt.shaped d = true ∧ SeqAt.shaped (.tuple ds) = true ∧ Q (.bl (ds.any fun z => PyData.eqv z d)) H
def rNiT (K : PySem.W.Frag) : R2 := fun x y H Q => ∃ d ds, Dp K H x d ∧ Dp K H y (.tuple ds) ∧ SeqAt.shaped d = true ∧ SeqAt.shaped (.tuple ds) = true ∧ Q (.bl (!ds.any fun z => PyData.eqv z d)) H
theorem op_inT (hu : X.A.units + 65 < cLine) : OpR X (compareOp .In) (rInT X.K) := by
  intro pins s σ H x y v u Q I rx ry h
  obtain ⟨d, ds, hd, he, sd, se, q⟩ := h
  obtain ⟨as, r1⟩ := Dp.reads I d x v hd rx
  obtain ⟨bs, r2⟩ := Dp.reads I (.tuple ds) y u he ry
  refine SeqAt.in_tuple_reads r2 r1 (SeqAt.canLay_of_shaped se) (SeqAt.canLay_of_shaped sd) (PyProof.Rows.room_in_shaped sd hu) ?_
  exact ⟨.bl _, H, I, rfl, q⟩
theorem op_niT (hu : X.A.units + 65 < cLine) : OpR X (compareOp .NotIn) (rNiT X.K) := by
  intro pins s σ H x y v u Q I rx ry h
  obtain ⟨d, ds, hd, he, sd, se, q⟩ := h
  obtain ⟨as, r1⟩ := Dp.reads I d x v hd rx
  obtain ⟨bs, r2⟩ := Dp.reads I (.tuple ds) y u he ry
  refine SeqAt.notIn_tuple_reads r2 r1 (SeqAt.canLay_of_shaped se) (SeqAt.canLay_of_shaped sd) (PyProof.Rows.room_in_shaped sd hu) ?_
  exact ⟨.bl _, H, I, rfl, q⟩

/-! xs.count(x) of data -/
def rCntD (K : PySem.W.Frag) : V → List V → Hp → VK → Prop := fun x xs H Q => ∃ (p : Addr) (y : V) (d : PyData) (ds : List PyData), x = .ref p ∧ xs = [y] ∧ Dp K H (.ref p) (.list ds) ∧ Dp K H y d ∧
  SeqAt.shaped (.list ds) = true ∧ SeqAt.shaped d = true ∧ Q (.int (ds.countP fun z => PyData.eqv z d : Nat)) H
theorem mt_cntD (hu : X.A.units + 65 < cLine) : MtR X "list.count" (rCntD X.K) := by
  intro pins s σ H x xs v us Q I rx rxs h
  obtain ⟨p, y, d, ds, rfl, rfl, hl, hy, sl, sd, q⟩ := h
  cases rx
  obtain ⟨u, rfl, ru⟩ := rxs.one
  obtain ⟨bs, r1⟩ := Dp.reads I d y u hy ru
  have hxs : PyData.canLayAll0 ds = true := SeqAt.canLay_of_shaped sl
  have hroom : X.A.units + 1 + min (PyData.depthAll ds) d.depth < cLine := PyProof.Rows.room_in_shaped sd hu
  cases hl with
  | lst hs ha =>
    obtain ⟨its, rv, ⟨⟨cls, dd, data, sls⟩, n, ho, hc, hdn, hdt⟩, hlen⟩ := I.list hs
    simp only at hc hdt
    subst hc hdt
    obtain ⟨as, h4⟩ := Dp.readsAll I ds _ its ha rv
    have hmap : its.map (SeqAt.readOf s.heap) = ds := SeqAt.readsAll_map ds its as hxs h4
    refine call_meets PySem.F.slot_list_count ⟨_, ho, rfl⟩ PySem.F.entry_list_count (PySem.F.args_list_count_2 _ _)
      (SeqAt.list_countAt p its.toArray n dd sls u (fun u => PyData.eqv (SeqAt.readOf s.heap u) d)) ⟨ho, ?_, ?_⟩
    · exact SeqAt.items_eqAt (vs := its.toArray) (show ReadsAll s.heap its.toArray.toList ds as from h4) r1 hxs (SeqAt.canLay_of_shaped sd) hroom
    · refine ⟨.int (ds.countP fun z => PyData.eqv z d : Nat), H, I.tok _, ⟨s.toks, ?_⟩, q⟩
      have e : its.toArray.toList.countP (fun u => PyData.eqv (SeqAt.readOf s.heap u) d) = ds.countP fun z => PyData.eqv z d := by
        rw [← hmap, List.countP_map]
        rfl
      rw [e]

/-! sum(t) of a tuple of ints -/
theorem sum_tupI {prog : Program} {w : World} {A : Around} {E : Value → Shared → Prop} {s : Shared} {l : Addr} {xs : Array (Int × Tok)} {Q : Value → Shared → Prop} (hh : A.handled = none) (hl : s.heap.IsTuple l (intItems xs))
    (h : ∀ h' tk t', (∀ b o, s.heap.get? b = some o → h'.get? b = some o) → Q (.int (preSum (numAt xs) xs.size) t') { s with heap := h', toks := tk }) :
    wpAny (model prog w) A (call (.builtin "sum") [.ref l]) Q E s := by
  have hlt : l < s.heap.objs.size := by
    obtain ⟨_, e, _⟩ := hl
    exact Heap.lt_size e
  refine call_sum_walkG (wpAny_pyIter_tuple hl ?_)
  refine ⟨_, _, _, _, _, _, numAt xs, rfl, Walks.tuple (A := A.in1) hh _ l (Nat.ne_of_lt hlt) (intItems xs), ⟨⟨_, Heap.get?_push_size _ rfl, rfl, rfl⟩, hl.push _⟩, fun b hb => ?_, fun _ _ => intItems_at, fun h' tk t' hk => ?_⟩
  · show b < (s.heap.push _).objs.size
    rw [Heap.size_push]
    rcases List.mem_cons.mp hb with rfl | hb
    · exact Nat.lt_succ_self _
    · rw [List.mem_singleton.mp hb]
      exact Nat.lt_succ_of_lt hlt
  · have := h h' tk t' (fun b o e => hk b o (fun hm => by
      have hm' := List.mem_singleton.mp hm
      rw [hm'] at e
      exact absurd (Heap.lt_size e) (Nat.lt_irrefl _)) (Heap.get?_push_of_some _ e))
    simpa [intItems] using this
def rSumT (K : PySem.W.Frag) : List V → Hp → VK → Prop := fun vs H Q => ∃ (a : Addr) (ns : List Int), vs = [V.ref a] ∧ SqT K H a (ns.map V.int) ∧ Q (.int ns.sum) H
theorem cr_sumT (hc : X.calm = true) : CallR X (.builtin "sum") (rSumT X.K) := by
  intro pins s σ H vs us Q I r h
  obtain ⟨a, ns, rfl, hs, q⟩ := h
  obtain ⟨its, rv, hl, _⟩ := I.tuple hs
  rw [Vals.ref1 r]
  have hi := rv.ints
  obtain ⟨xs, e⟩ := hi.allInts.items
  have hn : numsOf (intItems xs).toList = ns := by rw [← e]; exact hi.numsOf
  rw [nums_intItems] at hn
  rw [e] at hl
  refine sum_tupI (I.ok.hd hc) hl fun h' tk t' hk => ?_
  rw [preSum_eq, List.take_of_length_le (by simp), hn]
  exact ⟨.int _, H, I.kept hk, ⟨_, rfl⟩, q⟩

/-! xs.extend(t), t a tuple -/
end
section
open PySem.SeqAt PySem.MeetsSeq PySem.MeetsSeq2 PySem.MeetsSeq3
theorem ext_tup_meets (l b : Addr) (xs ys : Array Value) (n m : Nat) (dd : Option Addr) (sl : Array (Option Value)) (c0 : ¬ (!xs.isEmpty && Builtin.List.listTooLong (xs.size + ys.size)) = true)
    (c1 : xs.size ≤ sizeLine) (c2 : xs.size + ys.size ≤ sizeLine + 1) :
    Meets (Builtin.«list.extend» ⟨[.ref l, .ref b], []⟩)
      (fun _ R s => s.heap.get? l = some { cls := .type "list", data := .seq xs n } ∧ s.heap.get? b = some { cls := .type "tuple", dict := dd, data := .seq ys m, slots := sl } ∧
        R (.ok (.ret Value.none)) { s with heap := s.heap.update l (Obj.mapSeq fun x => x ++ ys) }) :=
  .of_wp fun prog w A R s h => by
    obtain ⟨hp, g, d, tk, os⟩ := s
    obtain ⟨hl, hb, h⟩ := h
    have f4 := AutoSeq1.sub_tuple_list
    have f2 := AutoSeq1.sub_tuple_tuple
    have f3 := AutoSeq1.sub_list_list
    have f5 := AutoSeq1.sub_list_tuple
    have z : (xs ++ ys).size ≤ sizeLine + 1 := by
      rw [Array.size_append]
      exact c2
    wp_walk using (wpAny_updateSeq hl rfl (hz := c1) (_hz' := z)), AutoSeq1.wpAny_loadPart' hl, AutoSeq1.wpAny_loadPart' hb
    exact ⟨_, rfl, h⟩
end
section
variable {X : Cx}
def rExtT (K : PySem.W.Frag) : V → List V → Hp → VK → Prop := fun x vs H Q => ∃ l b xs zs, x = .ref l ∧ vs = [.ref b] ∧ H l = some (.lst xs) ∧ SqT K H b zs ∧ xs.length + zs.length ≤ sizeLine ∧ Q .non (upd H l (.lst (xs ++ zs)))
theorem mt_extT : MtM X "list.extend" (rExtT X.K) := by
  intro pins s σ H x vs v us Q I rx rv h
  obtain ⟨l, b, xs, zs, rfl, rfl, hH, hB, hz, q⟩ := h
  cases rx
  obtain ⟨u, rfl, ru⟩ := rv.one
  cases ru
  obtain ⟨z, its, n, r, hl, e⟩ := I.lstM hH
  obtain ⟨its2, r2, p2, z2⟩ := I.tuple hB
  have hl2 := r2.length
  have hr1 := r.length
  obtain ⟨⟨cls2, dd2, data2, sl2⟩, ho2, hc2, n2, hd2⟩ := id p2
  simp only at hc2 hd2
  subst hc2 hd2
  have hsz : its.toArray.size + its2.toArray.size ≤ sizeLine := by rw [List.size_toArray, List.size_toArray]; omega
  have hlong : ¬ (!its.toArray.isEmpty && Builtin.List.listTooLong (its.toArray.size + its2.toArray.size)) = true := by
    rw [notLongL hsz, Bool.and_false]
    exact Bool.false_ne_true
  refine call_meets F.slot_list_extend ⟨_, e, rfl⟩ F.entry_list_extend (F.args_list_extend_2 _ _)
    (ext_tup_meets l b its.toArray its2.toArray n n2 dd2 sl2 hlong (by rw [List.size_toArray]; omega) (by omega)) ⟨e, ho2, ?_⟩
  refine ⟨.non, _, I.lset (its' := its ++ its2) hH e (by simp) (r.append r2) ?_, rfl, q⟩
  rw [List.length_append]
  omega

/-! sorted(xs) of data -/
theorem each_dp {K : PySem.W.Frag} {H : Hp} {β : Type} {enc : β → PyData} : ∀ {us : List Value} {bs : List β}, W.EachIs (fun u b => ∃ v, RelV v u ∧ Dp K H v (enc b)) us bs → ∃ vs, Vals vs us ∧ DpAll K H vs (bs.map enc)
  | _, _, .nil => ⟨[], .nil, .nil⟩
  | _, _, .cons h t => by
    obtain ⟨v, r, d⟩ := h
    obtain ⟨vs, rs, ds⟩ := each_dp t
    exact ⟨v :: vs, .cons r rs, .cons d ds⟩
theorem dp_each {K : PySem.W.Frag} {H : Hp} {β : Type} {enc : β → PyData} : ∀ {vs : List V} {us : List Value} {bs : List β}, Vals vs us → DpAll K H vs (bs.map enc) → W.EachIs (fun u b => ∃ v, RelV v u ∧ Dp K H v (enc b)) us bs
  | _, _, [], .nil, .nil => .nil
  | _, _, _ :: _, .cons r rs, .cons d ds => .cons ⟨_, r, d⟩ (dp_each rs ds)
def rSortD (K : PySem.W.Frag) : List V → Hp → VK → Prop := fun vs H Q => ∃ (β : Type) (enc : β → PyData) (a : Addr) (bs : List (V × β)), vs = [V.ref a] ∧ SqL K H a (bs.map (·.1)) ∧ DpAll K H (bs.map (·.1)) (bs.map fun b => enc b.2) ∧
  W.AllAlike (bs.map fun b => enc b.2) ∧ W.Sortable (bs.map fun b => enc b.2) ∧ (∀ b ∈ bs, (enc b.2).depth ≤ 60) ∧
  ∀ p : Addr, H p = none → Q (.ref p) (upd H p (.lst ((bs.mergeSort (W.dataLe false fun b => enc b.2)).map (·.1))))
theorem each_fst {β : Type} : ∀ {us : List Value} {bs : List (V × β)}, Vals (bs.map (·.1)) us → W.EachIs (fun u b => RelV b.1 u) us bs
  | _, [], .nil => .nil
  | _, _ :: _, .cons r rs => .cons r (each_fst rs)
theorem fst_each {β : Type} : ∀ {us : List Value} {bs : List (V × β)}, W.EachIs (fun u b => RelV b.1 u) us bs → Vals (bs.map (·.1)) us
  | _, _, .nil => .nil
  | _, _, .cons r rs => .cons r (fst_each rs)
theorem each_map2 {α β γ : Type} {R : α → γ → Prop} (f : β → γ) : ∀ {as : List α} {bs : List β}, W.EachIs R as (bs.map f) → W.EachIs (fun a b => R a (f b)) as bs
  | [], [], .nil => .nil
  | _ :: _, _ :: _, .cons h t => .cons h (each_map2 f t)
theorem cr_sortD (hu : X.A.units + 64 < cLine) : CallR X (.builtin "sorted") (rSortD X.K) := by
  intro pins s σ H vs us Q I r h
  obtain ⟨β, enc, a, bs, rfl, hs, hd, hal, hk, hz, q⟩ := h
  obtain ⟨its, rv, hl, hlen⟩ := I.list hs
  rw [Vals.ref1 r]
  obtain ⟨as, hr⟩ := Dp.readsAll I _ _ _ hd rv
  have e := each_fst rv
  have hbl : bs.length ≤ sizeLine := by
    rw [List.length_map] at hlen
    exact hlen
  refine W.sorted_data (enc := fun b : V × β => enc b.2) hl.isList e (W.readsAll_each (fun b : V × β => enc b.2) hr) hal hk hbl (fun b hb => by have := hz b hb; omega) fun out h1 h2 => ?_
  have r1 := fst_each h2
  obtain ⟨n, hn⟩ := PyProof.Rows.sortedAll_at s.heap its out.toArray
  have hp : H (s.heap.objs.size + 1) = none := I.hok.fresh (Nat.le_succ _)
  refine ⟨.ref (s.heap.objs.size + 1), _, I.laid (t' := s.toks) (o := .lst ((bs.mergeSort (W.dataLe false fun b => enc b.2)).map (·.1))) (fun b o e => PyProof.Rows.sortedAll_old e) (Nat.le_succ _) ⟨by rw [List.length_map, List.length_mergeSort]; exact hbl, out, n, r1, hn⟩, rfl, q _ hp⟩

/-! o.f as a target -/
def gFld (K : PySem.W.Frag) (ta : TE) (f : Str) : TG := fun v σ H Q => ta σ H fun x H1 => ∃ a C dx fs, x = .ref a ∧ H1 a = some (.ins C dx fs) ∧ Cls K C ∧ NoAttr K C f ∧ fs.length < 1000 ∧ Q σ (upd H1 a (.ins C dx (putF f v fs)))
theorem pg_fld {o : Expr} {ta : TE} {f : Str} {pos : Pos} (ha : PE X o ta) : PG X (.Attribute o f pos) (gFld X.K ta f) := by
  refine ⟨fun pins s σ H v u Q I r h => ?_⟩
  rw [assign_Attribute]
  refine wpAny_bind (wpAny_holding (thn (ha.run pins s σ H _ I h) fun ov s1 ⟨x, H1, I1, r1, a, C, dx, fs, ex, ea, c, n, l, q⟩ => ?_))
  subst ex
  obtain rfl : ov = Value.ref a := r1
  refine wpAny_bind (wpAny_standAt (wpAny_bind (wpAny_holding (setattr_ok I1 ea c n l r fun s3 I3 => ?_))))
  exact wpAny_release ⟨σ, _, I3, q⟩

/-! what an expression made is read from now on, never written -/
def tFrz (t : TE) : TE := fun σ H Q => t σ H fun v H' => ∃ d u, v = .ref d ∧ H' d = some u ∧ Mut (some u) ∧ ∀ od, Q v (upd H' d (.frz od u))
theorem pe_frz {e : Expr} {t : TE} (h : PE X e t) : PE X e (tFrz t) := by
  refine ⟨fun pins s σ H Q I hw => ?_⟩
  refine thn (h.run pins s σ H _ I hw) fun v s1 ⟨x, H1, I1, r, d, u, ex, hd, mu, q⟩ => ?_
  obtain ⟨od, I2⟩ := I1.lock hd mu
  exact ⟨x, _, I2, r, q od⟩
end
end Bx

set_option Elab.async false
set_option linter.all false
set_option maxRecDepth 100000
set_option maxHeartbeats 4000000
set_option autoImplicit false
/-! a tuple times one; one of two readings -/
namespace Bx
open PySem PySem.Spec PyProof.Rows L2
theorem tuple_mul1 (l : Addr) (items : Array Value) (n : Nat) (sl : Array (Option Value)) (dd : Option Addr) (u : Tok) :
    Meets (Builtin.«tuple.__mul__» ⟨[.ref l, .int 1 u], []⟩) (fun _ R s => s.heap.get? l = some { cls := .type "tuple", dict := dd, data := .seq items n, slots := sl } ∧ R (.ok (.ret (Value.ref l))) s) :=
  .of_wp fun prog w A R s h => by
    obtain ⟨hp, g, d, tk, os⟩ := s
    obtain ⟨hl, h⟩ := h
    have f1 := AutoSeq1.idx_int
    wp_walk using wpAny_loadPart' hl
    exact ⟨_, rfl, h⟩
section
variable {X : Cx}
def rRep1 (K : PySem.W.Frag) : R2 := fun x y H Q => ∃ l xs, x = .ref l ∧ y = .int 1 ∧ SqT K H l xs ∧ Q (.ref l) H
theorem op_rep1 : OpR X (binaryOp .Mult) (rRep1 X.K) := by
  intro pins s σ H x y v u Q I rx ry h
  obtain ⟨l, xs, rfl, rfl, hT, q⟩ := h
  cases rx
  obtain ⟨t, rfl⟩ := ry
  obtain ⟨its, r, ⟨⟨cls, dd, data, sl⟩, ho, hc, n, hd⟩, hs⟩ := I.tuple hT
  simp only at hc hd
  subst hc hd
  exact wpAny_binaryOp_repeat_ref (T := "tuple") (U := "int") (by decide) ⟨_, ho, rfl⟩ (fun s' => typeIs_int s' 1 t) noFill_tuple_mul F.fills_int_mul F.slot_int_rmul repeat_tuple F.slot_int_index.lookup
    (call_meets F.slot_int_rmul (typeIs_int s 1 t) F.entry_int_rmul (F.args_int_rmul_2 _ _) (int_rmul_tuple 1 t l its.toArray n dd sl)
      ⟨ho, rfl, ⟨_, ho, rfl⟩, call_meets F.slot_tuple_mul ⟨_, ho, rfl⟩ F.entry_tuple_mul (F.args_tuple_mul_2 _ _) (tuple_mul1 l its.toArray n sl dd t) ⟨ho, .ref l, H, I, rfl, q⟩⟩)
theorem op_or {op : Value → Value → Sem Value} {r r' : R2} (h : OpR X op r) (h' : OpR X op r') : OpR X op (fun x y H Q => r x y H Q ∨ r' x y H Q) := by
  intro pins s σ H x y v u Q I rx ry q
  rcases q with q | q
  · exact h pins s σ H x y v u Q I rx ry q
  · exact h' pins s σ H x y v u Q I rx ry q
theorem pi_or {tg it : Expr} {w1 w2 : TI} (h : PI X tg it w1) (h' : PI X tg it w2) : PI X tg it (fun σ H F => w1 σ H F ∨ w2 σ H F) := ⟨fun pins s σ H R I q => by
  rcases q with q | q
  · exact h.run pins s σ H R I q
  · exact h'.run pins s σ H R I q⟩
end
end Bx

set_option Elab.async false
set_option linter.all false
set_option maxRecDepth 100000
set_option maxHeartbeats 4000000
set_option autoImplicit false
/-! sets of tuples of ints, up to a thousand of them: set(list), sorted(set), len(set) -/
namespace Bx
open PySem L2

/-! the masks: 7, 31, 127, 511, 2047 -/
def orb (m : Nat) : Nat → Nat → Nat → Nat
  | 0, _, acc => acc
  | k + 1, x, acc => orb m k ((x * 5 + 1) % (m + 1)) (acc ||| (1 <<< x))
theorem orb_at (m j : Nat) : ∀ (k x acc : Nat), (orb m k x acc).testBit j = true → acc.testBit j = true ∨ ∃ b, b < k ∧ lcgI m x b = j
  | 0, _, _, h => .inl h
  | k + 1, x, acc, h => by
    rcases orb_at m j k _ _ h with q | ⟨b, hb, e⟩
    · rw [Nat.testBit_or, Bool.or_eq_true] at q
      rcases q with q | q
      · exact .inl q
      · refine .inr ⟨0, Nat.succ_pos _, ?_⟩
        rw [Nat.one_shiftLeft, Nat.testBit_two_pow] at q
        exact of_decide_eq_true q
    · refine .inr ⟨b + 1, Nat.succ_lt_succ hb, ?_⟩
      rw [← e]
      have key : ∀ c, lcgI m x (c + 1) = lcgI m ((x * 5 + 1) % (m + 1)) c := by
        intro c
        induction c with
        | zero => rfl
        | succ c ih =>
          show (lcgI m x (c + 1) * 5 + 1) % (m + 1) = (lcgI m ((x * 5 + 1) % (m + 1)) c * 5 + 1) % (m + 1)
          rw [ih]
      exact key b
/-- from 0 all slots are met, and the round ends at 0 -/
def RndOk (m : Nat) : Prop := orb m (m + 1) 0 0 = 2 ^ (m + 1) - 1 ∧ lcgI m 0 (m + 1) = 0
instance (m : Nat) : Decidable (RndOk m) := by unfold RndOk; exact inferInstance
theorem rnd7 : RndOk 7 := by decide +kernel
theorem rnd31 : RndOk 31 := by decide +kernel
theorem rnd127 : RndOk 127 := by decide +kernel
theorem rnd511 : RndOk 511 := by decide +kernel
theorem rnd2047 : RndOk 2047 := by decide +kernel
def Mk (m : Nat) : Prop := m = 7 ∨ m = 31 ∨ m = 127 ∨ m = 511 ∨ m = 2047
theorem Mk.rnd {m : Nat} (h : Mk m) : RndOk m := by
  rcases h with e | e | e | e | e <;> subst e
  · exact rnd7
  · exact rnd31
  · exact rnd127
  · exact rnd511
  · exact rnd2047
theorem Mk.le {m : Nat} (h : Mk m) : 7 ≤ m ∧ m ≤ 2047 ∧ m % 2 = 1 := by
  rcases h with e | e | e | e | e <;> subst e <;> decide
theorem lcg_go (m : Nat) : ∀ (a x k : Nat), lcgI m (lcgI m x a) k = lcgI m x (a + k)
  | a, x, 0 => rfl
  | a, x, k + 1 => by
    show (lcgI m (lcgI m x a) k * 5 + 1) % (m + 1) = (lcgI m x (a + k) * 5 + 1) % (m + 1)
    rw [lcg_go m a x k]
theorem Mk.hit {m : Nat} (h : Mk m) {j : Nat} (hj : j ≤ m) : ∃ b, b ≤ m ∧ lcgI m 0 b = j := by
  have q : (orb m (m + 1) 0 0).testBit j = true := by
    rw [h.rnd.1, Nat.testBit_two_pow_sub_one]
    exact decide_eq_true (by omega)
  rcases orb_at m j _ _ _ q with z | ⟨b, hb, e⟩
  · rw [Nat.zero_testBit] at z
    cases z
  · exact ⟨b, by omega, e⟩
theorem Mk.reach {m : Nat} (h : Mk m) {i j : Nat} (hi : i ≤ m) (hj : j ≤ m) : ∃ k, k ≤ m ∧ lcgI m i k = j := by
  obtain ⟨a, ha, ea⟩ := h.hit hi
  obtain ⟨b, hb, eb⟩ := h.hit hj
  by_cases c : a ≤ b
  · exact ⟨b - a, by omega, by rw [← ea, lcg_go, show a + (b - a) = b by omega, eb]⟩
  · refine ⟨m + 1 - a + b, by omega, ?_⟩
    rw [← ea, lcg_go, show a + (m + 1 - a + b) = m + 1 + b by omega, ← lcg_go, h.rnd.2, eb]
theorem Mk.runs {m : Nat} (hm : Mk m) (h : Int) {j : Nat} (hj : j ≤ m) : ∃ n, n ≤ m + 12 ∧ runI m (SetTable.bits h) n = j := by
  obtain ⟨k, hk, e⟩ := hm.reach (runI_le m (SetTable.bits h) 12) hj
  refine ⟨12 + k, by omega, ?_⟩
  rw [runI_tail (bits_lt h), e]
theorem Mk.ways {m : Nat} (hm : Mk m) (h : Int) {j : Nat} (hj : j ≤ m) : ∃ k, k < 10 * SetTable.turns m ∧ way m h k = j := by
  obtain ⟨n, hn, e⟩ := hm.runs h hj
  obtain ⟨k, hk, e2⟩ := run_nth m (SetTable.bits h) n
  refine ⟨k, by unfold SetTable.turns; omega, ?_⟩
  show (nth m (runAt m (SetTable.bits h % (m + 1)) (SetTable.bits h)) k).j = j
  rw [e2]
  exact e
theorem way_in (m : Nat) (h : Int) (k : Nat) : way m h k ≤ m := by
  have hi : SetTable.bits h % (m + 1) ≤ m := Nat.le_of_lt_succ (Nat.mod_lt _ (Nat.succ_pos _))
  have r := runEnd_bd hi
  have q := nth_in (m := m) k (runAt m (SetTable.bits h % (m + 1)) (SetTable.bits h)) (show SetTable.bits h % (m + 1) + (SetTable.runEnd m (SetTable.bits h % (m + 1)) - SetTable.bits h % (m + 1)) ≤ m by omega)
  exact Nat.le_trans (Nat.le_add_right _ _) q

/-! tables in which each entry is found again -/
structure Tb (t : SetTable) (hs : List Int) : Prop where
  up : Ris t.place.toList
  nodum : t.dummies = #[]
  cnt : t.place.size = hs.length
  msk : Mk t.mask
  fd : ∀ (i : Nat) (h : Int) (j : Nat), hs[i]? = some h → t.place.toList[i]? = some j → ∃ k, way t.mask h k = j ∧ ∀ c, c < k → way t.mask h c ∈ t.place.toList
theorem Tb.gap {t : SetTable} {hs : List Int} (T : Tb t hs) (hl : hs.length ≤ t.mask) (h : Int) :
    ∃ K, K < 10 * SetTable.turns t.mask ∧ way t.mask h K ∉ t.place.toList ∧ ∀ c, c < K → way t.mask h c ∈ t.place.toList := by
  obtain ⟨j, hj, hn⟩ := st_missing t.place.toList (t.mask + 1) (by rw [Array.length_toList, T.cnt]; omega)
  obtain ⟨k, hk, e⟩ := T.msk.ways h (show j ≤ t.mask by omega)
  obtain ⟨K, k1, k2, k3⟩ := st_least (p := fun c => way t.mask h c ∉ t.place.toList) k (by rw [e]; exact hn)
  exact ⟨K, by omega, k2, fun c hc => Classical.not_not.mp (k3 c hc)⟩
theorem Tb.ahead {t : SetTable} {hs : List Int} (T : Tb t hs) {h : Int} {K i j : Nat} (hK : way t.mask h K ∉ t.place.toList) (hi : hs[i]? = some h) (hj : t.place.toList[i]? = some j) :
    ∃ c, c < K ∧ way t.mask h c = j := by
  obtain ⟨c, e, hb⟩ := T.fd i h j hi hj
  refine ⟨c, Nat.lt_of_not_le fun hle => ?_, e⟩
  rcases Nat.lt_or_eq_of_le hle with z | z
  · exact hK (hb K z)
  · rw [z, e] at hK
    exact hK (List.mem_of_getElem? hj)
/-- the table with one more at the first gap -/
structure Put (t : SetTable) (hs : List Int) (h : Int) (q : SetTable × Nat) : Prop where
  le : q.2 ≤ hs.length
  tb : Tb q.1 (hs.take q.2 ++ h :: hs.drop q.2)
  mask : q.1.mask = t.mask
  led : q.1.led = t.led
  plain : q.1.plain = t.plain
  fill : q.1.fill = hs.length + 1
theorem Tb.put {t : SetTable} {hs : List Int} (T : Tb t hs) {h : Int} {K : Nat} (hK : way t.mask h K ∉ t.place.toList) (hb : ∀ c, c < K → way t.mask h c ∈ t.place.toList) : Put t hs h (t.put (way t.mask h K)) := by
  generalize hj : way t.mask h K = j at hK
  have cut := (below_cut T.up j).1
  have lenp : t.place.toList.length = hs.length := by rw [Array.length_toList, T.cnt]
  have le1 : SetTable.below t.place j ≤ t.place.toList.length := by rw [Array.length_toList]; exact cut
  have le2 : SetTable.below t.place j ≤ hs.length := by rw [← lenp]; exact le1
  have pl := put_place t j
  have new : t.place[SetTable.below t.place j]? ≠ some j := fun e => hK (List.mem_of_getElem? (by rw [Array.getElem?_toList]; exact e))
  have sz : (t.put j).1.place.size = hs.length + 1 := by rw [← Array.length_toList, pl, len_ins _ le1, lenp]
  have grow : ∀ x, x ∈ t.place.toList → x ∈ (t.put j).1.place.toList := fun x hx => by
    rw [pl]
    exact mem_ins.2 (.inr hx)
  refine ⟨le2, ⟨ris_insert T.up new, put_dm T.nodum j, ?_, T.msk, fun i h' j' h1 h2 => ?_⟩, rfl, rfl, rfl, ?_⟩
  · show (t.put j).1.place.size = (hs.take (SetTable.below t.place j) ++ h :: hs.drop (SetTable.below t.place j)).length
    rw [len_ins _ le2, sz]
  · change (hs.take (SetTable.below t.place j) ++ h :: hs.drop (SetTable.below t.place j))[i]? = some h' at h1
    rw [tins_get hs le2] at h1
    rw [pl, tins_get _ le1] at h2
    show ∃ k, way t.mask h' k = j' ∧ ∀ c, c < k → way t.mask h' c ∈ (t.put j).1.place.toList
    split at h1
    · rename_i c
      rw [if_pos c] at h2
      obtain ⟨k, e, z⟩ := T.fd i h' j' h1 h2
      exact ⟨k, e, fun c hc => grow _ (z c hc)⟩
    · rename_i c
      rw [if_neg c] at h2
      split at h1
      · rename_i d
        rw [if_pos d] at h2
        cases h1
        cases h2
        exact ⟨K, hj, fun c hc => grow _ (hb c hc)⟩
      · rename_i d
        rw [if_neg d] at h2
        obtain ⟨k, e, z⟩ := T.fd (i - 1) h' j' h1 h2
        exact ⟨k, e, fun c hc => grow _ (z c hc)⟩
  · show (t.put j).1.place.size + (t.put j).1.dummies.size = hs.length + 1
    rw [sz, put_dm T.nodum j]
    rfl

/-! laid anew -/
theorem gap_free {m : Nat} (hm : Mk m) (owner : Array (Option Nat)) (h : Int) {j : Nat} (hj : j ≤ m) (hf : oAt owner j = none) :
    ∃ K, SetTable.layClean.free m owner (SetTable.turns m) (SetTable.bits h % (m + 1)) (SetTable.bits h) = some (way m h K) ∧ oAt owner (way m h K) = none ∧ ∀ c, c < K → oAt owner (way m h c) ≠ none := by
  obtain ⟨n, hn, e⟩ := hm.runs h hj
  have at_j : way m h (off m (SetTable.bits h % (m + 1)) (SetTable.bits h) n) = j := by
    show (nth m (runAt m (SetTable.bits h % (m + 1)) (SetTable.bits h)) (off m (SetTable.bits h % (m + 1)) (SetTable.bits h) n)).j = j
    rw [nth_off, itL_run]
    exact e
  obtain ⟨K, k1, k2, k3⟩ := st_least (p := fun c => oAt owner (way m h c) = none) _ (show oAt owner (way m h (off m (SetTable.bits h % (m + 1)) (SetTable.bits h) n)) = none by rw [at_j]; exact hf)
  refine ⟨K, free_spec m owner _ n _ _ K (by unfold SetTable.turns; omega) k1 (fun c hc => ?_) ?_, k2, k3⟩
  · cases z : oAt owner (nth m (runAt m (SetTable.bits h % (m + 1)) (SetTable.bits h)) c).j with
    | none => exact absurd z (k3 c hc)
    | some _ => rfl
  · rw [show oAt owner (nth m (runAt m (SetTable.bits h % (m + 1)) (SetTable.bits h)) K).j = none from k2]
    rfl
structure Ow (m : Nat) (done : List Int) (owner : Array (Option Nat)) : Prop where
  sz : owner.size = m + 1
  src : ∀ j k, j ≤ m → oAt owner j = some k → ∃ h K, done[k]? = some h ∧ way m h K = j ∧ ∀ c, c < K → oAt owner (way m h c) ≠ none
  all : ∀ k, k < done.length → ∃ j, j ≤ m ∧ oAt owner j = some k
  few : ∃ ps : List Nat, ps.length = done.length ∧ ∀ j, j ≤ m → oAt owner j ≠ none → j ∈ ps
theorem Ow.step {m : Nat} (hm : Mk m) {done : List Int} {owner : Array (Option Nat)} (W : Ow m done owner) (hl : done.length ≤ m) (h : Int) :
    ∃ j, SetTable.layClean.free m owner (SetTable.turns m) (SetTable.bits h % (m + 1)) (SetTable.bits h) = some j ∧ Ow m (done ++ [h]) (owner.setIfInBounds j (some done.length)) := by
  obtain ⟨ps, lps, inps⟩ := W.few
  obtain ⟨j0, h0, n0⟩ := st_missing ps (m + 1) (by omega)
  have f0 : oAt owner j0 = none := Classical.not_not.mp fun z => n0 (inps j0 (by omega) z)
  obtain ⟨K, e1, e2, e3⟩ := gap_free hm owner h (show j0 ≤ m by omega) f0
  have inb : way m h K < owner.size := by
    rw [W.sz]
    exact Nat.lt_succ_of_le (way_in m h K)
  have self := oAt_set_self (some done.length) inb
  have keep : ∀ i, oAt owner i ≠ none → oAt (owner.setIfInBounds (way m h K) (some done.length)) i ≠ none := fun i hi => by
    by_cases c : i = way m h K
    · rw [c] at hi
      exact absurd e2 hi
    · rw [oAt_set_ne _ c]
      exact hi
  have dl : (done ++ [h]).length = done.length + 1 := by simp
  refine ⟨_, e1, ⟨by rw [Array.size_setIfInBounds, W.sz], fun j k hj e => ?_, fun k hk => ?_, way m h K :: ps, by rw [List.length_cons, lps, dl], fun j hj e => ?_⟩⟩
  · by_cases c : j = way m h K
    · rw [c, self] at e
      cases e
      exact ⟨h, K, by simp, c.symm, fun c hc => keep _ (e3 c hc)⟩
    · rw [oAt_set_ne _ c] at e
      obtain ⟨h', K', a1, a2, a3⟩ := W.src j k hj e
      have hk : k < done.length := (List.getElem?_eq_some_iff.mp a1).1
      exact ⟨h', K', by rw [List.getElem?_append_left hk]; exact a1, a2, fun c hc => keep _ (a3 c hc)⟩
  · rw [dl] at hk
    by_cases c : k = done.length
    · exact ⟨way m h K, way_in m h K, by rw [self, c]⟩
    · obtain ⟨j, hj, e⟩ := W.all k (by omega)
      refine ⟨j, hj, ?_⟩
      rw [oAt_set_ne _ fun z => by rw [z, e2] at e; cases e]
      exact e
  · by_cases c : j = way m h K
    · rw [c]
      exact List.mem_cons_self
    · rw [oAt_set_ne _ c] at e
      exact List.mem_cons_of_mem _ (inps j hj e)
theorem Ow.none (m : Nat) : Ow m [] (Array.replicate (m + 1) Option.none) where
  sz := by simp
  src := fun j k hj e => by
    rw [oAt_init hj] at e
    cases e
  all := fun k hk => absurd hk (Nat.not_lt_zero _)
  few := ⟨[], rfl, fun j hj e => absurd (oAt_init hj) e⟩
theorem Ow.fold {m : Nat} (hm : Mk m) : ∀ (rest done : List Int) (owner : Array (Option Nat)), Ow m done owner → done.length + rest.length ≤ m →
    ∃ o2, rest.foldl (stepF m) (some (owner, done.length)) = some (o2, (done ++ rest).length) ∧ Ow m (done ++ rest) o2
  | [], done, owner, W, _ => ⟨owner, by simp, by simpa using W⟩
  | h :: rest, done, owner, W, hl => by
    rw [List.length_cons] at hl
    obtain ⟨j, e, W1⟩ := W.step hm (by omega) h
    have dl : (done ++ [h]).length = done.length + 1 := by simp
    obtain ⟨o2, f, W2⟩ := Ow.fold hm rest (done ++ [h]) _ W1 (by omega)
    rw [dl, List.append_assoc] at f
    rw [List.append_assoc] at W2
    refine ⟨o2, ?_, W2⟩
    rw [List.foldl_cons, stepF_some e]
    exact f
theorem relay_ok (t : SetTable) {hs : Array Int} {wanted M : Nat} (hw : SetTable.sizeAbove wanted - 1 = M) (hM : Mk M) (hn : hs.size ≤ M) :
    ∃ t2 order, t.relaid hs wanted = some (t2, order) ∧ order.toList.Perm (List.range hs.size) ∧ Tb t2 (order.toList.map fun i => hs.getD i 0) ∧ t2.mask = M ∧ t2.led = t.led ∧ t2.plain = t.plain := by
  have hz : hs.toList.length = hs.size := rfl
  obtain ⟨owner, f, W⟩ := Ow.fold hM hs.toList [] _ (Ow.none M) (by show 0 + hs.toList.length ≤ M; omega)
  rw [List.nil_append] at W f
  have e : SetTable.layClean M hs = some owner := by
    rw [layClean_eq]
    have f2 : hs.toList.foldl (stepF M) (some (Array.replicate (M + 1) Option.none, 0)) = some (owner, hs.toList.length) := f
    rw [f2]
    rfl
  have r : t.relaid hs wanted = some (tabOf t M owner, ((liveOf M owner).map (·.2)).toArray) := by
    rw [relaid_eq, hw, e]
    rfl
  have up := ris_live (fun j => owner.getD j Option.none) (List.range (M + 1)) List.pairwise_lt_range
  have r1 : Ris ((liveOf M owner).map (·.1)) := up.1
  have nd : ((liveOf M owner).map (·.1)).Nodup := List.Pairwise.imp (fun h => Nat.ne_of_lt h) r1
  have len : (liveOf M owner).length = hs.size := by
    obtain ⟨ps, p1, p2⟩ := W.few
    have a := nat_nodup_len ((liveOf M owner).map (·.1)) ps nd fun x hx => by
      obtain ⟨⟨y, k⟩, hq, ey⟩ := List.mem_map.mp hx
      obtain ⟨b1, b2⟩ := (mem_live W.sz).1 hq
      have ey' : y = x := ey
      rw [← ey']
      exact p2 y b1 (by rw [b2]; exact fun z => nomatch z)
    have b := nat_nodup_len (List.range hs.size) ((liveOf M owner).map (·.2)) List.nodup_range fun k hk => by
      obtain ⟨j, b1, b2⟩ := W.all k (by rw [hz]; exact List.mem_range.mp hk)
      exact List.mem_map.mpr ⟨(j, k), (mem_live W.sz).2 ⟨b1, b2⟩, rfl⟩
    rw [List.length_map, p1] at a
    rw [List.length_map, List.length_range] at b
    omega
  refine ⟨_, _, r, perm_range _ _ ?_ fun k hk => ?_, ⟨r1, rfl, ?_, hM, fun i h j h1 h2 => ?_⟩, rfl, rfl, rfl⟩
  · show ((liveOf M owner).map (·.2)).length = hs.size
    rw [List.length_map, len]
  · obtain ⟨j, b1, b2⟩ := W.all k (by rw [hz]; exact hk)
    exact List.mem_map.mpr ⟨(j, k), (mem_live W.sz).2 ⟨b1, b2⟩, rfl⟩
  · show ((liveOf M owner).map (·.1)).toArray.size = (((liveOf M owner).map (·.2)).map fun i => hs.getD i 0).length
    simp
  · have g1 : (((liveOf M owner).map (·.2)).map fun i => hs.getD i 0)[i]? = some h := h1
    have g2 : ((liveOf M owner).map (·.1))[i]? = some j := h2
    rw [List.map_map, List.getElem?_map] at g1
    rw [List.getElem?_map] at g2
    cases hq : (liveOf M owner)[i]? with
    | none =>
      rw [hq] at g2
      cases g2
    | some q =>
      obtain ⟨y, k⟩ := q
      rw [hq] at g1 g2
      obtain rfl : y = j := Option.some.inj g2
      obtain rfl : hs.getD k 0 = h := Option.some.inj g1
      obtain ⟨b1, b2⟩ := (mem_live W.sz).1 (List.mem_of_getElem? hq)
      obtain ⟨h0, K, a1, a2, a3⟩ := W.src y k b1 b2
      have e0 : hs.getD k 0 = h0 := by
        rw [Array.getD_eq_getD_getElem?, ← Array.getElem?_toList, a1]
        rfl
      rw [e0]
      refine ⟨K, a2, fun c hc => ?_⟩
      show way M h0 c ∈ (liveOf M owner).map (·.1)
      cases z : oAt owner (way M h0 c) with
      | none => exact absurd z (a3 c hc)
      | some k2 => exact List.mem_map.mpr ⟨(way M h0 c, k2), (mem_live W.sz).2 ⟨way_in M h0 c, z⟩, rfl⟩

/-! the set of tuples on the heap -/
section
variable {P : Program} {w : World} {A : Around} {E : Value → Shared → Prop} {s : Shared}
structure Ts (P : Program) (w : World) (h : Heap) (a : Addr) (L : List (Addr × List Int)) (es : Array (Int × Value)) (ep : Nat) (t : SetTable) : Prop where
  ob : ∃ o, h.get? a = some o ∧ o.ExactSet ∧ o.data = .set es ep t
  rows : es.toList = rowsOf P w L
  tab : Tb t (L.map fun p => thash P w p.2)
  nd : (L.map (·.2)).Nodup
  tup : ∀ p ∈ L, IsT P w h p.2 p.1
  plain : t.plain = true
  led : w.params.followText "set-order" = true ∨ t.led = true
  room : L.length * 5 < t.mask * 3
variable {a : Addr} {L : List (Addr × List Int)} {es : Array (Int × Value)} {ep : Nat} {t : SetTable}
theorem rows_len (h : es.toList = rowsOf P w L) : es.size = L.length := by
  have e := congrArg List.length h
  unfold rowsOf at e
  rw [List.length_map] at e
  exact e
theorem Ts.cnt (R : Ts P w s.heap a L es ep t) : t.place.size = L.length := by
  have h := R.tab.cnt
  rw [List.length_map] at h
  exact h
theorem Ts.few (R : Ts P w s.heap a L es ep t) : L.length ≤ 1228 := by
  have h := R.room
  have m := R.tab.msk.le
  omega
theorem fits_of (hd : t.dummies = #[]) (h1 : t.place.size = es.size) (h2 : es.size ≤ t.mask) : t.fits es.size = true := by
  unfold SetTable.fits SetTable.fill
  rw [hd, Bool.and_eq_true, beq_iff_eq, decide_eq_true_eq]
  exact ⟨h1, by show t.place.size + 0 ≤ t.mask; omega⟩
theorem Ts.fits (R : Ts P w s.heap a L es ep t) : t.fits es.size = true := by
  have h1 := R.cnt
  have h2 := rows_len R.rows
  have h3 := R.room
  exact fits_of R.tab.nodum (by omega) (by omega)
theorem Ts.row (R : Ts P w s.heap a L es ep t) {i : Nat} {p : Addr × List Int} (h : L[i]? = some p) : es[i]? = some (thash P w p.2, Value.ref p.1) := by
  rw [← Array.getElem?_toList, R.rows]
  unfold rowsOf
  rw [List.getElem?_map, h]
  rfl
theorem Ts.stays (R : Ts P w s.heap a L es ep t) : ¬ t.gaveWay = true := by
  unfold SetTable.gaveWay
  rw [R.tab.msk.le.2.2]
  decide

/-- the search from the c-th step on, c not beyond the first gap K -/
theorem Ts.find (R : Ts P w s.heap a L es ep t) {x : Addr} {k : List Int} (hx : IsT P w s.heap k x) (hu : A.units < cLine) {K : Nat} (hKf : K < 10 * SetTable.turns t.mask)
    (hK : way t.mask (thash P w k) K ∉ t.place.toList) (hKb : ∀ c, c < K → way t.mask (thash P w k) c ∈ t.place.toList) {Q : SetFound → Shared → Prop}
    (yes : k ∈ L.map (·.2) → Q (.there none) s) (no : k ∉ L.map (·.2) → Q (.free (way t.mask (thash P w k) K) false) s) :
    ∀ (f c : Nat) (st : Option SetTable.Probe), st.getD (t.probeStart (thash P w k)) = nth t.mask (runAt t.mask (SetTable.bits (thash P w k) % (t.mask + 1)) (SetTable.bits (thash P w k))) c → c ≤ K → K - c < f →
      (∀ (i : Nat) p, L[i]? = some p → p.2 = k → ∃ d, c ≤ d ∧ d < K ∧ t.place.toList[i]? = some (way t.mask (thash P w k) d)) →
      wpAny (model P w) A (setSearchFrom a (.ref x) (thash P w k) true f st) Q E s
  | 0, _, _, _, _, hf, _ => absurd hf (Nat.not_lt_zero _)
  | f + 1, c, st, hst, hc, hf, hre => by
    obtain ⟨o, ho, hex, hd⟩ := R.ob
    rw [setSearchFrom_succ]
    refine wpAny_bind (wpAny_setState_of ho hd R.fits ?_)
    dsimp only
    refine wp_if_neg R.stays ?_
    try refine wpAny_bind (wpAny_pure ?_)
    generalize hpr0 : nth t.mask (runAt t.mask (SetTable.bits (thash P w k) % (t.mask + 1)) (SetTable.bits (thash P w k))) c = pr at hst
    have nodum : pr.dummy = none := by
      have go : ∀ (n : Nat) (p : SetTable.Probe), p.dummy = none → (nth t.mask p n).dummy = none := by
        intro n
        induction n with
        | zero => exact fun p h => h
        | succ n ih =>
          refine fun p h => ih (adv t.mask p) ?_
          unfold adv
          split <;> exact h
      rw [← hpr0]
      exact go c _ rfl
    have step : ∀ q, (nth t.mask pr q).j = way t.mask (thash P w k) (c + q) := fun q => by
      rw [← hpr0]
      exact congrArg SetTable.Probe.j (nth_add t.mask c _ q).symm
    have hash : ∀ (i : Nat) p, L[i]? = some p → (es[i]?.map (·.1)).getD 0 = thash P w p.2 := fun i p hp => by
      rw [R.row hp]
      rfl
    have spec := go_spec t R.tab.up R.tab.nodum (fun i => (es[i]?.map (·.1)).getD 0) (thash P w k) (10 * SetTable.turns t.mask) (K - c) pr nodum (by omega)
      (fun q hq => by rw [step]; exact hKb (c + q) (by omega)) (by rw [step, show c + (K - c) = K by omega]; exact hK)
    rcases spec with ⟨q, i, hq, hi, hh, hno, hpr⟩ | ⟨hno, hpr⟩
    · have hpr' : t.probe (fun i => (es[i]?.map (·.1)).getD 0) (thash P w k) (st.getD (t.probeStart (thash P w k))) = some (.candidate (nth t.mask pr q).j i (nth t.mask pr (q + 1))) := by
        rw [hst]
        exact hpr
      rw [hpr']
      dsimp only
      have il : i < L.length := by
        have h1 := (List.getElem?_eq_some_iff.mp hi).1
        rw [Array.length_toList, R.cnt] at h1
        exact h1
      have hp : L[i]? = some L[i] := List.getElem?_eq_getElem il
      generalize L[i] = p at hp
      have pm : p ∈ L := List.mem_of_getElem? hp
      have live : t.slot (nth t.mask pr q).j = .live i := slot_live R.tab.up hi
      have rest : wpAny (model P w) A (searchRest a (.ref x) (thash P w k) true f es t (nth t.mask pr q).j i (nth t.mask pr (q + 1))) Q E s := by
        unfold searchRest
        rw [R.row hp]
        dsimp only
        refine wpAny_bind (wpAny_holding (wpAny_eqBool_tuple hu (R.tup p pm) hx ?_))
        refine wpAny_bind (wpAny_setState_of ho hd R.fits ?_)
        dsimp only
        by_cases same : p.2 = k
        · refine wp_if_pos (by simp [same]) (wpAny_pure (yes ?_))
          exact List.mem_map.mpr ⟨p, pm, same⟩
        · refine wp_if_neg (by simp [same]) ?_
          try refine wpAny_bind (wpAny_pure ?_)
          rw [sameMem]
          dsimp only
          simp only [if_true, live, R.row hp]
          refine wpAny_bind (wpAny_isSame_ref_self (wpAny_bind (wpAny_pure ?_)))
          simp only [if_true]
          refine wp_if_neg (by simp [same]) ?_
          refine Ts.find R hx hu hKf hK hKb yes no f (c + (q + 1)) _ ?_ (by omega) (by omega) fun i0 p0 h0 k0 => ?_
          · show nth t.mask pr (q + 1) = _
            rw [← hpr0, ← nth_add]
          · obtain ⟨d, d1, d2, d3⟩ := hre i0 p0 h0 k0
            refine ⟨d, ?_, d2, d3⟩
            have far : ¬ d < c + q := fun z => hno (d - c) i0 (by omega) (by rw [step, show c + (d - c) = d by omega]; exact d3) ((hash i0 p0 h0).trans (congrArg (thash P w) k0))
            have off : d ≠ c + q := fun z => by
              rw [z, ← step] at d3
              have l2 := slot_live R.tab.up d3
              rw [live] at l2
              injection l2 with l2
              rw [← l2, hp] at h0
              exact same ((congrArg Prod.snd (Option.some.inj h0)).trans k0)
            omega
      by_cases hl : t.led = true
      · refine wp_if_neg (by simp [hl]) ?_
        try refine wpAny_bind (wpAny_pure ?_)
        exact rest
      · refine wp_if_pos (by simp [hl]) ?_
        refine wpAny_bind (seen_tup hx (fun y hy => ?_) ?_)
        · obtain ⟨e, he, ee⟩ := List.mem_map.mp hy
          have m1 : e ∈ es ∧ e.1 = thash P w k := by simpa using he
          have m2 : e ∈ es.toList := by simpa using m1.1
          rw [R.rows] at m2
          obtain ⟨p2, hp2, e2⟩ := List.mem_map.mp m2
          exact ⟨p2.2, p2.1, by rw [← ee, ← e2], R.tup p2 hp2⟩
        · refine wp_if_neg (by decide) ?_
          try refine wpAny_bind (wpAny_pure ?_)
          exact rest
    · have hpr' : t.probe (fun i => (es[i]?.map (·.1)).getD 0) (thash P w k) (st.getD (t.probeStart (thash P w k))) = some (.empty (way t.mask (thash P w k) K) none) := by
        rw [hst]
        have e2 := step (K - c)
        rw [show c + (K - c) = K by omega] at e2
        rw [← e2]
        exact hpr
      rw [hpr']
      dsimp only
      refine wpAny_pure (no fun hm => ?_)
      obtain ⟨p0, m0, k0⟩ := List.mem_map.mp hm
      obtain ⟨i0, hi0, e0⟩ := List.getElem_of_mem m0
      have h0 : L[i0]? = some p0 := by rw [List.getElem?_eq_getElem hi0, e0]
      obtain ⟨d, d1, d2, d3⟩ := hre i0 p0 h0 k0
      exact hno (d - c) i0 (by omega) (by rw [step, show c + (d - c) = d by omega]; exact d3) ((hash i0 p0 h0).trans (congrArg (thash P w) k0))
theorem Ts.search (R : Ts P w s.heap a L es ep t) {x : Addr} {k : List Int} (hx : IsT P w s.heap k x) (hu : A.units < cLine) {Q : SetFound → Shared → Prop}
    (yes : k ∈ L.map (·.2) → Q (.there none) s)
    (no : ∀ K, k ∉ L.map (·.2) → way t.mask (thash P w k) K ∉ t.place.toList → (∀ c, c < K → way t.mask (thash P w k) c ∈ t.place.toList) → Q (.free (way t.mask (thash P w k) K) false) s) :
    wpAny (model P w) A (setSearch a (.ref x) (thash P w k) true) Q E s := by
  have room := R.room
  have ms := R.tab.msk.le
  obtain ⟨K, hKf, hK, hKb⟩ := R.tab.gap (by rw [List.length_map]; omega) (thash P w k)
  have big : 10 * SetTable.turns t.mask ≤ 20620 := by
    unfold SetTable.turns
    omega
  unfold setSearch
  refine R.find hx hu hKf hK hKb yes (fun hn => no K hn hK hKb) 100000 0 none rfl (Nat.zero_le _) (by omega) fun i p hp hk => ?_
  have hi : (L.map fun p => thash P w p.2)[i]? = some (thash P w k) := by
    rw [List.getElem?_map, hp, ← hk]
    rfl
  have il : i < t.place.toList.length := by
    rw [Array.length_toList, R.cnt]
    exact (List.getElem?_eq_some_iff.mp hp).1
  have hj := List.getElem?_eq_getElem il
  obtain ⟨c, hc, e⟩ := R.tab.ahead hK hi hj
  exact ⟨c, Nat.zero_le _, hc, by rw [hj, e]⟩
/-- what the set is behind an addition -/
def Next (P : Program) (w : World) (a : Addr) (s : Shared) (L : List (Addr × List Int)) (Q : Shared → Prop) : Prop :=
  ∀ h2 L2 es2 ep2 t2, Heap.SameBut a s.heap h2 → Ts P w h2 a L2 es2 ep2 t2 → L2.Perm L → Q { s with heap := h2 }
theorem relay_ts {o : Obj} (ho : s.heap.get? a = some o) (hex : o.ExactSet) (hd : o.data = .set es ep t) (hrows : es.toList = rowsOf P w L) (hsz : t.place.size = es.size) (hdm : t.dummies = #[]) (hfl : es.size ≤ t.mask)
    (nd : (L.map (·.2)).Nodup) (tup : ∀ p ∈ L, IsT P w s.heap p.2 p.1) (pl : t.plain = true) (ld : w.params.followText "set-order" = true ∨ t.led = true) {wanted M : Nat}
    (hw : SetTable.sizeAbove wanted - 1 = M) (hM : Mk M) (hw2 : SetTable.sizeAbove wanted ≤ 2048) (hn : L.length * 5 < M * 3) {Q : Unit → Shared → Prop} (hQ : Next P w a s L (Q ())) :
    wpAny (model P w) A (setRelay a wanted) Q E s := by
  have len := rows_len hrows
  obtain ⟨t2, order, e, hp, T, em, el, epl⟩ := relay_ok t (hs := es.map (·.1)) (wanted := wanted) hw hM (by rw [Array.size_map, len]; omega)
  rw [Array.size_map, len] at hp
  obtain ⟨L2, r1, r2, r3⟩ := order_rows L es order hrows hp
  rw [← r3] at T
  have s2 : (order.filterMap (es[·]?)).size = es.size := by rw [rows_len r1, r2.length_eq, len]
  have mle := hM.le
  rw [setRelay_eq]
  refine wpAny_bind (wpAny_setState_of ho hd (fits_of hdm hsz hfl) ?_)
  dsimp only
  refine wp_if_neg (by rw [sizeLine_eq]; omega) ?_
  try refine wpAny_bind (wpAny_pure ?_)
  rw [e]
  dsimp only
  refine wpAny_bind ?_
  refine wp_if_neg (by rw [s2]; simp) ?_
  try refine wpAny_bind (wpAny_pure ?_)
  refine wpAny_pure ?_
  dsimp only
  refine wpAny_storeSet_of ho hd ?_ (by rw [s2, len, sizeLine_eq]; omega)
  have sb : Heap.SameBut a s.heap (s.heap.update a (Obj.putSet (order.filterMap (es[·]?)) t2)) := Heap.SameBut.update ..
  refine hQ _ L2 (order.filterMap (es[·]?)) (ep + 1) t2 sb ⟨⟨_, store_at ho hd, ⟨hex.1, hex.2.1, hex.2.2⟩, rfl⟩, r1, T, (r2.map (·.2)).nodup_iff.mpr nd, fun p hpm => isT_same (tup p (r2.mem_iff.mp hpm)) ho hd sb, by rw [epl]; exact pl, by rw [el]; exact ld, ?_⟩ r2
  rw [r2.length_eq, em]
  exact hn
theorem sz5 : SetTable.sizeAbove (SetTable.grown 5) = 32 := by decide +kernel
theorem sz19 : SetTable.sizeAbove (SetTable.grown 19) = 128 := by decide +kernel
theorem sz77 : SetTable.sizeAbove (SetTable.grown 77) = 512 := by decide +kernel
theorem sz307 : SetTable.sizeAbove (SetTable.grown 307) = 2048 := by decide +kernel
theorem Ts.add (R : Ts P w s.heap a L es ep t) {x : Addr} {k : List Int} (hx : IsT P w s.heap k x) (hu : A.units < cLine) (hcap : k ∉ L.map (·.2) → L.length + 1 ≤ 1228) {Q : Bool → Shared → Prop}
    (old : k ∈ L.map (·.2) → Q false s) (new : k ∉ L.map (·.2) → Next P w a s ((x, k) :: L) (Q true)) :
    wpAny (model P w) A (setAddHashed a (.ref x) (thash P w k)) Q E s := by
  obtain ⟨o, ho, hex, hd⟩ := R.ob
  have len := rows_len R.rows
  have room := R.room
  have ms := R.tab.msk.le
  unfold setAddHashed
  refine wpAny_holding ?_
  rw [show (100000 : Nat) = 99999 + 1 from rfl, setAddHashedIn_succ]
  refine wpAny_bind (wpAny_setState_of ho hd R.fits ?_)
  dsimp only
  refine wp_if_neg (by simp [byScan, Value.scannable]) ?_
  try refine wpAny_bind (wpAny_pure ?_)
  refine wpAny_bind (R.search hx hu (fun hm => ?_) fun K hm hK hb => ?_)
  · dsimp only
    exact wpAny_pure (old hm)
  · dsimp only
    refine wpAny_bind (wpAny_setState_of ho hd R.fits ?_)
    dsimp only
    have pt := R.tab.put hK hb
    generalize t.put (way t.mask (thash P w k) K) = q at pt
    obtain ⟨t1, n⟩ := q
    obtain ⟨q1, q2, q3, q4, q5, q6⟩ := pt
    dsimp only at q1 q2 q3 q4 q5 q6 ⊢
    have pl1 : t1.plain = true := by rw [q5]; exact R.plain
    first
      | (refine wpAny_bind ?_; refine wp_if_pos pl1 ?_; refine hashBy_tup hx ?_)
      | refine wp_if_pos pl1 (wpAny_bind (hashBy_tup hx ?_))
    simp only [if_true]
    have rows1 : (SetTable.insertAt es n (thash P w k, Value.ref x)).toList = rowsOf P w (L.take n ++ (x, k) :: L.drop n) := by
      rw [SetTable.toList_insertAt, rows_put, R.rows]
    have pm := put_perm L n (x, k)
    have hh : (L.take n ++ (x, k) :: L.drop n).map (fun p => thash P w p.2) = (L.map fun p => thash P w p.2).take n ++ thash P w k :: (L.map fun p => thash P w p.2).drop n := by
      rw [List.map_append, List.map_cons, List.map_take, List.map_drop]
    rw [← hh] at q2
    have nd1 : ((L.take n ++ (x, k) :: L.drop n).map (·.2)).Nodup := (pm.map (·.2)).nodup_iff.mpr (by rw [List.map_cons]; exact List.nodup_cons.mpr ⟨hm, R.nd⟩)
    have len1 := rows_len rows1
    generalize SetTable.insertAt es n (thash P w k, Value.ref x) = es1 at rows1 len1 ⊢
    generalize L.take n ++ (x, k) :: L.drop n = L1 at pm q2 nd1 rows1 len1
    have pl := pm.length_eq
    rw [List.length_cons] at pl
    have cap := hcap hm
    refine wpAny_bind (wpAny_storeSet_of ho hd ?_ (by rw [len1, sizeLine_eq]; omega))
    have sb : Heap.SameBut a s.heap (s.heap.update a (Obj.putSet es1 t1)) := Heap.SameBut.update ..
    have ho1 := store_at (es' := es1) (t' := t1) ho hd
    generalize s.heap.update a (Obj.putSet es1 t1) = h1 at sb ho1 ⊢
    have tup1 : ∀ p ∈ L1, IsT P w h1 p.2 p.1 := fun p hp => by
      rcases List.mem_cons.mp (pm.mem_iff.mp hp) with e | hp
      · rw [e]
        exact isT_same hx ho hd sb
      · exact isT_same (R.tup p hp) ho hd sb
    have ld1 : w.params.followText "set-order" = true ∨ t1.led = true := by rw [q4]; exact R.led
    have cnt1 : t1.place.size = es1.size := by
      have h := q2.cnt
      rw [List.length_map] at h
      omega
    rw [List.length_map] at q6
    by_cases hf : t1.tooFull = true
    · first
        | (refine wpAny_bind ?_; refine wp_if_pos (by simp [hf]) ?_)
        | (refine wp_if_pos (by simp [hf]) ?_; refine wpAny_bind ?_)
      have full : (L.length + 1) * 5 ≥ t.mask * 3 := by
        have h := hf
        unfold SetTable.tooFull at h
        rw [decide_eq_true_eq, q6, q3] at h
        exact h
      rw [len]
      have go : ∀ M, SetTable.sizeAbove (SetTable.grown (L.length + 1)) - 1 = M → Mk M → SetTable.sizeAbove (SetTable.grown (L.length + 1)) ≤ 2048 → (L.length + 1) * 5 < M * 3 →
          wpAny (model P w) A (setRelay a (SetTable.grown (L.length + 1))) (fun _ s' => wpAny (model P w) A (pure true) Q E s') E { s with heap := h1 } := fun M e1 e2 e3 e4 => by
        refine relay_ts (s := { s with heap := h1 }) ho1 ⟨hex.1, hex.2.1, hex.2.2⟩ rfl rows1 cnt1 q2.nodum (by rw [q3, len1, pl]; omega) nd1 tup1 pl1 ld1 e1 e2 e3 (by rw [pl]; exact e4) ?_
        exact fun h2 L2 es2 ep2 t2 sb2 R2 pm2 => wpAny_pure (new hm h2 L2 es2 ep2 t2 (sb.trans sb2) R2 (pm2.trans pm))
      rcases R.tab.msk with e | e | e | e | e
      · have n4 : L.length + 1 = 5 := by rw [e] at full room; omega
        exact go 31 (by rw [n4, sz5]) (.inr (.inl rfl)) (by rw [n4, sz5]; decide) (by omega)
      · have n4 : L.length + 1 = 19 := by rw [e] at full room; omega
        exact go 127 (by rw [n4, sz19]) (.inr (.inr (.inl rfl))) (by rw [n4, sz19]; decide) (by omega)
      · have n4 : L.length + 1 = 77 := by rw [e] at full room; omega
        exact go 511 (by rw [n4, sz77]) (.inr (.inr (.inr (.inl rfl)))) (by rw [n4, sz77]; decide) (by omega)
      · have n4 : L.length + 1 = 307 := by rw [e] at full room; omega
        exact go 2047 (by rw [n4, sz307]) (.inr (.inr (.inr (.inr rfl)))) (by rw [n4, sz307]; decide) (by omega)
      · rw [e] at full
        omega
    · first
        | refine wp_if_neg (by simp [hf]) ?_
        | (refine wpAny_bind ?_; refine wp_if_neg (by simp [hf]) ?_; refine wpAny_pure ?_)
      refine wpAny_pure (new hm h1 L1 es1 (ep + 1) t1 sb ⟨⟨_, ho1, ⟨hex.1, hex.2.1, hex.2.2⟩, rfl⟩, rows1, q2, nd1, tup1, pl1, ld1, ?_⟩ pm)
      have h := hf
      unfold SetTable.tooFull at h
      rw [decide_eq_true_eq, q6] at h
      omega
end
end Bx

set_option Elab.async false
set_option linter.all false
set_option maxRecDepth 100000
set_option maxHeartbeats 4000000
set_option autoImplicit false
/-! set(xs), sorted(set), len(set) -/
namespace Bx
open PySem L2 PyProof.Rows
section
variable {P : Program} {w : World} {A : Around} {E : Value → Shared → Prop} {s : Shared}
abbrev ledW (w : World) : Bool := !w.params.followText "set-order"
abbrev newSetO (w : World) : Obj := { cls := .type "set", dict := none, data := .set #[] 0 (.fresh 0 0 (ledW w)) }
theorem ts_fresh {h : Heap} {a : Addr} (ho : h.get? a = some (newSetO w)) : Ts P w h a [] #[] 0 (.fresh 0 0 (ledW w)) where
  ob := ⟨_, ho, ⟨rfl, rfl, rfl⟩, rfl⟩
  rows := rfl
  tab := ⟨List.Pairwise.nil, rfl, rfl, .inl rfl, fun i h j hi => absurd hi (by simp)⟩
  nd := List.nodup_nil
  tup := fun p hp => absurd hp (by simp)
  plain := rfl
  led := by
    show _ ∨ (!w.params.followText "set-order") = true
    cases w.params.followText "set-order" <;> simp
  room := by
    show 0 * 5 < 7 * 3
    decide
theorem Ts.keep {h h' : Heap} {a : Addr} {L : List (Addr × List Int)} {es : Array (Int × Value)} {ep : Nat} {t : SetTable} (R : Ts P w h a L es ep t) (ha : ∀ o, h.get? a = some o → h'.get? a = some o)
    (ht : ∀ p ∈ L, IsT P w h' p.2 p.1) : Ts P w h' a L es ep t := by
  obtain ⟨o, ho, r⟩ := R.ob
  exact ⟨⟨o, ha o ho, r⟩, R.rows, R.tab, R.nd, ht, R.plain, R.led, R.room⟩
/-- the different keys are few -/
def Few (ks : List (Addr × List Int)) : Prop := ∀ l : List (List Int), l.Nodup → (∀ k ∈ l, k ∈ ks.map (·.2)) → l.length ≤ 1228

theorem upd_loop {I : Addr} {fp wr : List Addr} {G : Array GenState → Array GenState → Prop} {n : Nat} {Pv : Nat → Value → Prop} {St : Nat → Shared → Prop} {R : Result → Shared → Prop}
    (W : WalksS P w A.in1 I fp wr G n Pv St) (S : Addr) (hSf : S ∉ fp) (ks : List (Addr × List Int)) (hn : n = ks.length) (hfew : Few ks) (hval : ∀ i v, Pv i v → ∃ p, ks[i]? = some p ∧ v = .ref p.1)
    (h0 : Heap) (hk : ∀ p ∈ ks, IsT P w h0 p.2 p.1) (hS0 : h0.get? S = none) (hw0 : ∀ b ∈ wr, h0.get? b = none) (hu : A.in1.units < cLine) :
    ∀ (m i : Nat) (s : Shared), n - i = m → i ≤ n → St i s → (∀ b o, h0.get? b = some o → s.heap.get? b = some o) → (∃ L es ep t, Ts P w s.heap S L es ep t ∧ Got ks i L) →
      (∀ s' L es ep t, Moved (S :: wr) G s s' → Ts P w s'.heap S L es ep t → Got ks n L → (∀ b o, h0.get? b = some o → s'.heap.get? b = some o) → R (.ok (.ret .none)) s') →
      codeAny (model P w) A (.builtin "set.update.loop" ⟨[.ref S, .ref I], []⟩) R s := by
  have hSw : S ∉ wr := fun h => hSf (W.sub _ h)
  have wide : ∀ b ∈ wr, b ∈ S :: wr := fun b hb => List.mem_cons_of_mem _ hb
  have stay : ∀ {s s' : Shared}, Moved wr G s s' → (∀ b o, h0.get? b = some o → s.heap.get? b = some o) → ∀ b o, h0.get? b = some o → s'.heap.get? b = some o := fun hm hkp b o e =>
    hm.heap b o (fun hb => by rw [hw0 b hb] at e; cases e) (hkp b o e)
  intro m
  induction m with
  | zero =>
    intro i s hm hi hst hkp ⟨L, es, ep, t, hS, g⟩ hR
    obtain rfl : i = n := by omega
    refine codeAny_builtin F.entry_set_update_loop ?_
    rw [Around.under_plainId F.plain_set_update_loop _]
    show wpAny _ A.in1 (pyNext (.ref I) >>= _) _ _ s
    refine wpAny_bind (W.done s _ _ hst fun s' mv => ?_)
    show wpAny _ A.in1 (ret Value.none) _ _ s'
    have kp := stay mv hkp
    refine wpAny_pure (hR s' L es ep t (mv.mono wide) (hS.keep (fun o e => mv.heap S o hSw e) fun p hp => isT_keep (hk p (List.mem_of_mem_take (g.sub p hp))) kp) g kp)
  | succ m ih =>
    intro i s hm hi hst hkp ⟨L, es, ep, t, hS, g⟩ hR
    have hlt : i < n := by omega
    refine codeAny_builtin F.entry_set_update_loop ?_
    rw [Around.under_plainId F.plain_set_update_loop _]
    show wpAny _ A.in1 (pyNext (.ref I) >>= _) _ _ s
    refine wpAny_bind (W.item i s _ _ hlt hst fun v s' hP hst' mv => ?_)
    obtain ⟨p, hp, rfl⟩ := hval i v hP
    have kp := stay mv hkp
    have sub : ∀ q ∈ L, q ∈ ks := fun q hq => List.mem_of_mem_take (g.sub q hq)
    have hS' : Ts P w s'.heap S L es ep t := hS.keep (fun o e => mv.heap S o hSw e) fun q hq => isT_keep (hk q (sub q hq)) kp
    have hx : IsT P w s'.heap p.2 p.1 := isT_keep (hk p (List.mem_of_getElem? hp)) kp
    show wpAny _ A.in1 (holding [Value.ref p.1] (setAdd S (.ref p.1)) >>= _) _ _ s'
    refine wpAny_bind (wpAny_holding ?_)
    unfold setAdd
    refine wpAny_holding ?_
    refine wpAny_bind (wpAny_pyHash_tuple hu hx ?_)
    -- what follows an addition
    have go : ∀ (b : Bool) (h' : Heap) L' es' ep' t', Heap.SameBut S s'.heap h' → Ts P w h' S L' es' ep' t' → Got ks (i + 1) L' →
        codeAny (model P w) A (.builtin "set.update.loop" ⟨[.ref S, .ref I], []⟩) R { s' with heap := h', toks := s'.toks + (p.2.length + 1) } := fun b h' L' es' ep' t' sb hS2 g2 => by
      have kp2 : ∀ b o, h0.get? b = some o → h'.get? b = some o := fun b o e => (sb.2 b (fun z => by rw [z, hS0] at e; cases e)).trans (kp b o e)
      refine ih (i + 1) _ (by omega) hlt (W.frame _ s' _ _ hst' (Nat.le_add_right _ _) fun b hb o e => ?_) kp2 ⟨L', es', ep', t', hS2, g2⟩ fun s2 L2 es2 ep2 t2 mv2 hS3 g3 kp3 => ?_
      · exact (sb.2 b (fun h => hSf (h ▸ hb))).trans e
      · exact hR s2 L2 es2 ep2 t2 (Moved.trans W.gtrans ((mv.mono wide).then_heap (Nat.le_add_right _ _) fun b o hb e => (sb.2 b (fun h => hb (by rw [h]; exact List.mem_cons_self))).trans e) mv2) hS3 g3 kp3
    refine Ts.add (s := { s' with toks := s'.toks + (p.2.length + 1) }) hS' hx hu (fun hm => ?_) (fun hm => ?_) fun hm h' L' es' ep' t' sb hS2 pm => ?_
    · have := hfew (p.2 :: L.map (·.2)) (List.nodup_cons.mpr ⟨hm, hS.nd⟩) fun q hq => by
        rcases List.mem_cons.mp hq with e | hq
        · rw [e]
          exact List.mem_map.mpr ⟨p, List.mem_of_getElem? hp, rfl⟩
        · obtain ⟨r, hr, e⟩ := List.mem_map.mp hq
          exact List.mem_map.mpr ⟨r, sub r hr, e⟩
      simpa using this
    · exact wpAny_pure ⟨plainId_quiet F.plain_set_update_loop _, go false s'.heap L es ep t (Heap.SameBut.refl S s'.heap) hS' (g.same hp hm)⟩
    · exact wpAny_pure ⟨plainId_quiet F.plain_set_update_loop _, go true h' L' es' ep' t' sb hS2 (g.more hp pm)⟩

set_option maxHeartbeats 8000000 in
theorem call_setL {l : Addr} {items : Array Value} (ks : List (Addr × List Int)) {Q : Value → Shared → Prop} (hh : A.handled = none) (hl : s.heap.IsList l items) (hit : items.toList = ks.map fun p => Value.ref p.1)
    (hk : ∀ p ∈ ks, IsT P w s.heap p.2 p.1) (hfew : Few ks) (hu : A.units + 3 < cLine)
    (h : ∀ (h' : Heap) (tk : Nat) L es ep t, Ts P w h' s.heap.objs.size L es ep t → Got ks ks.length L → (∀ b o, s.heap.get? b = some o → h'.get? b = some o) → Q (.ref s.heap.objs.size) { s with heap := h', toks := tk }) :
    wpAny (model P w) A (call (.type "set") [.ref l]) Q E s := by
  have isz : items.size = ks.length := by
    rw [← Array.length_toList, hit, List.length_map]
  obtain ⟨c, tl, hmro⟩ := F.called_set.mro
  have hmade := F.called_set.made
  have hsub := F.called_set.sub
  have h1 := F.called_set.notType
  have h2 := F.called_set.canCreate
  have hct := F.typeCall_set_1 (.ref l)
  refine wpAny_call (codeAny_of_tree ?_)
  show wpAny _ _ (callAny (.type "set") _) _ _ _
  refine wpAny_pure ⟨Code.quiet_builtin _ (by decide +kernel), codeAny_builtin F.entry_type_call ?_⟩
  rw [Around.under_plain (weight_type_call_type "set" [.ref l] []) rfl]
  repeat (any_goals (first | assumption | wp_step))
  refine codeAny_mono (code_set_led1 (.ref l) (E := E) (Q₁ := fun obj s₁ => obj = .ref s.heap.objs.size ∧ s₁ = { s with heap := s.heap.push (newSetO w) }) ⟨rfl, rfl⟩) fun r s₁ hr => ?_
  match r, hr with
  | .error e, hr => exact hr
  | .ok (.ret obj), hr =>
    obtain ⟨rfl, rfl⟩ := hr
    have hS : (s.heap.push (newSetO w)).get? s.heap.objs.size = some (newSetO w) := Heap.get?_push_size _ rfl
    have hT : Shared.TypeIs { s with heap := s.heap.push (newSetO w) } (.ref s.heap.objs.size) "set" := ⟨_, hS, rfl⟩
    have hli := F.called_set.init.lookup
    have hbi := F.called_set.init.bind (.ref s.heap.objs.size)
    repeat (any_goals (first | assumption | wp_step))
    refine codeAny_mono (codeAny_call_builtin (R := wants (fun r s₂ => r = .none ∧ ∃ h' tk L es ep t, s₂ = { s with heap := h', toks := tk } ∧ Ts P w h' s.heap.objs.size L es ep t ∧ Got ks ks.length L ∧
        (∀ b o, s.heap.get? b = some o → h'.get? b = some o)) E) F.called_set.init.plain F.entry_set_init (check_set_init_1 hT ?_)) fun r₂ s₂ hr₂ => ?_
    · obtain ⟨⟨ocls, odict, odata, oslots⟩, hol, hcl, nl, hdl⟩ := hl
      simp only at hcl hdl
      subst hcl hdl
      have hol' : (s.heap.push (newSetO w)).get? l = some { cls := .type "list", dict := odict, data := .seq items nl, slots := oslots } := Heap.get?_push_of_some _ hol
      have hsls := F.sub_list_set
      have hslf := F.sub_list_frozenset
      have hne : (Value.type "list" == Value.type "dict") = false := by decide
      have hl1 : (s.heap.push (newSetO w)).IsList l items := ⟨_, hol', rfl, nl, rfl⟩
      have hlS : l < s.heap.objs.size := Heap.lt_size hol
      have hh3 : A.in1.in1.in1.handled = none := by simp [hh]
      unfold Builtin.«set.__init__» noKeywords Builtin.Frozenset.updateFrom
      generalize hPI : pyIter = PI
      wp_walk
      subst hPI
      refine wpAny_pyIter_list hl1 ?_
      refine wpAny_bind (wpAny_runValue ?_)
      have hneI : l ≠ (s.heap.push (newSetO w)).objs.size := by
        rw [Heap.size_push]
        exact Nat.ne_of_lt (Nat.lt_succ_of_lt hlS)
      have hSf : s.heap.objs.size ∉ [(s.heap.push (newSetO w)).objs.size, l] := by
        rw [Heap.size_push]
        simp only [List.mem_cons, List.not_mem_nil, or_false, not_or]
        exact ⟨Nat.ne_of_lt (Nat.lt_succ_self _), Nat.ne_of_gt hlS⟩
      have hval : ∀ (i : Nat) (v : Value), items[i]? = some v → ∃ p, ks[i]? = some p ∧ v = .ref p.1 := fun i v hv => by
        rw [← Array.getElem?_toList, hit, List.getElem?_map] at hv
        obtain ⟨p, hp, e⟩ := Option.map_eq_some_iff.mp hv
        exact ⟨p, hp, e.symm⟩
      have fresh : ∀ b, s.heap.objs.size ≤ b → s.heap.get? b = none := fun b hb => by
        cases q : s.heap.get? b with
        | none => rfl
        | some o => exact absurd (Nat.lt_of_lt_of_le (Heap.lt_size q) hb) (Nat.lt_irrefl _)
      refine upd_loop ((Walks.list hh3 _ l hneI items).toS) s.heap.objs.size hSf ks isz hfew hval s.heap hk (fresh _ (Nat.le_refl _)) (fun b hb => fresh b (by
          rw [List.mem_singleton.mp hb, Heap.size_push]
          exact Nat.le_succ _)) hu (items.size - 0) 0 _ rfl (Nat.zero_le _)
        ⟨⟨_, Heap.get?_push_size _ rfl, rfl, rfl⟩, hl1.push _⟩ (fun b o e => Heap.get?_push_of_some _ (Heap.get?_push_of_some _ e)) ⟨[], #[], 0, _, ts_fresh (Heap.get?_push_of_some _ hS), Got.zero ks⟩ ?_
      intro s' L es ep t mv hS' g' kp
      obtain ⟨h', g2, d', tk', os'⟩ := s'
      obtain rfl : g2 = s.gens := mv.gens
      obtain rfl : d' = s.drawn := mv.drawn
      obtain rfl : os' = s.os := mv.os
      show wpAny _ _ _ _ _ _
      refine wpAny_pure ?_
      show wpAny _ _ (ret Value.none) _ _ _
      rw [isz] at g'
      exact wpAny_pure ⟨rfl, h', tk', L, es, ep, t, rfl, hS', g', kp⟩
    · match r₂, hr₂ with
      | .error e, hr₂ => exact hr₂
      | .ok (.ret r), hr₂ =>
        obtain ⟨rfl, h', tk, L, es, ep, t, rfl, hS', g', hk'⟩ := hr₂
        repeat (any_goals (first | assumption | wp_step))
        exact h _ _ _ _ _ _ hS' g' hk'
end
end Bx

set_option Elab.async false
set_option linter.all false
set_option maxRecDepth 100000
set_option maxHeartbeats 4000000
set_option autoImplicit false
/-! sorted(set), len(set), and the three over the layer -/
namespace Bx
open PySem L2 PyProof.Rows
/-- a row of ints as data -/
def tupI (k : List Int) : PyData := .tuple (k.map .int)
abbrev encP (p : Addr × List Int) : PyData := tupI p.2
section
variable {P : Program} {w : World} {A : Around} {E : Value → Shared → Prop} {s : Shared}
theorem reads_items {h : Heap} {k : List Int} {vs : List Value} (x : ItemsAre (intKind P w) k vs) : ReadsAll h vs (k.map .int) [] := by
  induction x with
  | nil => exact .nil
  | @cons n v ks vs h1 _ ih =>
    obtain ⟨t, rfl⟩ := Value.isInt_shape h1
    exact ReadsAll.cons (as := []) (bs := []) (.int n t) ih
theorem reads_isT {h : Heap} {k : List Int} {b : Addr} (x : IsT P w h k b) : Reads h (.ref b) (tupI k) [] := by
  obtain ⟨o, items, n, ho, hc, hd, hi⟩ := x
  exact .tuple ho hc hd (reads_items hi)
theorem each_refs : ∀ L : List (Addr × List Int), W.EachIs (fun (u : Value) (p : Addr × List Int) => u = .ref p.1) (L.map fun q => Value.ref q.1) L
  | [] => .nil
  | p :: L => .cons rfl (each_refs L)
theorem refs_each : ∀ {us : List Value} {L : List (Addr × List Int)}, W.EachIs (fun (u : Value) (p : Addr × List Int) => u = .ref p.1) us L → us = L.map fun q => Value.ref q.1
  | _, _, .nil => rfl
  | _, _, .cons e t => by rw [List.map_cons, e, refs_each t]
theorem each_of : ∀ (L : List (Addr × List Int)) {R : Value → Addr × List Int → Prop}, (∀ p ∈ L, R (.ref p.1) p) → W.EachIs R (L.map fun q => Value.ref q.1) L
  | [], _, _ => .nil
  | p :: L, _, h => .cons (h p List.mem_cons_self) (each_of L fun q hq => h q (List.mem_cons_of_mem _ hq))
theorem ints_deep : ∀ k : List Int, PyData.depthAll (k.map PyData.int) = 0
  | [] => rfl
  | x :: k => by
    rw [List.map_cons, PyData.depthAll, ints_deep k]
    rfl
theorem tupI_deep (k : List Int) : (tupI k).depth = 1 := by
  unfold tupI
  rw [PyData.depth, ints_deep]
theorem tupI_alike (k k' : List Int) : W.alike (tupI k) (tupI k') = true := W.alike_ints k k'
/-- rows of values that are the addresses of rows of L -/
theorem rows_back {L : List (Addr × List Int)} : ∀ vs : List Value, (∀ v ∈ vs, ∃ q ∈ L, v = Value.ref q.1) → ∃ L1 : List (Addr × List Int), vs = L1.map (fun q => Value.ref q.1) ∧ ∀ q ∈ L1, q ∈ L
  | [], _ => ⟨[], rfl, fun q hq => absurd hq (by simp)⟩
  | v :: vs, h => by
    obtain ⟨q, hq, e⟩ := h v List.mem_cons_self
    obtain ⟨L1, e1, hs⟩ := rows_back vs fun u hu => h u (List.mem_cons_of_mem _ hu)
    refine ⟨q :: L1, by rw [List.map_cons, e, e1], fun r hr => ?_⟩
    rcases List.mem_cons.mp hr with z | z
    · exact z ▸ hq
    · exact hs r z
theorem Ts.sorted {a : Addr} {L : List (Addr × List Int)} {es : Array (Int × Value)} {ep : Nat} {t : SetTable} {Q : Value → Shared → Prop} (R : Ts P w s.heap a L es ep t) (hh : A.handled = none) (hne : ∀ p ∈ L, p.2 ≠ []) (hu : A.units + 64 < cLine)
    (hQ : ∀ (s' : Shared) (p : Addr) (c : Nat) (L1 : List (Addr × List Int)), (∀ b o, s.heap.get? b = some o → s'.heap.get? b = some o) → s'.gens = s.gens → s'.os = s.os → s.heap.objs.size ≤ p → L1.Perm L →
      s'.heap.get? p = some (seqObj "list" ((L1.mergeSort (W.dataLe false encP)).map fun q => Value.ref q.1).toArray c) → Q (.ref p) s') :
    wpAny (model P w) A (call (.builtin "sorted") [.ref a]) Q E s := by
  obtain ⟨o, ho, hex, hd⟩ := R.ob
  have len := rows_len R.rows
  have few := R.few
  refine Calls.call_function_entry kind_sorted plain_sorted entry_sorted (args_sorted1 _) ?_
  unfold Builtin.«sorted»
  refine wpAny_bind (m := checkCount "sorted" 1 1 _) (wpAny_pure ?_)
  refine wpAny_bind (collect_set (A := A.in1) hh ⟨o, ho, hex.1, hd⟩ R.fits (by unfold scanBound; omega) R.tab.up R.led fun s1 vs k1 hz g1 o1 pm => ?_)
  have hes : es.toList.map (·.2) = L.map fun q => Value.ref q.1 := by
    rw [R.rows]
    unfold rowsOf
    rw [List.map_map]
    rfl
  rw [hes] at pm
  obtain ⟨L1, e1, in1⟩ := rows_back (L := L) vs fun v hv => by
    obtain ⟨q, hq, e⟩ := List.mem_map.mp (pm.mem_iff.mp hv)
    exact ⟨q, hq, e.symm⟩
  have inj : ∀ q ∈ L, ∀ r ∈ L, q.1 = r.1 → q = r := fun q hq r hr e => by
    have a1 := R.tup q hq
    rw [e] at a1
    exact Prod.ext e (a1.inj (R.tup r hr))
  have nL : L.Nodup := nodup_of_map R.nd
  have p1 : L1.Perm L := by
    have nref : (L.map fun q => Value.ref q.1).Nodup := List.pairwise_map.mpr (List.Pairwise.imp_of_mem (fun {q r} hq hr hn e => by
      injection e with e
      exact hn (inj q hq r hr e)) nL)
    rw [e1] at pm
    have n1 : L1.Nodup := nodup_of_map (pm.nodup_iff.mpr nref)
    refine (List.perm_ext_iff_of_nodup n1 nL).mpr fun q => ⟨in1 q, fun hq => ?_⟩
    obtain ⟨r, hr, e⟩ := List.mem_map.mp (pm.mem_iff.mpr (List.mem_map.mpr ⟨q, hq, rfl⟩))
    injection e with e
    rw [← inj r (in1 r hr) q hq e]
    exact hr
  have l1 : L1.length ≤ 1228 := by rw [p1.length_eq]; exact few
  have lv : vs.length = L1.length := by rw [e1, List.length_map]
  refine wpAny_bind (wpAny_newList ?_ (by rw [sizeLine_eq]; omega))
  have hoL : (s1.heap.push (seqObj "list" vs.toArray 0)).get? s1.heap.objs.size = some (seqObj "list" vs.toArray 0) := Heap.get?_push_size _ rfl
  have tk : ∀ q ∈ L1, IsT P w (s1.heap.push (seqObj "list" vs.toArray 0)) q.2 q.1 := fun q hq => isT_keep (R.tup q (in1 q hq)) fun b u e => Heap.get?_push_of_some _ (k1 b u e)
  have er1 : W.EachIs (fun (u : Value) (p : Addr × List Int) => u = .ref p.1) vs L1 := by
    rw [e1]
    exact each_refs L1
  have er2 : W.EachIs (fun v b => ∃ as, Reads (s1.heap.push (seqObj "list" vs.toArray 0)) v (encP b) as ∧ s1.heap.objs.size ∉ as) vs L1 := by
    generalize s1.heap.push (seqObj "list" vs.toArray 0) = hh2 at tk
    rw [e1]
    exact each_of L1 fun q hq => ⟨[], reads_isT (tk q hq), by simp⟩
  refine wpAny_bind (wpAny_holding (W.list_sort_data (s := { s1 with heap := s1.heap.push (seqObj "list" vs.toArray 0) }) (enc := encP) (bs := L1) hoL er1 er2
    (W.AllAlike.of fun p q => tupI_alike p.2 q.2) ?_ (by rw [sizeLine_eq]; omega) (fun q hq => ?_) fun out ol oe => ?_))
  · refine .inl fun d hd => ?_
    obtain ⟨q, hq, rfl⟩ := List.mem_map.mp hd
    show ∃ x r, tupI q.2 = .tuple (x :: r)
    have := hne q (in1 q hq)
    cases hq2 : q.2 with
    | nil => exact absurd hq2 this
    | cons x r => exact ⟨_, _, rfl⟩
  · show A.in1.units + 1 + (tupI q.2).depth < cLine
    rw [tupI_deep]
    show A.units + 1 + 1 + 1 < cLine
    omega
  · obtain ⟨c, hc⟩ := sortedHeap_at (vs := vs) (out := out.toArray) hoL
    have eo := refs_each oe
    subst eo
    refine wpAny_pure ⟨_, rfl, hQ _ s1.heap.objs.size c L1 (fun b u e => ?_) g1 o1 hz p1 hc⟩
    have q := k1 b u e
    have hlt := Heap.lt_size q
    show (sortedHeap (s1.heap.push (seqObj "list" vs.toArray 0)) s1.heap.objs.size vs _).get? b = some u
    rw [sortedHeap_old (Nat.ne_of_lt hlt) (by rw [size_push']; exact Nat.lt_succ_of_lt hlt)]
    exact Heap.get?_push_of_some _ q
end

/-! over the layer -/
structure SB (P : Program) (w : World) (h : Heap) (a : Addr) (L : List (Addr × List Int)) : Prop where
  ex : ∃ (es : Array (Int × Value)) (ep : Nat) (t : SetTable), (∃ o, h.get? a = some o ∧ o.ExactSet ∧ o.data = .set es ep t) ∧ es.toList = rowsOf P w L ∧ Tb t (L.map fun p => thash P w p.2) ∧ (L.map (·.2)).Nodup ∧
    t.plain = true ∧ (w.params.followText "set-order" = true ∨ t.led = true) ∧ L.length * 5 < t.mask * 3
def SetO (P : Program) (w : World) (a : Addr) (L : List (Addr × List Int)) : HO := .ext fun h => SB P w h a L
section
variable {P : Program} {w : World} {H : Hp} {h : Heap} {a : Addr} {L : List (Addr × List Int)}
theorem Ts.sb {es : Array (Int × Value)} {ep : Nat} {t : SetTable} (R : Ts P w h a L es ep t) : SB P w h a L := ⟨es, ep, t, R.ob, R.rows, R.tab, R.nd, R.plain, R.led, R.room⟩
theorem SB.full (R : SB P w h a L) (ht : ∀ p ∈ L, IsT P w h p.2 p.1) : ∃ es ep t, Ts P w h a L es ep t := by
  obtain ⟨es, ep, t, h1, h2, h3, h4, h5, h6, h7⟩ := R.ex
  exact ⟨es, ep, t, h1, h2, h3, h4, ht, h5, h6, h7⟩
theorem setO_ok (R : SB P w h a L) : ObjOk P w H h a (SetO P w a L) := by
  obtain ⟨es, ep, t, ⟨o, ho, r⟩, q⟩ := R.ex
  refine ⟨R, ⟨o, ho⟩, fun h1 h2 p k => ?_⟩
  obtain ⟨es', ep', t', ⟨o', ho', r'⟩, q'⟩ := SB.ex p
  exact ⟨es', ep', t', ⟨o', k o' ho', r'⟩, q'⟩
end
section
variable {X : Cx}
/-- set(xs), xs a list of tuples of ints -/
def rSetL (K : PySem.W.Frag) (P : Program) (w : World) : List V → Hp → VK → Prop := fun xs H Q => ∃ (l : Addr) (ks : List (Addr × List Int)), xs = [V.ref l] ∧ SqL K H l (ks.map fun p => V.ref p.1) ∧
  (∀ p ∈ ks, SqT K H p.1 (p.2.map V.int)) ∧ Few ks ∧ ∀ a L, H a = none → (L.map (·.2)).Nodup → (∀ p ∈ L, p ∈ ks) → (∀ p ∈ ks, p.2 ∈ L.map (·.2)) → Q (.ref a) (upd H a (SetO P w a L))
theorem cr_setL (hc : X.calm = true) (hu : X.A.units + 64 < cLine) : CallR X (.type "set") (rSetL X.K X.prog X.w) := by
  intro pins s σ H xs us Q I r h
  obtain ⟨l, ks, rfl, hl, hk, hf, q⟩ := h
  rw [Vals.ref1 r]
  obtain ⟨its, rv, pl, hz⟩ := I.list hl
  have hn : H s.heap.objs.size = none := I.hok.fresh (Nat.le_refl _)
  refine call_setL (P := X.prog) (w := X.w) ks (I.ok.hd hc) pl.isList (by simpa using refs_of_vals rv) (fun p hp => I.isT (hk p hp)) hf (by omega) fun h' tk L es ep t R g k => ?_
  refine ⟨.ref s.heap.objs.size, _, I.laid (t' := tk) (o := SetO X.prog X.w s.heap.objs.size L) k (Nat.le_refl _) (setO_ok R.sb), rfl, q _ L hn R.nd (fun p hp => List.mem_of_mem_take (g.sub p hp)) fun p hp => g.all p ?_⟩
  rw [List.take_length]
  exact hp
/-- sorted(set) -/
def rSortS (K : PySem.W.Frag) (P : Program) (w : World) : List V → Hp → VK → Prop := fun vs H Q => ∃ (a : Addr) (L : List (Addr × List Int)), vs = [V.ref a] ∧ H a = some (SetO P w a L) ∧ (∀ p ∈ L, SqT K H p.1 (p.2.map V.int)) ∧ (∀ p ∈ L, p.2 ≠ []) ∧
  ∀ (L1 : List (Addr × List Int)) (p : Addr), L1.Perm L → H p = none → Q (.ref p) (upd H p (.lst ((L1.mergeSort (W.dataLe false encP)).map fun q => V.ref q.1)))
theorem cr_sortS (hc : X.calm = true) (hu : X.A.units + 64 < cLine) : CallR X (.builtin "sorted") (rSortS X.K X.prog X.w) := by
  intro pins s σ H vs us Q I r h
  obtain ⟨a, L, rfl, ha, hk, hne, q⟩ := h
  have R0 : SB X.prog X.w s.heap a L := (I.hok a _ ha).1
  obtain ⟨es, ep, t, R⟩ := R0.full fun p hp => I.isT (hk p hp)
  rw [Vals.ref1 r]
  refine R.sorted (I.ok.hd hc) hne hu fun s' p c L1 k g o hp pm hg => ?_
  have few := R.few
  have hn : H p = none := I.hok.fresh hp
  have hv := vals_of_refs (L1.mergeSort (W.dataLe false encP))
  have hlen : ((L1.mergeSort (W.dataLe false encP)).map fun q => V.ref q.1).length ≤ sizeLine := by
    rw [List.length_map, List.length_mergeSort, pm.length_eq, sizeLine_eq]
    omega
  have J : Inv X pins σ (upd H p (.lst ((L1.mergeSort (W.dataLe false encP)).map fun q => V.ref q.1))) { s with heap := s'.heap, gens := s'.gens, drawn := s'.drawn, toks := s'.toks } :=
    I.call (ch := []) (Un.laid k hp hn) (I.hok.laid k hp ⟨hlen, _, c, hv, hg⟩) (by rw [g]; exact I.bare) (fun _ z => nomatch z)
  have e : s' = { s with heap := s'.heap, gens := s'.gens, drawn := s'.drawn, toks := s'.toks } := by
    cases s'
    cases s
    cases o
    rfl
  rw [e]
  exact ⟨.ref p, _, J, rfl, q L1 p pm hn⟩
/-- len(set) -/
def rLenS (P : Program) (w : World) : List V → Hp → VK → Prop := fun vs H Q => ∃ (a : Addr) (L : List (Addr × List Int)), vs = [V.ref a] ∧ H a = some (SetO P w a L) ∧ Q (.int (L.length : Nat)) H
theorem cr_lenS : CallR X (.builtin "len") (rLenS X.prog X.w) := by
  intro pins s σ H vs us Q I r h
  obtain ⟨a, L, rfl, ha, q⟩ := h
  have R0 : SB X.prog X.w s.heap a L := (I.hok a _ ha).1
  obtain ⟨es, ep, t, ⟨o, ho, hex, hd⟩, h2, h3, h4, h5, h6, h7⟩ := R0.ex
  rw [Vals.ref1 r]
  have len := rows_len h2
  have ms := h3.msk.le
  have cnt := h3.cnt
  rw [List.length_map] at cnt
  have hf : t.fits es.size = true := fits_of h3.nodum (by omega) (by omega)
  refine call_len_set ho hex hd hf (by omega) ⟨.int (L.length : Nat), H, I.tok _, ⟨_, by rw [len]⟩, q⟩
end
end Bx

set_option Elab.async false
set_option linter.all false
set_option maxRecDepth 100000
set_option maxHeartbeats 4000000
set_option autoImplicit false
/-! dicts whose keys are tuples: setdefault, a comprehension -/
namespace Bx
open PySem L2 PyProof.Rows
section
variable {X : Cx} {pins : List (Addr × Obj)} {σ : L2.St} {H : Hp} {s : Shared} {a b : Addr} {A : Around} {E : Value → Shared → Prop}
/-- the object behind a store -/
theorem dT_put {h' : Heap} {kvs : List (List Key × V)} {k : List Key} {v : V} {r : Value} {xs : List (List Key × Addr × Value)} {tk : Nat} (I : Inv X pins σ H s) (e : H a = some (.dT kvs)) (eb : H b = some (.tup (k.map kV)))
    (hl : kvs.length < sizeLine) (hd : (a == sysModules) = false) (rel : KT H kvs xs) (rv : RelV v r) (dd : h'.DictOfH (tupleKind (mixKind X.prog X.w)) a (storedH xs k b r)) (sb : Heap.SameBut a s.heap h') :
    Inv X pins σ (upd H a (.dT (putK kvs k v))) { s with heap := h', toks := tk } := by
  obtain ⟨q, es, ep, hq, h2, h3, h4, _, h5⟩ := dd
  have hl2 : (putK kvs k v).length ≤ sizeLine := by
    have := length_putK kvs k v
    omega
  refine d_write I (by rw [e]; exact True.intro) sb ⟨q, hq⟩ ⟨hl2, hd, _, (rel.put k eb rv).keeps fun c ys ec => ?_, q, es, ep, hq, h2, h3, h4, h5⟩
  rw [upd_ne (ne_of ec e (fun z => nomatch z))]
  exact ec
theorem d_setdT {kvs : List (List Key × V)} {k : List Key} {d : V} {r : Value} {Q : Value → Shared → Prop} (hu : A.units + 2 < cLine) (I : Inv X pins σ H s) (e : H a = some (.dT kvs)) (eb : H b = some (.tup (k.map kV)))
    (hl : kvs.length < sizeLine) (rd : RelV d r)
    (h1 : ∀ v, valV kvs k = some v → ∀ w' s', Inv X pins σ H s' → RelV v w' → Q w' s')
    (h2 : valV kvs k = none → ∀ s', Inv X pins σ (upd H a (.dT (putK kvs k d))) s' → Q r s') : wpAny (model X.prog X.w) A (call (.builtin "dict.setdefault") [.ref a, .ref b, r]) Q E s := by
  obtain ⟨z, hd, xs, rel, dd⟩ := dt_of I.hok e
  have hz : xs.length ≤ sizeLine := by
    rw [← Paired.length rel]
    exact z
  refine call_setdefault_heap (hsz := hz) (tupleKind_room_in1 (show A.in1.units < cLine from Nat.lt_of_le_of_lt (Nat.le_succ _) hu)) (key_of I.hok eb) hd dd (fun p hp => ?_) fun hn h' dd' sb => ?_
  · have q := rel.val k
    rw [hp] at q
    cases q0 : valV kvs k with
    | none =>
      rw [q0] at q
      exact (show False from q).elim
    | some v0 =>
      rw [q0] at q
      exact h1 v0 q0 _ _ (I.tok _) q
  · have q := rel.val k
    rw [hn] at q
    cases q0 : valV kvs k with
    | some v0 =>
      rw [q0] at q
      exact (show False from q).elim
    | none => exact h2 q0 _ (dT_put I e eb hl hd rel rd dd' sb)
theorem d_dictSetT {kvs : List (List Key × V)} {k : List Key} {v : V} {r : Value} {Q : Unit → Shared → Prop} (hu : A.units + 1 < cLine) (I : Inv X pins σ H s) (e : H a = some (.dT kvs)) (eb : H b = some (.tup (k.map kV)))
    (hl : kvs.length < sizeLine) (rv : RelV v r) (h : ∀ s', Inv X pins σ (upd H a (.dT (putK kvs k v))) s' → Q () s') : wpAny (model X.prog X.w) A (dictSet a (.ref b) r) Q E s := by
  obtain ⟨z, hd, xs, rel, dd⟩ := dt_of I.hok e
  have hz : xs.length ≤ sizeLine := by
    rw [← Paired.length rel]
    exact z
  refine wpAny_dictSet_heap (hsz := hz) ?_ (key_of I.hok eb) dd fun h' dd' sb => h _ (dT_put I e eb hl hd rel rv dd' sb)
  first
    | exact tupleKind_room (show A.units < cLine from Nat.lt_of_le_of_lt (Nat.le_succ _) hu)
    | exact (show A.units < cLine from Nat.lt_of_le_of_lt (Nat.le_succ _) hu)
    | exact hu
end
section
variable {X : Cx}
/-- d.setdefault(y, z), y a tuple -/
def tSetdT (td ty tx : TE) : TE := fun σ H Q => td σ H fun x H1 => ∃ a, x = .ref a ∧ IsD H1 a ∧ ty σ H1 fun y H2 => tx σ H2 fun z H3 => ∃ (kvs : List (List Key × V)) (k : List Key) (b : Addr), H3 a = some (.dT kvs) ∧ y = .ref b ∧
  H3 b = some (.tup (k.map kV)) ∧ kvs.length < sizeLine ∧ (∀ v, valV kvs k = some v → Q v H3) ∧ (valV kvs k = none → Q z (upd H3 a (.dT (putK kvs k z))))
theorem pe_setdT {o e f : Expr} {td ty tx : TE} {apos cpos : Pos} (hu : X.A.units + 2 < cLine) (ho : PE X o td) (he : PE X e ty) (hf : PE X f tx) (m : M2 X o "setdefault" apos e f cpos) :
    PE X (.Call (.Attribute o "setdefault" apos) [e, f] [] cpos) (tSetdT td ty tx) := by
  refine ⟨fun pins s σ H Q I h => ?_⟩
  refine wpAny_Call_method m.base m.few m.line PySem.F.plainAttrs_dict PySem.F.slot_dict_setdefault PySem.F.type_dict_setdefault (thn (ho.run pins s σ H _ I h) fun u s1 ⟨x, H1, I1, rx, a, ex, d, q1⟩ => ?_)
  subst ex
  obtain rfl : u = Value.ref a := rx
  obtain ⟨t1, t2, _⟩ := isD_at I1 d
  refine ⟨t1, t2, ?_⟩
  rw [m.trees]
  refine Calls.callWith_builtin rfl (Calls.evalArgs_plain (Calls.spliced_cons (thn (he.run pins s1 σ H1 _ I1 q1) fun iv s2 ⟨y, H2, I2, ry, q2⟩ =>
    Calls.spliced_cons (thn (hf.run pins s2 σ H2 _ I2 q2) fun fv s3 ⟨z, H3, I3, rz, kvs, k, b, ea, ey, eb, hl, q3, q4⟩ => Calls.spliced_nil ?_))))
  subst ey
  obtain rfl : iv = Value.ref b := ry
  exact d_setdT hu I3 ea eb hl rz (fun v hv w' s4 I4 rw' => ⟨v, _, I4, rw', q3 v hv⟩) fun hn s4 I4 => ⟨z, _, I4, rz, q4 hn⟩

/-- {k: v for target in iter}, the keys tuples -/
def tDcT (wi : TI) (g : TG) (tk tv : TE) (vs : List Nat) : TE := fun σ H Q => wi σ H fun J H1 => ∀ D, H1 D = none → ∃ W : Nat → Nat → Hp → Prop, (∃ m, W 0 m (upd H1 D (.dT []))) ∧ ∀ i m H, W i m H →
  (J.stop i H ∧ Q (.ref D) H) ∨ (J.go i H ∧ ∃ Nx : Hp → Prop, (∀ H', Nx H' → ∃ m', m' < m ∧ W (i + 1) m' H') ∧ ∀ x H', J.yld i H x H' → g x (wipe σ vs) H' fun σ2 H2 => wipe σ2 vs = wipe σ vs ∧
    tk σ2 H2 fun y H4 => tv σ2 H4 fun z H5 => ∃ kvs k b, y = .ref b ∧ H5 b = some (.tup (k.map kV)) ∧ H5 D = some (.dT kvs) ∧ kvs.length < sizeLine ∧ Nx (upd H5 D (.dT (putK kvs k z))))
abbrev BlkAll (X : Cx) (scope : Scope) (R : Cx → Prop) : Prop := ∀ (s : Shared) (H : Hp) (C : Addr) (cl : List (Str × Addr)) (fp : List Addr), R (X.blk s H scope (compEnvC scope cl C X.env) fp)
theorem dcT_core {pins : List (Addr × Obj)} {s : Shared} {σ : L2.St} {H : Hp} {Q : VK} {kx vx tg iter : Expr} {scope : Scope} {own : List (Str × Nat)} {pos pos' : Pos} {wi : TI} {g : TG} {tk tv : TE} {use : Option (Value → Sem Unit)} {Qf : Value → Shared → Prop}
    (hc : X.calm = true) (hu : X.A.units + 1 < cLine) (hN : X.N.Nodup) (I : Inv X pins σ H s) (hi : PI X tg iter wi) (ok : BlkOk X.N X.env.scope scope own)
    (hg : BlkAll X scope fun Y => PG Y tg g) (hk : BlkAll X scope fun Y => PE Y kx tk) (he : BlkAll X scope fun Y => PE Y vx tv) (hs : ∀ x, foldedSetIterable iter X.env x = pure x)
    (h : tDcT wi g tk tv (own.map (·.2)) σ H Q)
    (hRR : ∀ D C s' m H', Inv X pins σ H' s' → Q (.ref D) H' → s'.heap.Ns C m → FpOk X pins H' C → compPost (model X.prog X.w) X.A X.xe use Qf (.ref D) C (.ok .next) s') :
    wpAny (model X.prog X.w) X.A (comprehension (.DictComp kx vx [⟨tg, iter, [], 0⟩] scope pos) scope X.env pos' newDict false (eval iter X.env) use) Qf X.xe s := by
  have cells : ∀ y ∈ scope.names, y.2 = .free → ∃ c, X.env.cells.lookup y.1 = some c := fun y hy e => (ok.free y hy e).elim (fun k => I.ok.has _ (.inl k)) fun k => I.ok.has _ (.inr k)
  refine wpAny_comprehension_free (use := use) rfl hs (closure_ok cells) ok.kind (fun y hy e => by rw [ok.uniq y hy, e])
    (thn (hi.run pins s σ H _ I h) fun xv s1 hx => thn hx fun itv s2 ⟨it, fp, tn, J, H2, e, I2, T, st2, f2, q⟩ => ?_)
  subst e
  refine wpAny_newObj_type (newEnv_comp ?_)
  generalize hD : s2.heap.objs.size = D
  obtain ⟨W, ⟨m0, w0⟩, turn⟩ := q D (I2.hok.fresh (Nat.le_of_eq hD))
  generalize hs3 : ({ s2 with heap := s2.heap.push { cls := .type "dict", data := .dict #[] } } : Shared) = s3
  have h3 : s3.heap = s2.heap.push { cls := .type "dict", data := .dict #[] } := by rw [← hs3]
  have I3 : Inv X pins σ (upd H2 D (.dT [])) s3 := by
    rw [← hs3]
    refine I2.laid (t' := s2.toks) (fun b o e => Heap.get?_push_of_some _ e) (Nat.le_of_eq hD) ?_
    rw [← hD]
    exact dt_empty s2.heap I2.big
  have below : ∀ b ∈ fp, b < s2.heap.objs.size := fun b hb => let ⟨o, e, _⟩ := T.obj _ _ st2 b hb; Heap.lt_size e
  have f3 : ∀ b ∈ fp, FpOk X pins (upd H2 D (.dT [])) b ∧ b < s3.heap.objs.size := fun b hb => by
    refine ⟨⟨?_, (f2 b hb).2⟩, by rw [h3, Heap.size_push]; exact Nat.lt_succ_of_lt (below b hb)⟩
    rw [upd_ne (by rw [← hD]; exact Nat.ne_of_lt (below b hb))]
    exact (f2 b hb).1
  have st3 : tn 0 s3.heap := T.keep _ _ _ st2 fun b _ o e => by rw [h3]; exact Heap.get?_push_of_some _ e
  have I4 := block_start I3 ok hN f3
  show codeAny _ _ (.compStart (.DictComp kx vx [⟨tg, iter, [], 0⟩] scope pos) 0 (.ref it) (.ref D) (compEnvC scope (cellsFrom (s3.heap.objs.size + 1) scope.names (cloFrom X.env.cells scope.names [])) s3.heap.objs.size X.env))
    (compPost (model X.prog X.w) X.A X.xe use Qf (.ref D) s3.heap.objs.size) { s3 with heap := pushCells (s3.heap.push { cls := .type "dict", data := .dict #[] }) scope.names }
  generalize hcl : cellsFrom (s3.heap.objs.size + 1) scope.names (cloFrom X.env.cells scope.names []) = cl at I4 ⊢
  have pg := hg s3 (upd H2 D (.dT [])) s3.heap.objs.size cl fp
  have pk := hk s3 (upd H2 D (.dT [])) s3.heap.objs.size cl fp
  have pe := he s3 (upd H2 D (.dT [])) s3.heap.objs.size cl fp
  have nfp : ∀ b ∈ fp, (upd H2 D (.dT [])) b = none := fun b hb => (f3 b hb).1.1
  generalize hce : compEnvC scope cl s3.heap.objs.size X.env = ce at I4 pg pk pe ⊢
  have cL : ce.locals = s3.heap.objs.size := by subst hce; rfl
  generalize hH3 : upd H2 D (.dT []) = H3 at I3 I4 pg pk pe w0 nfp f3
  generalize hs4 : ({ s3 with heap := pushCells (s3.heap.push { cls := .type "dict", data := .dict #[] }) scope.names } : Shared) = s4 at I4 ⊢
  have st4 : tn 0 s4.heap := T.keep _ _ _ st3 fun b _ o e => by rw [← hs4]; exact pushCells_keeps _ _ _ _ (Heap.get?_push_of_some _ e)
  have own_fp : ∀ {σ' : L2.St} {H' : Hp} {s' : Shared}, Inv (X.blk s3 H3 scope ce fp) [] σ' H' s' → (∀ b ∈ fp, H' b = none) → ∀ b ∈ fp, FpOk (X.blk s3 H3 scope ce fp) [] H' b := fun {σ' H' s'} I' hn b hb =>
    ⟨hn b hb, (I'.ok.exf b hb).1, I'.ok.exfs b hb, .inl hb, fun x c e => (I'.ok.exf b hb).2 x c e, fun p hp => absurd (show p ∈ ([] : List (Addr × Obj)) ++ [] from hp) (by simp)⟩
  have loop : codeAny (model X.prog X.w) X.A (.compLoop (.DictComp kx vx [⟨tg, iter, [], 0⟩] scope pos) 0 (.ref it) (.ref D) ce) (compPost (model X.prog X.w) X.A X.xe use Qf (.ref D) s3.heap.objs.size) s4 := by
    refine compLoop_anyD (fun n s' => ∃ i H', Inv (X.blk s3 H3 scope ce fp) [] (wipe σ (own.map (·.2))) H' s' ∧ tn i s'.heap ∧ (∀ b ∈ fp, H' b = none) ∧ W i n H') ?_ m0 ⟨0, H3, I4, st4, nfp, w0⟩
    rintro n s5 ⟨i, H5, I5, st5, n5, w5⟩
    rcases turn i n H5 w5 with ⟨stop, qq⟩ | ⟨go, Nx, hNx, step⟩
    · refine thnF (T.done (X.blk s3 H3 scope ce fp) rfl rfl rfl hc i [] s5 _ H5 (fun _ _ => False) I5 (own_fp I5 n5) st5 stop) fun r s6 ⟨hr, I6⟩ => ?_
      subst hr
      have I7 : Inv X pins σ H5 s6 := I3.call' (ch := fp) I6.os I6.base I6.hok I6.bare fun b hb => let f := (f3 b hb).1.2; ⟨f.2.2.1, f.1, f.2.2.2.1, f.2.2.2.2⟩
      have nC : H5 ce.locals = none := I6.free
      rw [cL] at nC
      obtain ⟨m, hn, _⟩ := I6.loc
      have hn' : s6.heap.Ns ce.locals m := hn
      rw [cL] at hn'
      exact hRR D s3.heap.objs.size s6 m H5 I7 qq hn' (I3.fpOk (Nat.le_refl _) nC)
    · refine thnF (T.item (X.blk s3 H3 scope ce fp) rfl rfl rfl hc i [] s5 _ H5 (fun _ _ => False) I5 (own_fp I5 n5) st5 go) fun r s6 ⟨u, hr, h6⟩ => ?_
      subst hr
      refine thnF h6 fun _ s7 ⟨x, H7, I7, r7, y7, st7, n7⟩ => ?_
      refine thnF (pg.run _ s7 _ H7 x u _ (I7.pinned (own_fp I7 n7) (T.obj _ _ st7)) r7 (step x H7 y7)) fun _ s8 ⟨σ8, H8, I8, hw8, q8⟩ => ?_
      rw [List.forIn_nil]
      refine wpAny_pure ?_
      simp only [if_true]
      refine thnF (pk.run _ s8 σ8 H8 _ I8 q8) fun z s10 ⟨yk, H10, I10, r10, q10⟩ => ?_
      refine thnF (pe.run _ s10 σ8 H10 _ I10 q10) fun z2 s11 ⟨yv, H11, I11, r11, kvs, k, b, ek, eb, hD11, hz11, nx⟩ => ?_
      subst ek
      obtain rfl : z = Value.ref b := r10
      refine d_dictSetT (X := X.blk s3 H3 scope ce fp) hu I11 hD11 eb hz11 r11 fun s12 I12 => ?_
      obtain ⟨m', hm, w'⟩ := hNx _ nx
      have pin : ∀ b ∈ fp, ∀ o, s7.heap.get? b = some o → s12.heap.get? b = some o ∧ (upd H11 D (.dT (putK kvs k yv))) b = none := fun b hb o e =>
        let z := I12.pin (b, o) (List.mem_append_right _ (List.mem_append_right _ (mem_pinsAt hb e)))
        ⟨z.1, z.2.1⟩
      refine ⟨m', hm, i + 1, _, (I12.unpinned (pins := [])).weak (by rw [← hw8, wipe_length]) (fun j v e => ?_), T.keep _ _ _ st7 fun b hb o e => (pin b hb o e).1, fun b hb => ?_, w'⟩
      · rw [← hw8] at e
        exact (wipe_some e).1
      · obtain ⟨o, e, _⟩ := T.obj _ _ st7 b hb
        exact (pin b hb o e).2
  exact codeAny_compStart_dict loop (T.self X.A 0 _ _ _ st4 loop)
theorem pe_dcT {kx vx tg iter : Expr} {scope : Scope} {own : List (Str × Nat)} {pos : Pos} {wi : TI} {g : TG} {tk tv : TE} (hc : X.calm = true) (hu : X.A.units + 1 < cLine) (hN : X.N.Nodup) (hi : PI X tg iter wi) (ok : BlkOk X.N X.env.scope scope own)
    (hg : BlkAll X scope fun Y => PG Y tg g) (hk : BlkAll X scope fun Y => PE Y kx tk) (he : BlkAll X scope fun Y => PE Y vx tv) (hs : ∀ x, foldedSetIterable iter X.env x = pure x := by intro _; rfl) :
    PE X (.DictComp kx vx [⟨tg, iter, [], 0⟩] scope pos) (tDcT wi g tk tv (own.map (·.2))) := by
  refine ⟨fun pins s σ H Q I h => ?_⟩
  rw [arm_eval_DictComp]
  refine dcT_core hc hu hN I hi ok hg hk he hs h fun D C s' m H' I' q hn f => ⟨m, hn, fun h'' sb => ?_⟩
  exact ⟨.ref D, H', I'.turned (t' := s'.toks) (fun b o hb e => (sb.2 b hb).trans e) f.1 f.2.1 f.2.2.2.1 f.2.2.2.2.1 f.2.2.2.2.2, rfl, q⟩
end
end Bx

set_option Elab.async false
set_option linter.all false
set_option maxRecDepth 100000
set_option maxHeartbeats 2000000
set_option autoImplicit false
/-! what an expression's reading gives, told by what its value stands for; all that stood stays -/
namespace Bx
open PySem L2 StX RZ
abbrev Sl := L2.St


/-- what a value stands for, at a heap; it stays while all that stood stays -/
structure Rl where
  is : V → Hp → Prop
  up : ∀ {v : V} {H H' : Hp}, Same H H' → is v H → is v H'
def oV (x : V) : Rl := ⟨fun v _ => v = x, fun _ h => h⟩
abbrev oI (i : Int) : Rl := oV (.int i)
abbrev oB (b : Bool) : Rl := oV (.bl b)
abbrev oN : Rl := oV .non
abbrev oK (n : Nat) : Rl := oV (.int (n : Int))
theorem same_new {H : Hp} {p : Addr} {o : HO} (h : H p = none) : Same H (upd H p o) := fun b u e => by rw [upd_ne (ne_of_none e h)]; exact e
/-- a thing that H does not know may change -/
theorem same_mut {H H' : Hp} {p : Addr} {o : HO} (e : Same H H') (h : H p = none) : Same H (upd H' p o) := fun b u ha => by
  rw [upd_ne (ne_of_none ha h)]
  exact e b u ha
theorem same_both {H H' : Hp} {p : Addr} {o : HO} (e : Same H H') : Same (upd H p o) (upd H' p o) := fun b u ha => by
  by_cases c : b = p
  · rw [c, upd_same] at ha
    rw [c, upd_same, ha]
  · rw [upd_ne c] at ha
    rw [upd_ne c]
    exact e b u ha
theorem same_tup {K : PySem.W.Frag} {H H' : Hp} {a : Addr} {xs : List V} (e : Same H H') (h : SqT K H a xs) : SqT K H' a xs := by
  rcases h with (h | ⟨o, h⟩) | h
  · exact .inl (.inl (e _ _ h))
  · exact .inl (.inr ⟨o, e _ _ h⟩)
  · exact .inr h
mutual
theorem dp_up {K : PySem.W.Frag} {H H' : Hp} (e : Same H H') : ∀ (d : PyData) (v : V), Dp K H v d → Dp K H' v d
  | .none, _, h => by cases h; exact .non
  | .bool b, _, h => by cases h; exact .bl b
  | .int i, _, h => by cases h; exact .int i
  | .str x, _, h => by cases h; exact .str x
  | .list ds, _, h => by
    cases h with
    | lst a b => exact .lst (e.seq a) (dpAll_up e ds _ b)
  | .tuple ds, _, h => by
    cases h with
    | tup a b => exact .tup (same_tup e a) (dpAll_up e ds _ b)
  | .dict _, _, h => nomatch h
theorem dpAll_up {K : PySem.W.Frag} {H H' : Hp} (e : Same H H') : ∀ (ds : List PyData) (vs : List V), DpAll K H vs ds → DpAll K H' vs ds
  | [], _, h => by cases h; exact .nil
  | d :: ds, _, h => by
    cases h with
    | cons a b => exact .cons (dp_up e d _ a) (dpAll_up e ds _ b)
end
/-- data -/
def oD (K : PySem.W.Frag) (d : PyData) : Rl := ⟨fun v H => Dp K H v d, fun e h => dp_up e d _ h⟩

/-! rows -/
def Al {α : Type} (R : α → Rl) : List α → List V → Hp → Prop
  | [], [], _ => True
  | x :: xs, v :: vs, H => (R x).is v H ∧ Al R xs vs H
  | [], _ :: _, _ => False
  | _ :: _, [], _ => False
section
variable {α β : Type} {R : α → Rl} {H H' : Hp}
theorem Al.up (e : Same H H') : ∀ {xs : List α} {vs : List V}, Al R xs vs H → Al R xs vs H'
  | [], [], h => h
  | _ :: _, _ :: _, h => ⟨(R _).up e h.1, Al.up e h.2⟩
theorem Al.len : ∀ {xs : List α} {vs : List V}, Al R xs vs H → vs.length = xs.length
  | [], [], _ => rfl
  | _ :: _, _ :: _, h => by rw [List.length_cons, List.length_cons, Al.len h.2]
theorem Al.get : ∀ {xs : List α} {vs : List V} (i : Nat) {x : α}, Al R xs vs H → xs[i]? = some x → ∃ v, vs[i]? = some v ∧ (R x).is v H
  | [], [], _, _, _, e => by simp at e
  | _ :: _, v :: _, 0, _, h, e => by
    simp at e
    subst e
    exact ⟨v, rfl, h.1⟩
  | _ :: _, _ :: _, i + 1, _, h, e => by
    rw [List.getElem?_cons_succ] at e
    obtain ⟨v, q, r⟩ := Al.get i h.2 e
    exact ⟨v, by rw [List.getElem?_cons_succ]; exact q, r⟩
theorem Al.got : ∀ {xs : List α} {vs : List V} (i : Nat) {v : V}, Al R xs vs H → vs[i]? = some v → ∃ x, xs[i]? = some x ∧ (R x).is v H
  | [], [], _, _, _, e => by simp at e
  | x :: _, v :: _, 0, _, h, e => by
    simp at e
    subst e
    exact ⟨x, rfl, h.1⟩
  | _ :: _, _ :: _, i + 1, _, h, e => by
    rw [List.getElem?_cons_succ] at e
    obtain ⟨v, q, r⟩ := Al.got i h.2 e
    exact ⟨v, by rw [List.getElem?_cons_succ]; exact q, r⟩
theorem Al.app : ∀ {xs ys : List α} {vs us : List V}, Al R xs vs H → Al R ys us H → Al R (xs ++ ys) (vs ++ us) H
  | [], _, [], _, _, h => h
  | _ :: _, _, _ :: _, _, h, h' => ⟨h.1, Al.app h.2 h'⟩
theorem Al.snoc {xs : List α} {vs : List V} {x : α} {v : V} (h : Al R xs vs H) (r : (R x).is v H) : Al R (xs ++ [x]) (vs ++ [v]) H := h.app ⟨r, trivial⟩
theorem Al.map (f : β → α) : ∀ {xs : List β} {vs : List V}, Al R (xs.map f) vs H → Al (fun x => R (f x)) xs vs H
  | [], [], h => h
  | _ :: _, _ :: _, h => ⟨h.1, Al.map f h.2⟩
theorem Al.unmap (f : β → α) : ∀ {xs : List β} {vs : List V}, Al (fun x => R (f x)) xs vs H → Al R (xs.map f) vs H
  | [], [], h => h
  | _ :: _, _ :: _, h => ⟨h.1, Al.unmap f h.2⟩
theorem Al.imp {S : α → Rl} : ∀ {xs : List α} {vs : List V}, Al R xs vs H → (∀ x v, x ∈ xs → (R x).is v H → (S x).is v H') → Al S xs vs H'
  | [], [], _, _ => trivial
  | _ :: _, _ :: _, h, f => ⟨f _ _ List.mem_cons_self h.1, Al.imp h.2 fun x v m => f x v (List.mem_cons_of_mem _ m)⟩
theorem Al.dp {K : PySem.W.Frag} {e : α → PyData} : ∀ {xs : List α} {vs : List V}, Al (fun x => oD K (e x)) xs vs H → DpAll K H vs (xs.map e)
  | [], [], _ => .nil
  | _ :: _, _ :: _, h => .cons h.1 (Al.dp h.2)
theorem Al.ofdp {K : PySem.W.Frag} {e : α → PyData} : ∀ {xs : List α} {vs : List V}, DpAll K H vs (xs.map e) → Al (fun x => oD K (e x)) xs vs H
  | [], _, h => by cases h; trivial
  | _ :: _, _, h => by
    cases h with
    | cons a b => exact ⟨a, Al.ofdp b⟩
theorem Al.vals {f : α → V} : ∀ {xs : List α} {vs : List V}, Al (fun x => oV (f x)) xs vs H → vs = xs.map f
  | [], [], _ => rfl
  | _ :: _, _ :: _, h => by rw [List.map_cons, h.1, Al.vals h.2]
theorem Al.ofvals {f : α → V} : ∀ {xs : List α}, Al (fun x => oV (f x)) xs (xs.map f) H
  | [] => trivial
  | _ :: _ => ⟨rfl, Al.ofvals⟩
theorem two_args {A B : Rl} {vs : List V} (h : Al id [A, B] vs H) : ∃ x y, vs = [x, y] ∧ A.is x H ∧ B.is y H := by
  match vs, h with
  | [x, y], h => exact ⟨x, y, rfl, h.1, h.2.1⟩
  | [], h => exact h.elim
  | [_], h => exact h.2.elim
  | _ :: _ :: _ :: _, h => exact h.2.2.elim
theorem one_arg {A : Rl} {vs : List V} (h : Al id [A] vs H) : ∃ x, vs = [x] ∧ A.is x H := by
  match vs, h with
  | [x], h => exact ⟨x, rfl, h.1⟩
  | [], h => exact h.elim
  | _ :: _ :: _, h => exact h.2.elim
theorem three_args {A B C : Rl} {vs : List V} (h : Al id [A, B, C] vs H) : ∃ x y z, vs = [x, y, z] ∧ A.is x H ∧ B.is y H ∧ C.is z H := by
  match vs, h with
  | [x, y, z], h => exact ⟨x, y, z, rfl, h.1, h.2.1, h.2.2.1⟩
  | [], h => exact h.elim
  | [_], h => exact h.2.elim
  | [_, _], h => exact h.2.2.elim
  | _ :: _ :: _ :: _ :: _, h => exact h.2.2.2.elim
theorem four_args {A B C D : Rl} {vs : List V} (h : Al id [A, B, C, D] vs H) : ∃ x y z w, vs = [x, y, z, w] ∧ A.is x H ∧ B.is y H ∧ C.is z H ∧ D.is w H := by
  match vs, h with
  | [x, y, z, w], h => exact ⟨x, y, z, w, rfl, h.1, h.2.1, h.2.2.1, h.2.2.2.1⟩
  | [], h => exact h.elim
  | [_], h => exact h.2.elim
  | [_, _], h => exact h.2.2.elim
  | [_, _, _], h => exact h.2.2.2.elim
  | _ :: _ :: _ :: _ :: _ :: _, h => exact h.2.2.2.2.elim
end
/-- a list, a tuple, row by row -/
def oL {α : Type} (K : PySem.W.Frag) (R : α → Rl) (xs : List α) : Rl := ⟨fun v H => ∃ a vs, v = .ref a ∧ SqL K H a vs ∧ Al R xs vs H, fun e ⟨a, vs, h1, h2, h3⟩ => ⟨a, vs, h1, e.seq h2, h3.up e⟩⟩
def oT {α : Type} (K : PySem.W.Frag) (R : α → Rl) (xs : List α) : Rl := ⟨fun v H => ∃ a vs, v = .ref a ∧ SqT K H a vs ∧ Al R xs vs H, fun e ⟨a, vs, h1, h2, h3⟩ => ⟨a, vs, h1, same_tup e h2, h3.up e⟩⟩
/-- a list, a tuple that is tracked as such -/
def oM {α : Type} (R : α → Rl) (xs : List α) : Rl := ⟨fun v H => ∃ a vs, v = .ref a ∧ H a = some (.lst vs) ∧ Al R xs vs H, fun e ⟨a, vs, h1, h2, h3⟩ => ⟨a, vs, h1, e _ _ h2, h3.up e⟩⟩
def oU {α : Type} (R : α → Rl) (xs : List α) : Rl := ⟨fun v H => ∃ a vs, v = .ref a ∧ H a = some (.tup vs) ∧ Al R xs vs H, fun e ⟨a, vs, h1, h2, h3⟩ => ⟨a, vs, h1, e _ _ h2, h3.up e⟩⟩
theorem oM_L {α : Type} {K : PySem.W.Frag} {R : α → Rl} {xs : List α} {v : V} {H : Hp} (h : (oM R xs).is v H) : (oL K R xs).is v H := by
  obtain ⟨a, vs, rfl, h2, h3⟩ := h
  exact ⟨a, vs, rfl, SqL.of h2, h3⟩
theorem oU_T {α : Type} {K : PySem.W.Frag} {R : α → Rl} {xs : List α} {v : V} {H : Hp} (h : (oU R xs).is v H) : (oT K R xs).is v H := by
  obtain ⟨a, vs, rfl, h2, h3⟩ := h
  exact ⟨a, vs, rfl, SqT.of h2, h3⟩
theorem oM_imp {α : Type} {R S : α → Rl} {xs : List α} {v : V} {H : Hp} (h : (oM R xs).is v H) (f : ∀ x v, x ∈ xs → (R x).is v H → (S x).is v H) : (oM S xs).is v H := by
  obtain ⟨a, vs, rfl, h2, h3⟩ := h
  exact ⟨a, vs, rfl, h2, h3.imp f⟩
theorem oU_imp {α : Type} {R S : α → Rl} {xs : List α} {v : V} {H : Hp} (h : (oU R xs).is v H) (f : ∀ x v, x ∈ xs → (R x).is v H → (S x).is v H) : (oU S xs).is v H := by
  obtain ⟨a, vs, rfl, h2, h3⟩ := h
  exact ⟨a, vs, rfl, h2, h3.imp f⟩
theorem oM_map {α β : Type} {R : β → Rl} {xs : List α} {v : V} {H : Hp} (f : α → β) : (oM R (xs.map f)).is v H ↔ (oM (fun x => R (f x)) xs).is v H :=
  ⟨fun ⟨a, vs, h1, h2, h3⟩ => ⟨a, vs, h1, h2, h3.map f⟩, fun ⟨a, vs, h1, h2, h3⟩ => ⟨a, vs, h1, h2, h3.unmap f⟩⟩
theorem oU_map {α β : Type} {R : β → Rl} {xs : List α} {v : V} {H : Hp} (f : α → β) : (oU R (xs.map f)).is v H ↔ (oU (fun x => R (f x)) xs).is v H :=
  ⟨fun ⟨a, vs, h1, h2, h3⟩ => ⟨a, vs, h1, h2, h3.map f⟩, fun ⟨a, vs, h1, h2, h3⟩ => ⟨a, vs, h1, h2, h3.unmap f⟩⟩
/-- two values in a tuple -/
def oP (K : PySem.W.Frag) (A B : Rl) : Rl := oT K id [A, B]
section
variable {α β : Type} {K : PySem.W.Frag} {e : α → PyData} {xs : List α} {v : V} {H : Hp}
theorem oL_dp (h : (oL K (fun x => oD K (e x)) xs).is v H) : Dp K H v (.list (xs.map e)) := by
  obtain ⟨a, vs, rfl, h2, h3⟩ := h
  exact .lst h2 h3.dp
theorem oT_dp (h : (oT K (fun x => oD K (e x)) xs).is v H) : Dp K H v (.tuple (xs.map e)) := by
  obtain ⟨a, vs, rfl, h2, h3⟩ := h
  exact .tup h2 h3.dp
theorem dp_oL (h : Dp K H v (.list (xs.map e))) : (oL K (fun x => oD K (e x)) xs).is v H := by
  cases h with
  | lst a b => exact ⟨_, _, rfl, a, .ofdp b⟩
theorem dp_oT (h : Dp K H v (.tuple (xs.map e))) : (oT K (fun x => oD K (e x)) xs).is v H := by
  cases h with
  | tup a b => exact ⟨_, _, rfl, a, .ofdp b⟩
theorem oL_imp {R S : α → Rl} (h : (oL K R xs).is v H) (f : ∀ x v, x ∈ xs → (R x).is v H → (S x).is v H) : (oL K S xs).is v H := by
  obtain ⟨a, vs, rfl, h2, h3⟩ := h
  exact ⟨a, vs, rfl, h2, h3.imp f⟩
theorem oT_imp {R S : α → Rl} (h : (oT K R xs).is v H) (f : ∀ x v, x ∈ xs → (R x).is v H → (S x).is v H) : (oT K S xs).is v H := by
  obtain ⟨a, vs, rfl, h2, h3⟩ := h
  exact ⟨a, vs, rfl, h2, h3.imp f⟩
theorem oL_map {R : β → Rl} (f : α → β) : (oL K R (xs.map f)).is v H ↔ (oL K (fun x => R (f x)) xs).is v H :=
  ⟨fun ⟨a, vs, h1, h2, h3⟩ => ⟨a, vs, h1, h2, h3.map f⟩, fun ⟨a, vs, h1, h2, h3⟩ => ⟨a, vs, h1, h2, h3.unmap f⟩⟩
theorem oT_map {R : β → Rl} (f : α → β) : (oT K R (xs.map f)).is v H ↔ (oT K (fun x => R (f x)) xs).is v H :=
  ⟨fun ⟨a, vs, h1, h2, h3⟩ => ⟨a, vs, h1, h2, h3.map f⟩, fun ⟨a, vs, h1, h2, h3⟩ => ⟨a, vs, h1, h2, h3.unmap f⟩⟩
theorem dp_int {i : Int} (h : Dp K H v (.int i)) : v = .int i := by cases h; rfl
theorem dp_bool {i : Bool} (h : Dp K H v (.bool i)) : v = .bl i := by cases h; rfl
theorem dp_str {i : Str} (h : Dp K H v (.str i)) : v = .str i := by cases h; rfl
theorem dp_none (h : Dp K H v .none) : v = .non := by cases h; rfl
end
/-- one of several -/
def oE {α : Type} (P : α → Prop) (R : α → Rl) : Rl := ⟨fun v H => ∃ x, P x ∧ (R x).is v H, fun e ⟨x, p, h⟩ => ⟨x, p, (R x).up e h⟩⟩

/-! ### heaps: all of it, and what is settled in it (the rest may yet change) -/
structure Hw where
  h : Hp
  g : Hp
  le : Same g h
/-- it stands and is no tuple -/
def Hdn (x : Option HO) : Prop := ∃ o, x = some o ∧ ∀ xs, o ≠ .tup xs
/-- later: what stood stands; what was not settled is not settled -/
structure Gr (W W' : Hw) : Prop where
  h : Same W.h W'.h
  g : Same W.g W'.g
  hid : ∀ b, Hdn (W.h b) → W.g b = none → W'.g b = none
theorem Gr.refl (W : Hw) : Gr W W := ⟨Same.refl _, Same.refl _, fun _ _ h => h⟩
theorem Gr.trans {W W1 W2 : Hw} (a : Gr W W1) (b : Gr W1 W2) : Gr W W2 := ⟨a.h.trans b.h, a.g.trans b.g, fun c ⟨o, h1, ho⟩ h2 => b.hid c ⟨o, a.h c o h1, ho⟩ (a.hid c ⟨o, h1, ho⟩ h2)⟩
theorem Hw.free {W : Hw} {p : Addr} (h : W.h p = none) : W.g p = none := W.le.free h
/-- a new thing, settled -/
def Hw.new (W : Hw) (p : Addr) (o : HO) : Hw := ⟨upd W.h p o, upd W.g p o, same_both W.le⟩
/-- a new thing that may yet change -/
def Hw.own (W : Hw) (p : Addr) (o : HO) (n : W.g p = none) : Hw := ⟨upd W.h p o, W.g, same_mut W.le n⟩
/-- what may yet change is settled -/
def Hw.fix (W : Hw) (p : Addr) (o : HO) (e : W.h p = some o) : Hw := ⟨W.h, upd W.g p o, fun b u q => by
  by_cases c : b = p
  · rw [c, upd_same] at q
    cases q
    rw [c, e]
  · rw [upd_ne c] at q
    exact W.le b u q⟩
theorem gr_new {W : Hw} {p : Addr} {o : HO} (h : W.h p = none) : Gr W (W.new p o) := ⟨same_new h, same_new (Hw.free h), fun b h1 h2 => by
  show upd W.g p o b = none
  rw [upd_ne (fun z => by obtain ⟨o', h1, _⟩ := h1; rw [z, h] at h1; cases h1)]
  exact h2⟩
theorem gr_own {W : Hw} {p : Addr} {o : HO} (h : W.h p = none) : Gr W (W.own p o (Hw.free h)) := ⟨same_new h, Same.refl _, fun b h1 h2 => h2⟩
/-- seen from where it did not stand yet, a thing may change -/
theorem Gr.mut {W0 W : Hw} {p : Addr} {o : HO} (e : Gr W0 W) (h : W0.h p = none) (n : W.g p = none) : Gr W0 (W.own p o n) := ⟨same_mut e.h h, e.g, fun b h1 h2 => e.hid b h1 h2⟩
theorem Gr.fix {W0 W : Hw} {p : Addr} {o : HO} (e : Gr W0 W) (h : W0.h p = none) (q : W.h p = some o) : Gr W0 (W.fix p o q) := ⟨e.h, same_mut e.g (Hw.free h), fun b h1 h2 => by
  show upd W.g p o b = none
  rw [upd_ne (fun z => by obtain ⟨o', h1, _⟩ := h1; rw [z, h] at h1; cases h1)]
  exact e.hid b h1 h2⟩

/-- a tuple that stands may be settled at any time -/
theorem gr_tup {W : Hw} {p : Addr} {xs : List V} (e : W.h p = some (.tup xs)) : Gr W (W.fix p (.tup xs) e) := ⟨Same.refl _, fun b u h => by
  show upd W.g p _ b = some u
  by_cases c : b = p
  · rw [c] at h ⊢
    rw [upd_same, ← W.le _ _ h, e]
  · rw [upd_ne c]
    exact h, fun b ⟨o, h1, ho⟩ h2 => by
  show upd W.g p _ b = none
  rw [upd_ne (fun z => by rw [z, e] at h1; cases h1; exact ho _ rfl)]
  exact h2⟩

/-! ### readings that give -/
/-- from W a run ends in a value of R -/
def Gv (f : VK → Prop) (W : Hw) (R : Rl) : Prop := ∀ Q : VK, (∀ v W2, Gr W W2 → R.is v W2.g → Q v W2.h) → f Q
def Ev (te : TE) (σ : Sl) (W : Hw) (R : Rl) : Prop := ∀ W1, Gr W W1 → Gv (te σ W1.h) W1 R
def Eb (tt : TT) (σ : Sl) (W : Hw) (b : Bool) : Prop := ∀ W1, Gr W W1 → ∀ Q : Bool → Hp → Prop, (∀ W2, Gr W1 W2 → Q b W2.h) → tt σ W1.h Q
def Ea (ta : TA) (σ : Sl) (W : Hw) (Rs : List Rl) : Prop := ∀ W1, Gr W W1 → ∀ Q : List V → Hp → Prop, (∀ vs W2, Gr W1 W2 → Al id Rs vs W2.g → Q vs W2.h) → ta σ W1.h Q
def Eo (to : TO) (σ : Sl) (W : Hw) (o : Option Int) : Prop := ∀ W1, Gr W W1 → ∀ Q : Option Int → Hp → Prop, (∀ W2, Gr W1 W2 → Q o W2.h) → to σ W1.h Q
section
variable {K : PySem.W.Frag} {σ : Sl} {W W' : Hw} {ta tb tc te : TE} {t u : TT} {A B C R : Rl}
theorem Ev.up (e : Gr W W') (h : Ev te σ W R) : Ev te σ W' R := fun W1 a => h W1 (e.trans a)
theorem Eb.up {b : Bool} (e : Gr W W') (h : Eb t σ W b) : Eb t σ W' b := fun W1 a => h W1 (e.trans a)
theorem Ea.up {ta : TA} {Rs : List Rl} (e : Gr W W') (h : Ea ta σ W Rs) : Ea ta σ W' Rs := fun W1 a => h W1 (e.trans a)
theorem Ev.imp (h : Ev te σ W A) (f : ∀ v W', Gr W W' → A.is v W'.g → R.is v W'.g) : Ev te σ W R := fun W1 e Q q => h W1 e Q fun v W2 e2 r => q v W2 e2 (f v W2 (e.trans e2) r)
theorem ev_var {i : Nat} {v : V} (h : σ[i]? = some (some v)) (r : R.is v W.g) : Ev (tVar i) σ W R := fun W1 e Q q => ⟨v, h, q v W1 (Gr.refl W1) (R.up e.g r)⟩
theorem ev_c {v : V} : Ev (tC v) σ W (oV v) := fun W1 e Q q => q v W1 (Gr.refl W1) rfl
theorem gv_one {f : VK → Prop} {v : V} (r : R.is v W.g) (h : ∀ Q : VK, Q v W.h → f Q) : Gv f W R := fun Q q => h Q (q v W (Gr.refl W) r)
theorem gv_new {f : VK → Prop} {o : HO} (h : ∀ Q : VK, (∀ p, W.h p = none → Q (.ref p) (upd W.h p o)) → f Q) (r : ∀ p, W.h p = none → R.is (.ref p) (upd W.g p o)) : Gv f W R := fun Q q =>
  h Q fun p hp => q (.ref p) (W.new p o) (gr_new hp) (r p hp)
theorem ev_op {r : R2} (ha : Ev ta σ W A) (hb : Ev tb σ W B) (hr : ∀ x y W', Gr W W' → A.is x W'.g → B.is y W'.g → Gv (r x y W'.h) W' R) : Ev (tOp r ta tb) σ W R := fun W1 e Q q =>
  ha W1 e _ fun x W2 e2 rx => hb W2 (e.trans e2) _ fun y W3 e3 ry => hr x y W3 ((e.trans e2).trans e3) (A.up e3.g rx) ry Q fun v W4 e4 rv => q v W4 ((e2.trans e3).trans e4) rv
theorem ev_un {r : V → Hp → VK → Prop} (ha : Ev ta σ W A) (hr : ∀ x W', Gr W W' → A.is x W'.g → Gv (r x W'.h) W' R) : Ev (tUn r ta) σ W R := fun W1 e Q q =>
  ha W1 e _ fun x W2 e2 rx => hr x W2 (e.trans e2) rx Q fun v W3 e3 rv => q v W3 (e2.trans e3) rv
theorem eb_test {b : Bool} (h : Ev te σ W (oB b)) : Eb (tTest te) σ W b := fun W1 e Q q => h W1 e _ fun v W2 e2 r => ⟨b, r, q W2 e2⟩
theorem eb_B {b : Bool} (h : Ev te σ W (oB b)) : Eb (tB te) σ W b := fun W1 e Q q => h W1 e _ fun v W2 e2 r => ⟨b, r, q W2 e2⟩
theorem Eb.is {a b : Bool} (h : Eb t σ W a) (e : a = b) : Eb t σ W b := e ▸ h
theorem Ev.val {v w : V} (h : Ev te σ W (oV v)) (e : v = w) : Ev te σ W (oV w) := e ▸ h
theorem eb_yes : Eb tYes σ W true := fun W1 e Q q => q W1 (Gr.refl W1)
theorem eb_and {a b : Bool} (h1 : Eb t σ W a) (h2 : a = true → Eb u σ W b) : Eb (tAnd t u) σ W (a && b) := fun W1 e Q q => h1 W1 e _ fun W2 e2 => by
  cases a with
  | true => exact iteT (h2 rfl W2 (e.trans e2) Q fun W3 e3 => q W3 (e2.trans e3))
  | false => exact iteF (q W2 e2)
theorem eb_or {a b : Bool} (h1 : Eb t σ W a) (h2 : a = false → Eb u σ W b) : Eb (tOr t u) σ W (a || b) := fun W1 e Q q => h1 W1 e _ fun W2 e2 => by
  cases a with
  | true => exact iteT (q W2 e2)
  | false => exact iteF (h2 rfl W2 (e.trans e2) Q fun W3 e3 => q W3 (e2.trans e3))
theorem eb_not {a : Bool} (h : Eb t σ W a) : Eb (tNot t) σ W (!a) := fun W1 e Q q => h W1 e _ fun W2 e2 => q W2 e2
theorem ev_andV {a : Bool} (h1 : Ev ta σ W (oB a)) (h2 : a = true → Ev tb σ W R) (h3 : a = false → ∀ H', R.is (.bl false) H') : Ev (tAndV ta tb) σ W R := fun W1 e Q q => h1 W1 e _ fun v W2 e2 r => ⟨a, r, by
  cases a with
  | true => exact iteT (h2 rfl W2 (e.trans e2) Q fun v W3 e3 r3 => q v W3 (e2.trans e3) r3)
  | false => exact iteF (q _ W2 e2 (h3 rfl W2.g))⟩
theorem ev_and2 {a b : Bool} (h1 : Ev ta σ W (oB a)) (h2 : a = true → Ev tb σ W (oB b)) : Ev (tAndV ta tb) σ W (oB (a && b)) := by
  refine ev_andV h1 (fun e => ?_) fun e H' => ?_
  · subst e
    exact h2 rfl
  · subst e
    rfl
theorem ev_notV {a : Bool} (h : Ev ta σ W (oB a)) : Ev (tNotV ta) σ W (oB (!a)) := fun W1 e Q q => h W1 e _ fun v W2 e2 r => ⟨a, r, q _ W2 e2 rfl⟩
theorem ev_if {b : Bool} (h : Eb t σ W b) (h1 : b = true → Ev ta σ W R) (h2 : b = false → Ev tb σ W R) : Ev (tIf t ta tb) σ W R := fun W1 e Q q => h W1 e _ fun W2 e2 => by
  cases b with
  | true => exact iteT (h1 rfl W2 (e.trans e2) Q fun v W3 e3 r => q v W3 (e2.trans e3) r)
  | false => exact iteF (h2 rfl W2 (e.trans e2) Q fun v W3 e3 r => q v W3 (e2.trans e3) r)
theorem ev_chain {r r' : R2} {b : Bool} (ha : Ev ta σ W A) (hb : Ev tb σ W B) (hc : Ev tc σ W C) (hr : ∀ x y W', Gr W W' → A.is x W'.g → B.is y W'.g → Gv (r x y W'.h) W' (oB b))
    (hr' : b = true → ∀ x y W', Gr W W' → B.is x W'.g → C.is y W'.g → Gv (r' x y W'.h) W' R) (hF : b = false → ∀ H', R.is (.bl false) H') : Ev (tChain r r' ta tb tc) σ W R := fun W1 e Q q =>
  ha W1 e _ fun x W2 e2 rx => hb W2 (e.trans e2) _ fun y W3 e3 ry => hr x y W3 ((e.trans e2).trans e3) (A.up e3.g rx) ry _ fun z W4 e4 rz => ⟨b, rz, by
    cases b with
    | false => exact iteF (q _ W4 ((e2.trans e3).trans e4) (hF rfl W4.g))
    | true => exact iteT (hc W4 (((e.trans e2).trans e3).trans e4) _ fun w W5 e5 rw => hr' rfl y w W5 ((((e.trans e2).trans e3).trans e4).trans e5) (B.up (e4.trans e5).g ry) rw Q fun v W6 e6 rv => q v W6 ((((e2.trans e3).trans e4).trans e5).trans e6) rv)⟩
theorem ea_nil : Ea tNil σ W [] := fun W1 e Q q => q [] W1 (Gr.refl W1) trivial
theorem ea_cons {tr : TA} {Rs : List Rl} (h : Ev ta σ W A) (hr : Ea tr σ W Rs) : Ea (tCons ta tr) σ W (A :: Rs) := fun W1 e Q q =>
  h W1 e _ fun v W2 e2 r => hr W2 (e.trans e2) _ fun vs W3 e3 rs => q _ W3 (e2.trans e3) ⟨A.up e3.g r, rs⟩
theorem ea_star {α : Type} {tr : TA} {Rs : List Rl} {S : α → Rl} {xs : List α} (h : Ev ta σ W (oL K S xs)) (hr : Ea tr σ W Rs) : Ea (tStar K ta tr) σ W (xs.map S ++ Rs) := fun W1 e Q q =>
  h W1 e _ fun v W2 e2 ⟨a, vs, ev, hs, r⟩ => ⟨a, vs, ev, .inr (W2.le.seq hs), hr W2 (e.trans e2) _ fun us W3 e3 rs => q _ W3 (e2.trans e3) (Al.app (Al.unmap (R := id) S (r.up e3.g)) rs)⟩
theorem ea_starT {α : Type} {tr : TA} {Rs : List Rl} {S : α → Rl} {xs : List α} (h : Ev ta σ W (oT K S xs)) (hr : Ea tr σ W Rs) : Ea (tStar K ta tr) σ W (xs.map S ++ Rs) := fun W1 e Q q =>
  h W1 e _ fun v W2 e2 ⟨a, vs, ev, hs, r⟩ => ⟨a, vs, ev, .inl (same_tup W2.le hs), hr W2 (e.trans e2) _ fun us W3 e3 rs => q _ W3 (e2.trans e3) (Al.app (Al.unmap (R := id) S (r.up e3.g)) rs)⟩
theorem small {n : Nat} (h : n ≤ 1000000) : n ≤ sizeLine := Nat.le_trans h (by rw [sizeLine_eq]; decide)
theorem small_lt {n : Nat} (h : n ≤ 1000000) : n < sizeLine := Nat.lt_of_le_of_lt h (by rw [sizeLine_eq]; decide)
theorem ev_lst {ta : TA} {Rs : List Rl} (h : Ea ta σ W Rs) (hz : Rs.length ≤ 1000000) : Ev (tLst ta) σ W (oM id Rs) := fun W1 e Q q =>
  h W1 e _ fun vs W2 e2 r => ⟨by rw [r.len]; exact small hz, fun p hp => q _ (W2.new p (.lst vs)) (e2.trans (gr_new hp)) ⟨p, vs, rfl, upd_same, r.up (same_new (Hw.free hp))⟩⟩
theorem ev_tup {ta : TA} {Rs : List Rl} (h : Ea ta σ W Rs) (hz : Rs.length ≤ 1000000) : Ev (tTup ta) σ W (oU id Rs) := fun W1 e Q q =>
  h W1 e _ fun vs W2 e2 r => ⟨by rw [r.len]; exact small hz, fun p hp => q _ (W2.new p (.tup vs)) (e2.trans (gr_new hp)) ⟨p, vs, rfl, upd_same, r.up (same_new (Hw.free hp))⟩⟩
theorem ev_cb {r : List V → Hp → VK → Prop} {ta : TA} {Rs : List Rl} (h : Ea ta σ W Rs) (hr : ∀ vs W', Gr W W' → Al id Rs vs W'.g → Gv (r vs W'.h) W' R) : Ev (tCB r ta) σ W R := fun W1 e Q q =>
  h W1 e _ fun vs W2 e2 rs => hr vs W2 (e.trans e2) rs Q fun v W3 e3 rv => q v W3 (e2.trans e3) rv
theorem eo_none : Eo tNoPart σ W none := fun W1 e Q q => q W1 (Gr.refl W1)
theorem eo_some {i : Int} (h : Ev te σ W (oI i)) : Eo (tPart te) σ W (some i) := fun W1 e Q q => h W1 e _ fun v W2 e2 r => ⟨i, r, q W2 e2⟩

/-! the promise of a def that keeps what stood: its arguments stand for As, its result for R -/
def spF (Φ : List Rl → Rl → Prop) : Sp := fun vs H Q _ => ∃ (W : Hw) (As : List Rl) (R : Rl), W.h = H ∧ Φ As R ∧ Al id As vs W.g ∧ ∀ v W', Gr W W' → R.is v W'.g → Q v W'.h
theorem ev_call {Φ : List Rl → Rl → Prop} {ta : TA} {E : XK} {As : List Rl} (h : Ea ta σ W As) (hΦ : Φ As R) : Ev (tCall (spF Φ) [] E ta) σ W R := fun W1 e Q q =>
  h W1 e _ fun vs W2 e2 r => ⟨W2, As, R, rfl, hΦ, by rw [List.append_nil]; exact r, fun v W3 e3 rv => q v W3 (e2.trans e3) rv⟩
theorem ev_make {Φ : List Rl → Rl → Prop} {ta : TA} {E : XK} {As : List Rl} {Cc : Addr} {sp : Sp} (h : Ea ta σ W As)
    (hm : ∀ vs W' x dx, Gr W W' → Al id As vs W'.g → W'.h x = none → W'.h dx = none → dx ≠ x → ∀ Q : VK, (∀ W2, Gr W' W2 → R.is (.ref x) W2.g → Q .non W2.h) →
      sp (.ref x :: (vs ++ [])) (upd (upd W'.h dx (.own x)) x (.ins Cc dx [])) Q E) : Ev (tMake Cc sp [] E ta) σ W R := fun W1 e Q q =>
  h W1 e _ fun vs W2 e2 r x dx hx hdx hne => hm vs W2 x dx (e.trans e2) r hx hdx hne _ fun W3 e3 rx => ⟨rfl, q _ W3 (e2.trans e3) rx⟩

/-! fields -/
theorem ev_fld {ta : TE} {f : Str} {Cc : Addr} (h : Ev ta σ W A) (hA : ∀ v W', Gr W W' → A.is v W'.g → ∃ a dx fs w, v = .ref a ∧ W'.g a = some (.ins Cc dx fs) ∧ fs.lookup f = some w ∧ R.is w W'.g) (c : Cls K Cc) (n : NoAttr K Cc f) : Ev (tFld K ta f) σ W R := fun W1 e Q q =>
  h W1 e _ fun v W2 e2 r => by
    obtain ⟨a, dx, fs, w, h1, h2, h3, h4⟩ := hA v W2 (e.trans e2) r
    exact ⟨a, Cc, dx, fs, w, h1, W2.le _ _ h2, c, n, h3, q w W2 e2 h4⟩
end

/-! ### what is walked -/
structure Wk {α : Type} (J : It) (W : Hw) (xs : List α) (R : α → Rl) : Prop where
  go : ∀ i H', Same W.g H' → i < xs.length → J.go i H'
  stop : ∀ H', Same W.g H' → J.stop xs.length H'
  yld : ∀ i x (W' : Hw) v H'', Same W.g W'.g → xs[i]? = some x → J.yld i W'.h v H'' → ∃ W2, Gr W' W2 ∧ W2.h = H'' ∧ (R x).is v W2.g
def Src {α : Type} (wi : TI) (σ : Sl) (W : Hw) (xs : List α) (R : α → Rl) : Prop := ∀ W1, Gr W W1 → ∀ F : It → Hp → Prop, (∀ J W2, Gr W1 W2 → Wk J W2 xs R → F J W2.h) → wi σ W1.h F
section
variable {α β : Type} {K : PySem.W.Frag} {σ : Sl} {W W' : Hw} {R : α → Rl} {xs : List α} {te : TE}
theorem Src.up {wi : TI} (e : Gr W W') (h : Src wi σ W xs R) : Src wi σ W' xs R := fun W1 a => h W1 (e.trans a)
theorem wk_list {a : Addr} {vs : List V} (hs : SqL K W.g a vs) (h : Al R xs vs W.g) : Wk (Itl K a) W xs R where
  go := fun i H' e hi => ⟨vs, vs[i]'(by rw [h.len]; exact hi), e.seq hs, by simp⟩
  stop := fun H' e => ⟨vs, e.seq hs, by rw [h.len]; exact Nat.le_refl _⟩
  yld := fun i x W' v H'' e hx y => by
    obtain ⟨rfl, y⟩ := y
    obtain ⟨w, hw, r⟩ := h.get i hx
    have := (y vs ((e.trans W'.le).seq hs)).symm.trans hw
    cases this
    exact ⟨W', Gr.refl _, rfl, (R x).up e r⟩
theorem wk_tup {a : Addr} {vs : List V} (hs : SqT K W.g a vs) (h : Al R xs vs W.g) : Wk (Itt K a) W xs R where
  go := fun i H' e hi => ⟨vs, vs[i]'(by rw [h.len]; exact hi), same_tup e hs, by simp⟩
  stop := fun H' e => ⟨vs, same_tup e hs, by rw [h.len]; exact Nat.le_refl _⟩
  yld := fun i x W' v H'' e hx y => by
    obtain ⟨rfl, y⟩ := y
    obtain ⟨w, hw, r⟩ := h.get i hx
    have := (y vs (same_tup (e.trans W'.le) hs)).symm.trans hw
    cases this
    exact ⟨W', Gr.refl _, rfl, (R x).up e r⟩
theorem src_list (h : Ev te σ W (oL K R xs)) : Src (iList K te) σ W xs R := fun W1 e F f => h W1 e _ fun v W2 e2 ⟨a, vs, ev, hs, r⟩ => ⟨a, ev, ⟨vs, W2.le.seq hs⟩, f _ W2 e2 (wk_list hs r)⟩
theorem src_tup (h : Ev te σ W (oT K R xs)) : Src (iTup K te) σ W xs R := fun W1 e F f => h W1 e _ fun v W2 e2 ⟨a, vs, ev, hs, r⟩ => ⟨a, ev, ⟨vs, same_tup W2.le hs⟩, f _ W2 e2 (wk_tup hs r)⟩
/-- range(lo, hi), naturals -/
theorem wk_rng {lo n : Nat} : Wk (Itr (lo : Int) n) W (List.range' lo n) oK where
  go := fun i H' e hi => by
    rw [List.length_range'] at hi
    exact hi
  stop := fun H' e => by
    rw [List.length_range']
    exact Nat.le_refl n
  yld := fun i x W' v H'' e hx y => by
    obtain ⟨rfl, rfl⟩ := y
    refine ⟨W', Gr.refl _, rfl, ?_⟩
    obtain ⟨hi, hx⟩ := List.getElem?_eq_some_iff.mp hx
    rw [List.getElem_range'] at hx
    show V.int ((lo : Int) + (i : Int)) = V.int (x : Int)
    congr 1
    omega
theorem src_rng1 {ta : TA} {n : Nat} (h : Ea ta σ W [oK n]) (hn : n ≤ 1000000) : Src (iRng1 ta) σ W (List.range n) oK := fun W1 e F f =>
  h W1 e _ fun vs W2 e2 r => by
    obtain ⟨x, rfl, rfl⟩ := one_arg r
    refine ⟨n, rfl, by omega, by omega, ?_⟩
    have w := wk_rng (W := W2) (lo := 0) (n := n)
    rw [← List.range_eq_range'] at w
    exact f _ W2 e2 w
theorem src_rng2 {ta : TA} {lo hi : Nat} (h : Ea ta σ W [oK lo, oK hi]) (h1 : lo ≤ 1000000) (h2 : hi ≤ 1000000) : Src (iRng2 ta) σ W (List.range' lo (hi - lo)) oK := fun W1 e F f =>
  h W1 e _ fun vs W2 e2 r => by
    obtain ⟨x, y, rfl, rfl, rfl⟩ := two_args r
    refine ⟨lo, hi, rfl, by omega, ?_⟩
    have w := wk_rng (W := W2) (lo := lo) (n := hi - lo)
    rw [show (((hi : Int) - (lo : Int)).toNat) = hi - lo by omega]
    exact f _ W2 e2 w
theorem pair_new {A B : Rl} {T : Addr} {x y : V} (hT : W.h T = none) (ra : A.is x W.g) (rb : B.is y W.g) : (oP K A B).is (.ref T) (W.new T (.tup [x, y])).g :=
  ⟨T, [x, y], rfl, SqT.of upd_same, A.up (same_new (Hw.free hT)) ra, B.up (same_new (Hw.free hT)) rb, trivial⟩
theorem wk_enum {a : Addr} {vs : List V} (hs : SqL K W.g a vs) (h : Al R xs vs W.g) : Wk (Ite K a) W xs.zipIdx (fun q => oP K (oK q.2) (R q.1)) where
  go := fun i H' e hi => ⟨vs, vs[i]'(by rw [h.len]; simpa using hi), e.seq hs, by simp⟩
  stop := fun H' e => ⟨vs, e.seq hs, by rw [h.len]; simp⟩
  yld := fun i x W' v H'' e hx y => by
    obtain ⟨T, z, rfl, hT, rfl, y⟩ := y
    rw [List.getElem?_zipIdx] at hx
    obtain ⟨x0, hx0, rfl⟩ := Option.map_eq_some_iff.mp hx
    obtain ⟨w, hw, r⟩ := h.get i hx0
    have := (y vs ((e.trans W'.le).seq hs)).symm.trans hw
    cases this
    refine ⟨W'.new T _, gr_new hT, rfl, pair_new hT ?_ ((R x0).up e r)⟩
    show V.int (i : Nat) = V.int ((0 + i : Nat) : Int)
    rw [Nat.zero_add]
theorem src_enum {ta : TA} (h : Ea ta σ W [oL K R xs]) : Src (iEnum K ta) σ W xs.zipIdx (fun q => oP K (oK q.2) (R q.1)) := fun W1 e F f =>
  h W1 e _ fun vs W2 e2 r => by
    obtain ⟨x, rfl, a, us, rfl, hs, r⟩ := one_arg r
    exact ⟨a, us, rfl, W2.le.seq hs, f _ W2 e2 (wk_enum hs r)⟩
theorem wk_zipT {S : β → Rl} {ys : List β} {a b : Addr} {vs us : List V} (hs : SqT K W.g a vs) (h : Al R xs vs W.g) (hs' : SqT K W.g b us) (h' : Al S ys us W.g) : Wk (ItzT K a b) W (xs.zip ys) (fun q => oP K (R q.1) (S q.2)) where
  go := fun i H' e hi => by
    rw [List.length_zip] at hi
    exact ⟨vs, us, vs[i]'(by rw [h.len]; omega), us[i]'(by rw [h'.len]; omega), same_tup e hs, same_tup e hs', by simp, by simp⟩
  stop := fun H' e => ⟨vs, us, same_tup e hs, same_tup e hs', by rw [h.len, h'.len, List.length_zip]; omega⟩
  yld := fun i x W' v H'' e hx y => by
    obtain ⟨T, z, z', rfl, hT, rfl, y1, y2⟩ := y
    obtain ⟨x1, x2⟩ := x
    obtain ⟨q1, q2⟩ := List.getElem?_zip_eq_some.mp hx
    obtain ⟨w1, hw1, r1⟩ := h.get i q1
    obtain ⟨w2, hw2, r2⟩ := h'.get i q2
    have e1 := (y1 vs (same_tup (e.trans W'.le) hs)).symm.trans hw1
    have e2 := (y2 us (same_tup (e.trans W'.le) hs')).symm.trans hw2
    cases e1
    cases e2
    exact ⟨W'.new T _, gr_new hT, rfl, pair_new hT ((R x1).up e r1) ((S x2).up e r2)⟩
theorem src_zipT {S : β → Rl} {ys : List β} {ta : TA} (h : Ea ta σ W [oT K R xs, oT K S ys]) : Src (iZipA K ta) σ W (xs.zip ys) (fun q => oP K (R q.1) (S q.2)) := fun W1 e F f =>
  h W1 e _ fun vs W2 e2 r => by
    obtain ⟨x, y, rfl, ⟨a, us, rfl, hs, r1⟩, ⟨b, ws, rfl, hs', r2⟩⟩ := two_args r
    exact ⟨a, b, us, ws, rfl, .inr ⟨same_tup W2.le hs, same_tup W2.le hs', f _ W2 e2 (wk_zipT hs r1 hs' r2)⟩⟩
/-- the keys of a dict that stands still -/
def oTab (kvs : List (List Key × V)) : Rl := ⟨fun v H => ∃ d od, v = .ref d ∧ H d = some (.frz od (.dT kvs)), fun e ⟨d, od, h1, h2⟩ => ⟨d, od, h1, e _ _ h2⟩⟩
/-- the key's own tuple -/
def oKey (k : List Key) : Rl := ⟨fun v H => ∃ q, v = .ref q ∧ H q = some (.tup (k.map kV)), fun e ⟨q, h1, h2⟩ => ⟨q, h1, e _ _ h2⟩⟩

/-! ### targets -/
/-- the target takes a value of A and leaves slots of which P holds -/
def Tg (g : TG) (σ : Sl) (A : Rl) (P : Sl → Hp → Prop) : Prop := ∀ v (W : Hw), A.is v W.g → ∃ σ2, P σ2 W.g ∧ ∀ Q : Sl → Hp → Prop, Q σ2 W.h → g v σ W.h Q
theorem tg_name {j : Nat} {A : Rl} {P : Sl → Hp → Prop} (h : ∀ v H, A.is v H → P (σ.set j (some v)) H) : Tg (gName j) σ A P := fun v W r => ⟨_, h v W.g r, fun Q q => q⟩
theorem tg_pair {i j : Nat} {A B : Rl} {P : Sl → Hp → Prop} (h : ∀ v w H, A.is v H → B.is w H → P ((σ.set i (some v)).set j (some w)) H) : Tg (gTup K 2 (gCons (gName i) (gCons (gName j) gNil))) σ (oP K A B) P := fun v W r => by
  obtain ⟨a, vs, rfl, hs, r⟩ := r
  obtain ⟨x, y, rfl, rx, ry⟩ := two_args r
  exact ⟨_, h x y W.g rx ry, fun Q q => ⟨a, _, rfl, same_tup W.le hs, rfl, x, [y], rfl, y, [], rfl, rfl, q⟩⟩

/-! ### comprehensions -/
theorem take_yes {p : α → Bool} {i : Nat} {x : α} (h : xs[i]? = some x) (hp : p x = true) : (xs.take (i + 1)).filter p = (xs.take i).filter p ++ [x] := by
  rw [List.take_succ, h, List.filter_append]
  simp [hp]
theorem take_no {p : α → Bool} {i : Nat} {x : α} (h : xs[i]? = some x) (hp : p x = false) : (xs.take (i + 1)).filter p = (xs.take i).filter p := by
  rw [List.take_succ, h, List.filter_append]
  simp [hp]
/-- the list that is filled, at D; what stands in it -/
structure Fl (W0 W : Hw) (D : Addr) (acc : List V) : Prop where
  gr : Gr W0 W
  new : W0.h D = none
  at_ : W.h D = some (.lst acc)
  hid : W.g D = none
theorem Fl.up {W0 W W2 : Hw} {D : Addr} {acc : List V} (f : Fl W0 W D acc) (e : Gr W W2) : Fl W0 W2 D acc :=
  ⟨f.gr.trans e, f.new, e.h _ _ f.at_, e.hid D ⟨_, f.at_, fun _ z => nomatch z⟩ f.hid⟩
theorem Fl.put {W0 W : Hw} {D : Addr} {acc : List V} (f : Fl W0 W D acc) (y : V) : Fl W0 (W.own D (.lst (acc ++ [y])) f.hid) D (acc ++ [y]) :=
  ⟨f.gr.mut f.new f.hid, f.new, upd_same, f.hid⟩
theorem ev_lc {wi : TI} {g : TG} {tt : TT} {vs : List Nat} (p : α → Bool) (S : α → Rl) (hsrc : Src wi σ W xs R) (hz : xs.length ≤ 1000000)
    (turn : ∀ x ∈ xs, ∀ W1, Gr W W1 → Tg g (wipe σ vs) (R x) fun σ2 G => G = W1.g → wipe σ2 vs = wipe σ vs ∧ Eb tt σ2 W1 (p x) ∧ (p x = true → Ev te σ2 W1 (S x))) :
    Ev (tLc wi g tt te vs) σ W (oM S (xs.filter p)) := fun W0 e0 Q q => hsrc W0 e0 _ fun J W1 e1 w D hD => by
  refine ⟨fun i m H' => i + m = xs.length ∧ ∃ (W' : Hw) (acc : List V), W'.h = H' ∧ Fl W1 W' D acc ∧ Al S ((xs.take i).filter p) acc W'.g, ⟨xs.length, by simp, W1.own D (.lst []) (Hw.free hD), [], rfl, ⟨gr_own hD, hD, upd_same, Hw.free (W := W1) hD⟩, by simp [Al]⟩, ?_⟩
  rintro i m _ ⟨him, W2, acc, rfl, f, hal⟩
  have e2 : Gr W W2 := (e0.trans e1).trans f.gr
  have s2 : Same W1.g W2.h := f.gr.g.trans W2.le
  by_cases hi : i < xs.length
  · refine .inr ⟨w.go i _ s2 hi, fun H'' => i + 1 + (m - 1) = xs.length ∧ ∃ (W' : Hw) (acc : List V), W'.h = H'' ∧ Fl W1 W' D acc ∧ Al S ((xs.take (i + 1)).filter p) acc W'.g, fun H'' h => ⟨m - 1, by omega, h⟩, fun v H'' y => ?_⟩
    have hx : xs[i]? = some xs[i] := List.getElem?_eq_getElem hi
    obtain ⟨W3, e3, rfl, rv⟩ := w.yld i _ W2 v H'' f.gr.g hx y
    obtain ⟨σ2, hP, hg⟩ := turn _ (List.getElem_mem hi) W3 (e2.trans e3) v W3 rv
    obtain ⟨hw, ht, hv⟩ := hP rfl
    refine hg _ ⟨hw, ht W3 (Gr.refl _) _ fun W4 e4 => ?_⟩
    have f4 := (f.up e3).up e4
    have hal4 := hal.up (e3.trans e4).g
    cases hp : p xs[i] with
    | false =>
      refine iteF ⟨by omega, W4, acc, rfl, f4, ?_⟩
      rw [take_no hx hp]
      exact hal4
    | true =>
      refine iteT (hv hp W4 e4 _ fun y W5 e5 ry => ?_)
      have f5 := f4.up e5
      refine ⟨acc, f5.at_, ?_, by omega, W5.own D (.lst (acc ++ [y])) f5.hid, acc ++ [y], rfl, f5.put y, ?_⟩
      · have l1 := hal.len
        have l2 := List.length_filter_le p (xs.take i)
        rw [List.length_take] at l2
        exact small_lt (by omega)
      · rw [take_yes hx hp]
        exact (hal4.up e5.g).snoc ry
  · have hi' : i = xs.length := by omega
    subst hi'
    refine .inl ⟨w.stop _ s2, ?_⟩
    have e3 : Gr W0 (W2.fix D (.lst acc) f.at_) := (e1.trans f.gr).fix (e1.h.free f.new) f.at_
    refine q (.ref D) (W2.fix D (.lst acc) f.at_) e3 ⟨D, acc, rfl, upd_same, ?_⟩
    rw [List.take_length] at hal
    exact hal.up (same_new f.hid)
end
end Bx

set_option Elab.async false
set_option linter.all false
set_option maxRecDepth 100000
set_option maxHeartbeats 2000000
set_option autoImplicit false
/-! the text by places; what the top has written; short names for the rules -/
namespace Bx
open PySem L2 StX
def top (i : Nat) : Stmt := PySem.Challenge.pw_allcalls_k10_whole_loads_beside_and_with.main.body.getD i (.Pass ⟨0, 0, 0, 0⟩)
/-- a number that stands at the top -/
def Cst (mg : Str → Option Value) (x : Str) (i : Int) : Prop := ∃ u, mg x = some u ∧ RelV (.int i) u
structure Tx (K : PySem.W.Frag) (mg : Str → Option Value) (C : Addr) : Prop where
  cls : Cls K C
  fS : NoAttr K C "sides"
  fT : NoAttr K C "tracks"
  fW : NoAttr K C "switches"
  mBox : mg "Box" = some (.ref C)
  kit : PySem.W.kitOne K (.ref C) (.ref C) = some true
  kCls : PySem.W.findIn K (.ref C) "__class__" = some (some (.builtin "object.__class__"))
  kGet : PySem.W.specialIn K (.builtin "object.__class__") "__get__" = some (some (.builtin "getset_descriptor.__get__"))
  kTk : PySem.W.takesIn K (.builtin "object.__class__") = some true
  kMro : PySem.W.mroIn K C (.type "object") = some true
  n_isinstance : mg "isinstance" = none
  n_len : mg "len" = none
  n_all : mg "all" = none
  n_any : mg "any" = none
  n_sum : mg "sum" = none
  n_sorted : mg "sorted" = none
  n_set : mg "set" = none
  n_list : mg "list" = none
  n_tuple : mg "tuple" = none
  n_int : mg "int" = none
  n_bool : mg "bool" = none
  n_abs : mg "abs" = none
  n_max : mg "max" = none
  n_min : mg "min" = none
  n_range : mg "range" = none
  n_enumerate : mg "enumerate" = none
  n_zip : mg "zip" = none
  c_LEAST_SIDES : Cst mg "LEAST_SIDES" 2
  c_MOST_SIDES : Cst mg "MOST_SIDES" 5
  c_MOST_TRACKS : Cst mg "MOST_TRACKS" 6
  c_MOST_WIRES : Cst mg "MOST_WIRES" 99
  c_MOST_WAYS : Cst mg "MOST_WAYS" 20000
  c_MOST_NUMBER : Cst mg "MOST_NUMBER" 999
  c_MOST_SUMS : Cst mg "MOST_SUMS" 1000
theorem boot_isinstance' : bootBuiltins "isinstance" = some (.builtin "isinstance") := PyProof.Rows.boot_isinstance
theorem boot_len' : bootBuiltins "len" = some (.builtin "len") := PySem.boot_len
theorem boot_all' : bootBuiltins "all" = some (.builtin "all") := PyProof.Rows.boot_all
theorem boot_any' : bootBuiltins "any" = some (.builtin "any") := PyProof.Rows.boot_any
theorem boot_sum' : bootBuiltins "sum" = some (.builtin "sum") := PyProof.Rows.boot_sum
theorem boot_sorted' : bootBuiltins "sorted" = some (.builtin "sorted") := PyProof.Rows.boot_sorted
theorem boot_abs' : bootBuiltins "abs" = some (.builtin "abs") := PyProof.Rows.boot_abs
theorem boot_max' : bootBuiltins "max" = some (.builtin "max") := PyProof.Rows.boot_max
theorem boot_min' : bootBuiltins "min" = some (.builtin "min") := PyProof.Rows.boot_min
theorem boot_set' : bootBuiltins "set" = some (.type "set") := PyProof.Rows.boot_set
theorem boot_list' : bootBuiltins "list" = some (.type "list") := PyProof.Rows.boot_list
theorem boot_tuple' : bootBuiltins "tuple" = some (.type "tuple") := PyProof.Rows.boot_tuple
theorem boot_int' : bootBuiltins "int" = some (.type "int") := PyProof.Rows.boot_int
theorem boot_bool' : bootBuiltins "bool" = some (.type "bool") := PyProof.Rows.boot_bool
/-- a def that may be called by its name -/
def Ca (P : Program) (w : World) (K : PySem.W.Frag) (mg : Str → Option Value) (base : Heap) (k : Nat) (x : Str) (ps : List Str) (sp : Sp) : Prop :=
  ∃ (f : Addr) (fd : FuncData), FnOk P w K mg base CX0 k f fd ps sp ∧ mg x = some (.ref f) ∧ PySem.W.keepIn K (.ref f) = true ∧ Binds K fd ps []
/-- a class that may be called by its name -/
def Ma (P : Program) (w : World) (K : PySem.W.Frag) (mg : Str → Option Value) (base : Heap) (k : Nat) (x : Str) (C : Addr) (ps : List Str) (sp : Sp) : Prop :=
  ∃ (f : Addr) (fd : FuncData), FnOk P w K mg base CX0 k f fd ps sp ∧ L2.Mk K C f ∧ mg x = some (.ref C) ∧ Binds K fd ps []
/-- a def as the top has written it -/
def Df (K : PySem.W.Frag) (mg : Str → Option Value) (x qual : Str) (st : Stmt) (ps : List Str) : Prop :=
  ∃ (f : Addr) (fd : FuncData), Fun K x qual st f fd ∧ mg x = some (.ref f) ∧ Binds K fd ps []
section
variable {X : Cx} {x : Str} {p pos apos cpos : Pos} {e a b : Expr} {es rest : List Expr} {t : TA} {ps : List Str} {k j : Nat} {sp : Sp} {C : Addr} {ta tb : TE} {tA tB' : TT}
theorem pe_ca (h : Ca X.prog X.w X.K X.mg X.base k x ps sp) (hr : Room j X.A) (hg : Gl X x) (ha : PA X (e :: es) t) (hk : k ≤ j := by decide) (hdb : (x == ("__debug__" : Str)) = false := by decide) (he : starEach (e :: es) X.env = (false, eval e X.env) :: starEach es X.env := by rfl) (hpl : (backTo pos (starEach es X.env)).any (·.1) = false := by rfl) :
    PE X (.Call (.Name x p) (e :: es) [] pos) (tCall sp [] E0 t) := by
  obtain ⟨f, fd, F, hm, kp, hb⟩ := h
  exact pe_call F (hr.mono hk) hg hm kp hb .nil pass0 ha hdb he hpl
theorem pe_mk (h : Ma X.prog X.w X.K X.mg X.base k x C ps sp) (hr : Room j X.A) (hg : Gl X x) (ha : PA X (e :: es) t) (hk : k + 1 ≤ j := by decide) (hdb : (x == ("__debug__" : Str)) = false := by decide) (he : starEach (e :: es) X.env = (false, eval e X.env) :: starEach es X.env := by rfl) (hpl : (backTo pos (starEach es X.env)).any (·.1) = false := by rfl) :
    PE X (.Call (.Name x p) (e :: es) [] pos) (tMake C sp [] E0 t) := by
  obtain ⟨f, fd, F, M, hm, hb⟩ := h
  exact pe_make M F (hr.mono hk) hg hm hb .nil pass0 ha hdb he hpl
theorem pe_gc {i : Int} (h : Cst X.mg x i) (hg : Gl X x) (hd : (x == ("__debug__" : Str)) = false := by decide) : PE X (.Name x pos) (tC (.int i)) := by
  obtain ⟨u, hm, r⟩ := h
  exact pe_glob hg hm r hd
theorem pt_andW (ha : PT X a tA) (hb : PW X (.BoolOp .And (b :: rest) pos) tB') : PT X (.BoolOp .And (a :: b :: rest) pos) (tAnd tA tB') := (pw_and ha hb).pt
theorem pt_orW (ha : PT X a tA) (hb : PW X (.BoolOp .Or (b :: rest) pos) tB') : PT X (.BoolOp .Or (a :: b :: rest) pos) (tOr tA tB') := (pw_or ha hb).pt
theorem pe_listRange (hc : X.calm = true) (hg : Gl X "list") (hm : X.mg "list" = none) (hg' : Gl X "range") (hm' : X.mg "range" = none) (ha : PE X a ta) (na : starEach [a] X.env = (false, eval a X.env) :: starEach [] X.env := by rfl)
    (na' : starEach [.Call (.Name "range" apos) [a] [] cpos] X.env = (false, eval (.Call (.Name "range" apos) [a] [] cpos) X.env) :: starEach [] X.env := by rfl) : PE X (.Call (.Name "list" p) [.Call (.Name "range" apos) [a] [] cpos] [] pos) (tLstRg (tRg1 ta)) :=
  pe_listRg hc hg hm (prg_1 hg' hm' ha na) na'
end

/-! the same rules, the written part named -/
section
variable {X : Cx} {K : PySem.W.Frag}
theorem ixT (hK : X.K = K) : IxR X (rIxT K) := by subst hK; exact ix_tup
theorem ixL (hK : X.K = K) : IxR X (rIxL K) := by subst hK; exact ix_list
theorem inDK (hK : X.K = K) (hu : X.A.units + 65 < cLine) : OpR X (compareOp .In) (rInD K) := by subst hK; exact op_inD hu
theorem niDK (hK : X.K = K) (hu : X.A.units + 65 < cLine) : OpR X (compareOp .NotIn) (rNotInD K) := by subst hK; exact op_notInD hu
theorem inTK (hK : X.K = K) (hu : X.A.units + 65 < cLine) : OpR X (compareOp .In) (rInT K) := by subst hK; exact op_inT hu
theorem niTK (hK : X.K = K) (hu : X.A.units + 65 < cLine) : OpR X (compareOp .NotIn) (rNiT K) := by subst hK; exact op_niT hu
theorem eqDK (hK : X.K = K) (hu : X.A.units + 64 < cLine) : OpR X (compareOp .Eq) (rEqD K) := by subst hK; exact op_eqD hu
theorem neDK (hK : X.K = K) (hu : X.A.units + 64 < cLine) : OpR X (compareOp .NotEq) (rNeD K) := by subst hK; exact op_neD hu
theorem ltAK (hK : X.K = K) (hu : X.A.units + 64 < cLine) : OpR X (compareOp .Lt) (rLtA K) := by subst hK; exact op_ltA hu
def rRep (K : PySem.W.Frag) : R2 := fun x y H Q => rRepT K x y H Q ∨ rRep1 K x y H Q
theorem repK (hK : X.K = K) : OpR X (binaryOp .Mult) (rRep K) := by subst hK; exact op_or op_repT op_rep1
theorem slK (hK : X.K = K) : L2.SlR X (rSlL K) := by subst hK; exact sl_list
theorem lenSK {P : Program} {w : World} (hP : X.prog = P) (hw : X.w = w) : CallR X (.builtin "len") (rLenS P w) := by subst hP hw; exact cr_lenS
theorem lenK (hK : X.K = K) : CallR X (.builtin "len") (Evl.rLenS K) := by subst hK; exact call_len_seq
theorem allK (hK : X.K = K) (hc : X.calm = true) : CallR X (.builtin "all") (rAll K) := by subst hK; exact cr_all hc
theorem anyK (hK : X.K = K) (hc : X.calm = true) : CallR X (.builtin "any") (rAny K) := by subst hK; exact cr_any hc
theorem isiK (hK : X.K = K) : CallR X (.builtin "isinstance") (rIsi K) := by subst hK; exact call_isi
theorem isiTK (hK : X.K = K) : CallR X (.builtin "isinstance") (rIsiT K) := by subst hK; exact call_isiT
theorem sumTK (hK : X.K = K) (hc : X.calm = true) : CallR X (.builtin "sum") (rSumT K) := by subst hK; exact cr_sumT hc
theorem sortSK {P : Program} {w : World} (hK : X.K = K) (hP : X.prog = P) (hw : X.w = w) (hc : X.calm = true) (hu : X.A.units + 64 < cLine) : CallR X (.builtin "sorted") (rSortS K P w) := by subst hK hP hw; exact cr_sortS hc hu
theorem sortDK (hK : X.K = K) (hu : X.A.units + 64 < cLine) : CallR X (.builtin "sorted") (rSortD K) := by subst hK; exact cr_sortD hu
theorem setLK {P : Program} {w : World} (hK : X.K = K) (hP : X.prog = P) (hw : X.w = w) (hc : X.calm = true) (hu : X.A.units + 64 < cLine) : CallR X (.type "set") (rSetL K P w) := by subst hK hP hw; exact cr_setL hc hu
theorem listK (hK : X.K = K) : CallR X (.type "list") (Evl.rListS K) := by subst hK; exact call_list_of
def rTup (K : PySem.W.Frag) : List V → Hp → VK → Prop := fun xs H Q => ∃ p ys, xs = [.ref p] ∧ ((SqL K H p ys ∧ ∀ l, H l = none → Q (.ref l) (upd H l (.tup ys))) ∨ (SqT K H p ys ∧ Q (.ref p) H))
theorem tupK (hK : X.K = K) : CallR X (.type "tuple") (rTup K) := by subst hK; exact call_tuple_of
def rLstD : List V → Hp → VK → Prop := fun xs H Q => ∃ d kvs, xs = [V.ref d] ∧ Rd H d (.dT kvs) ∧ ∀ p bs, H p = none → IsKeys H kvs bs → Q (.ref p) (upd H p (.lst (bs.map V.ref)))
theorem listDK (hc : X.calm = true) : CallR X (.type "list") rLstD := call_list_dT hc
def rAbs : List V → Hp → VK → Prop := fun xs H Q => ∃ i, xs = [.int i] ∧ Q (.int (if i < 0 then -i else i)) H
theorem absK : CallR X (.builtin "abs") rAbs := call_abs
def rMin2 : List V → Hp → VK → Prop := fun xs H Q => ∃ i j, xs = [.int i, .int j] ∧ Q (.int (if j < i then j else i)) H
theorem max2K (hc : X.calm = true) : CallR X (.builtin "max") Evl.rMax2 := call_max2 hc
theorem min2K (hc : X.calm = true) : CallR X (.builtin "min") rMin2 := call_min2 hc
def rInt1 : List V → Hp → VK → Prop := fun xs H Q => (∃ i, xs = [.int i] ∧ Q (.int i) H) ∨ ∃ k, xs = [.bl k] ∧ Q (.int (if k then 1 else 0)) H
theorem int1K : CallR X (.type "int") rInt1 := call_int1
theorem cntK (hK : X.K = K) (hu : X.A.units + 65 < cLine) : MtR X "list.count" (rCntD K) := by subst hK; exact mt_cntD hu
theorem extK (hK : X.K = K) : MtM X "list.extend" (rExtT K) := by subst hK; exact mt_extT
variable {tg l e e2 o : Expr} {tl te ta to : TE} {t : TA} {p pos tpos apos cpos sp_ : Pos} {es elts : List Expr} {kk n : Nat} {f name : Str} {T id : String} {r : V → List V → Hp → VK → Prop} {g : TGs}
theorem pi_listK (hK : X.K = K) (hl : PE X l tl) : PI X tg l (iList K tl) := by subst hK; exact pi_list hl
theorem pi_tupK (hK : X.K = K) (hl : PE X l tl) : PI X tg l (iTup K tl) := by subst hK; exact pi_tup hl
theorem pi_enumK (hK : X.K = K) (hg : Gl X "enumerate") (hm : X.mg "enumerate" = none) (ha : PA X [e] t) (hs : starEach [e] X.env = [(false, eval e X.env)] := by rfl) :
    PI X (.Tuple elts kk tpos) (.Call (.Name "enumerate" p) [e] [] pos) (iEnum K t) := by subst hK; exact pi_enum hg hm ha hs
theorem pi_zipK (hK : X.K = K) (hg : Gl X "zip") (hm : X.mg "zip" = none) (ha : PA X [e, e2] t)
    (hs : starEach [e, e2] X.env = (false, eval e X.env) :: starEach [e2] X.env := by rfl) (hpl : (backTo pos (starEach [e2] X.env)).any (·.1) = false := by rfl) :
    PI X (.Tuple elts kk tpos) (.Call (.Name "zip" p) [e, e2] [] pos) (RZ.iZipA K t) := by subst hK; exact RZ.pi_zipA hg hm ha hs hpl
theorem pe_fldK (hK : X.K = K) (he : PE X e ta) (hb : attributeBase e f X.env (eval e X.env) = eval e X.env) : PE X (.Attribute e f pos) (tFld K ta f) := by subst hK; exact pe_fld he hb
theorem pa_starK (hK : X.K = K) (he : PE X e te) (hr : PA X es t) (hs : starEach (.Starred e p :: es) X.env = (true, eval e X.env) :: starEach es X.env := by rfl) : PA X (.Starred e p :: es) (tStar K te t) := by subst hK; exact pa_star he hr hs
theorem pg_tupK (hK : X.K = K) (hc : X.calm = true) (h : PGs X es g)
    (hn : (assignEach es X.env).length = n := by rfl) (hst : (assignEach es X.env).findIdx? (·.1) = none := by rfl) : PG X (.Tuple es kk pos) (gTup K n g) := by subst hK; exact pg_tup hc h hn hst
theorem pg_fldK (hK : X.K = K) (ha : PE X o ta) : PG X (.Attribute o f pos) (gFld K ta f) := by subst hK; exact pg_fld ha
theorem pe_bmK (hK : X.K = K) (pa : PlainAttrs T) (slot : Slot T name id) (hty : typeOf (.builtin id) = pure (.type "method_descriptor")) (hm : MtR X id r) (ho : PE X o to) (ha : PA X (e :: es) t)
    (hbase : attributeBase o name X.env (eval o X.env) = eval o X.env := by rfl)
    (hfew : ((backTo cpos (starEach (e :: es) X.env)).all (fun x => !x.1) && (backToKw cpos (keywordEach [] X.env)).all (fun x => x.1.isSome)
      && decide ((e :: es).length + ([] : List Keyword).length + (if ([] : List Keyword).isEmpty then 0 else 1) < 30)) = true := by rfl)
    (hline : (apos.endLine == cpos.line) = true := by rfl) (hs : starEach (e :: es) X.env = (false, eval e X.env) :: starEach es X.env := by rfl) (hplain : (backTo cpos (starEach es X.env)).any (·.1) = false := by rfl) :
    PE X (.Call (.Attribute o name apos) (e :: es) [] cpos) (tBM K T r to t) := by subst hK; exact pe_bm pa slot hty hm ho ha hbase hfew hline hs hplain
theorem pe_bm0K (hK : X.K = K) (pa : PlainAttrs T) (slot : Slot T name id) (hty : typeOf (.builtin id) = pure (.type "method_descriptor")) (hm : MtR X id r) (ho : PE X o to)
    (hbase : attributeBase o name X.env (eval o X.env) = eval o X.env := by rfl) (hline : (apos.endLine == cpos.line) = true := by rfl) : PE X (.Call (.Attribute o name apos) [] [] cpos) (tBM0 K T r to) := by subst hK; exact pe_bm0 pa slot hty hm ho hbase hline
end
end Bx

set_option Elab.async false
set_option linter.all false
set_option maxRecDepth 100000
set_option maxHeartbeats 2000000
set_option autoImplicit false
/-! data by type; operators, calls and statements in the words of BxF -/
namespace Bx
open PySem L2 StX RZ

/-! ### data by type -/
class Dt (α : Type) [DecidableEq α] where
  enc : α → PyData
  eqv : ∀ a b, PyData.eqv (enc a) (enc b) = decide (a = b)
  lay : ∀ a, (enc a).canLay0 = true
  dep : Nat
  dep_le : ∀ a, (enc a).depth ≤ dep
  alike : ∀ a b, W.alike (enc a) (enc b) = true
  nn : ∀ a, enc a ≠ .none
  tot : ∀ a b, W.dataLt (enc a) (enc b) = false → W.dataLt (enc b) (enc a) = false → a = b
section
variable {α β : Type} [DecidableEq α] [Dt α] [DecidableEq β] [Dt β]
theorem encAll_lay : ∀ xs : List α, PyData.canLayAll0 (xs.map Dt.enc) = true
  | [] => rfl
  | x :: xs => by rw [List.map_cons, PyData.canLayAll0, Dt.lay x, encAll_lay xs]; rfl
theorem encAll_dep : ∀ xs : List α, PyData.depthAll (xs.map Dt.enc) ≤ Dt.dep α
  | [] => Nat.zero_le _
  | x :: xs => by
    rw [List.map_cons, PyData.depthAll]
    exact Nat.max_le.mpr ⟨Dt.dep_le x, encAll_dep xs⟩
theorem encAll_eqv : ∀ xs ys : List α, PyData.eqvAll (xs.map Dt.enc) (ys.map Dt.enc) = decide (xs = ys)
  | [], [] => by simp only [List.map_nil, PyData.eqvAll, decide_true]
  | [], _ :: _ => by simp [PyData.eqvAll]
  | _ :: _, [] => by simp [PyData.eqvAll]
  | x :: xs, y :: ys => by
    rw [List.map_cons, List.map_cons, PyData.eqvAll, Dt.eqv x y, encAll_eqv xs ys, ← Bool.decide_and]
    exact decide_eq_decide.mpr (by rw [List.cons.injEq])
theorem encAll_alike : ∀ xs ys : List α, W.alikeAll (xs.map Dt.enc) (ys.map Dt.enc) = true
  | [], _ => by rw [List.map_nil, W.alikeAll]
  | _ :: _, [] => by rw [List.map_nil, List.map_cons, W.alikeAll]
  | x :: xs, y :: ys => by
    rw [List.map_cons, List.map_cons, W.alikeAll, Dt.alike x y, encAll_alike xs ys]
    rfl
theorem encAll_tot : ∀ xs ys : List α, PyProof.Rows.lexLt PyProof.Rows.itemOrd (W.keyToksAll (xs.map Dt.enc)) (W.keyToksAll (ys.map Dt.enc)) = false →
    PyProof.Rows.lexLt PyProof.Rows.itemOrd (W.keyToksAll (ys.map Dt.enc)) (W.keyToksAll (xs.map Dt.enc)) = false → xs = ys
  | [], [], _, _ => rfl
  | [], y :: ys, h, _ => by
    rw [List.map_nil, List.map_cons, W.toks_all_cons] at h
    simp only [W.keyToksAll] at h
    rw [PyProof.Rows.lex_diff (O := PyProof.Rows.itemOrd) (by simp)] at h
    exact absurd h (by decide)
  | x :: xs, [], _, h => by
    rw [List.map_nil, List.map_cons, W.toks_all_cons] at h
    simp only [W.keyToksAll] at h
    rw [PyProof.Rows.lex_diff (O := PyProof.Rows.itemOrd) (by simp)] at h
    exact absurd h (by decide)
  | x :: xs, y :: ys, h, h' => by
    rw [List.map_cons, List.map_cons] at h h'
    by_cases e : x = y
    · subst e
      rw [W.dataLt_all_yes (Dt.alike x x) (by rw [Dt.eqv, decide_eq_true_eq])] at h h'
      rw [encAll_tot xs ys h h']
    · rw [W.dataLt_all_no (Dt.alike x y) (by rw [Dt.eqv, decide_eq_false_iff_not]; exact e)] at h
      rw [W.dataLt_all_no (Dt.alike y x) (by rw [Dt.eqv, decide_eq_false_iff_not]; exact fun z => e z.symm)] at h'
      exact absurd (Dt.tot x y h h') e
instance : Dt Nat where
  enc n := .int n
  eqv a b := by
    simp only [PyData.eqv]
    by_cases h : a = b
    · subst h
      simp
    · simp [h]
      omega
  lay _ := rfl
  dep := 1
  dep_le _ := by simp only [PyData.depth]; omega
  alike a b := by simp only [W.alike]
  nn _ e := by cases e
  tot a b h h' := by
    rw [W.dataLt_int, decide_eq_false_iff_not] at h h'
    omega
instance : Dt Int where
  enc n := .int n
  eqv a b := by
    simp only [PyData.eqv]
    by_cases h : a = b
    · subst h
      simp
    · simp [h]
  lay _ := rfl
  dep := 1
  dep_le _ := by simp only [PyData.depth]; omega
  alike a b := by simp only [W.alike]
  nn _ e := by cases e
  tot a b h h' := by
    rw [W.dataLt_int, decide_eq_false_iff_not] at h h'
    omega
end
/-- a pair is a tuple; a list of things is a tuple, too; Ls: a list -/
structure Ls (α : Type) where
  items : List α
deriving DecidableEq
section
variable {α β : Type} [DecidableEq α] [DecidableEq β] [Dt α] [Dt β]
instance : Dt (α × β) where
  enc p := .tuple [Dt.enc p.1, Dt.enc p.2]
  eqv p q := by
    simp only [PyData.eqv, PyData.eqvAll]
    rw [Dt.eqv, Dt.eqv, Bool.and_true, ← Bool.decide_and]
    exact decide_eq_decide.mpr ⟨fun e => Prod.ext e.1 e.2, fun e => by rw [e]; exact ⟨rfl, rfl⟩⟩
  lay p := by simp only [PyData.canLay0, PyData.canLayAll0, Dt.lay, Bool.and_self]
  dep := max (Dt.dep α) (Dt.dep β) + 1
  dep_le p := by
    simp only [PyData.depth, PyData.depthAll]
    have h1 := Dt.dep_le p.1
    have h2 := Dt.dep_le p.2
    omega
  alike p q := by
    simp only [W.alike, W.alikeAll, Dt.alike, Bool.and_self]
  nn _ e := by cases e
  tot p q h h' := by
    rw [W.dataLt_tuple] at h h'
    by_cases e : p.1 = q.1
    · rw [W.dataLt_all_yes (Dt.alike p.1 q.1) (by rw [Dt.eqv, decide_eq_true_eq]; exact e)] at h
      rw [W.dataLt_all_yes (Dt.alike q.1 p.1) (by rw [Dt.eqv, decide_eq_true_eq]; exact e.symm)] at h'
      exact Prod.ext e (List.cons.inj (encAll_tot [p.2] [q.2] h h')).1
    · rw [W.dataLt_all_no (Dt.alike p.1 q.1) (by rw [Dt.eqv, decide_eq_false_iff_not]; exact e)] at h
      rw [W.dataLt_all_no (Dt.alike q.1 p.1) (by rw [Dt.eqv, decide_eq_false_iff_not]; exact fun z => e z.symm)] at h'
      exact absurd (Dt.tot _ _ h h') e
instance : Dt (List α) where
  enc xs := .tuple (xs.map Dt.enc)
  eqv xs ys := by simp only [PyData.eqv]; exact encAll_eqv xs ys
  lay xs := by simp only [PyData.canLay0]; exact encAll_lay xs
  dep := Dt.dep α + 1
  dep_le xs := by simp only [PyData.depth]; exact Nat.succ_le_succ (encAll_dep xs)
  alike xs ys := by simp only [W.alike]; exact encAll_alike xs ys
  nn _ e := by cases e
  tot xs ys h h' := by
    rw [W.dataLt_tuple] at h h'
    exact encAll_tot xs ys h h'
instance : Dt (Ls α) where
  enc xs := .list (xs.items.map Dt.enc)
  eqv xs ys := by
    simp only [PyData.eqv]
    rw [encAll_eqv]
    exact decide_eq_decide.mpr ⟨fun e => by cases xs; cases ys; exact congrArg Ls.mk e, fun e => by rw [e]⟩
  lay xs := by simp only [PyData.canLay0]; exact encAll_lay xs.items
  dep := Dt.dep α + 1
  dep_le xs := by simp only [PyData.depth]; exact Nat.succ_le_succ (encAll_dep xs.items)
  alike xs ys := by simp only [W.alike]; exact encAll_alike xs.items ys.items
  nn _ e := by cases e
  tot xs ys h h' := by
    rw [W.dataLt_list] at h h'
    have := encAll_tot xs.items ys.items h h'
    cases xs
    cases ys
    exact congrArg Ls.mk this
end
end Bx

set_option Elab.async false
set_option linter.all false
set_option maxRecDepth 100000
set_option maxHeartbeats 2000000
set_option autoImplicit false
/-! operators, calls and statements in the words of BxF -/
namespace Bx
open PySem L2 StX RZ
/-- a thing by its data -/
abbrev oX {α : Type} [DecidableEq α] [Dt α] (K : PySem.W.Frag) (x : α) : Rl := oD K (Dt.enc x)
theorem shp {α : Type} [DecidableEq α] [Dt α] (x : α) (h : Dt.dep α ≤ 60 := by decide) : SeqAt.shaped (Dt.enc x) = true := by
  unfold SeqAt.shaped
  rw [Dt.lay x, Bool.true_and]
  exact decide_eq_true (Nat.le_trans (Dt.dep_le x) (Nat.le_trans h (by decide)))
/-- data at all -/
def isX {α : Type} [DecidableEq α] [Dt α] (K : PySem.W.Frag) (R : α → Rl) : Prop := ∀ x v H, (R x).is v H → Dp K H v (Dt.enc x)
theorem isX_X {α : Type} [DecidableEq α] [Dt α] {K : PySem.W.Frag} : isX K (fun x : α => oX K x) := fun _ _ _ h => h
section
variable {α β γ : Type} {K : PySem.W.Frag} {σ : Sl} {W W' : Hw} {A B C R : Rl} {S : α → Rl} {xs ys : List α} {ta tb te : TE} {v : V} {H : Hp}
theorem isX.list [DecidableEq α] [Dt α] {R : α → Rl} (h : isX K R) : isX K (fun l : Ls α => oL K R l.items) := fun l v H r => by
  obtain ⟨a, vs, rfl, h2, h3⟩ := r
  exact .lst h2 (h3.imp (S := fun x => oX K x) fun x v _ => h x v H).dp
theorem isX.tup [DecidableEq α] [Dt α] {R : α → Rl} (h : isX K R) : isX K (fun l : List α => oT K R l) := fun l v H r => by
  obtain ⟨a, vs, rfl, h2, h3⟩ := r
  exact .tup h2 (h3.imp (S := fun x => oX K x) fun x v _ => h x v H).dp
theorem Rl.mv {H' : Hp} (R : Rl) (e : Same H H') (h : R.is v H) : R.is v H' := R.up e h
/-! ints -/
theorem ev_i0 {g : Int → Int → V} {i j : Int} (ha : Ev ta σ W (oI i)) (hb : Ev tb σ W (oI j)) : Ev (tOp (rI0 g) ta tb) σ W (oV (g i j)) :=
  ev_op ha hb fun x y W' _ hx hy => gv_one rfl fun Q q => ⟨i, j, hx, hy, q⟩
theorem ev_iC {D : Int → Int → Prop} {g : Int → Int → V} {i j : Int} (ha : Ev ta σ W (oI i)) (hb : Ev tb σ W (oI j)) (hc : D i j) : Ev (tOp (rI D g) ta tb) σ W (oV (g i j)) :=
  ev_op ha hb fun x y W' _ hx hy => gv_one rfl fun Q q => ⟨i, j, hx, hy, hc, q⟩
theorem ev_neg {g : Int → V} {i : Int} (ha : Ev ta σ W (oI i)) : Ev (tUn (rU g) ta) σ W (oV (g i)) := ev_un ha fun x W' _ hx => gv_one rfl fun Q q => ⟨i, hx, q⟩
theorem ev_eqV {x y : V} {b : Bool} (ha : Ev ta σ W (oV x)) (hb : Ev tb σ W (oV y)) (hs : scal x y = true) (hd : decide (x = y) = b) : Ev (tOp rEq ta tb) σ W (oB b) :=
  ev_op ha hb fun v w W' _ hx hy => gv_one rfl fun Q q => ⟨by rw [hx, hy]; exact hs, by rw [hx, hy, hd]; exact q⟩
theorem ev_neV {x y : V} {b : Bool} (ha : Ev ta σ W (oV x)) (hb : Ev tb σ W (oV y)) (hs : scal x y = true) (hd : (!decide (x = y)) = b) : Ev (tOp rNe ta tb) σ W (oB b) :=
  ev_op ha hb fun v w W' _ hx hy => gv_one rfl fun Q q => ⟨by rw [hx, hy]; exact hs, by rw [hx, hy, hd]; exact q⟩
theorem ev_isN {b : Bool} (ha : Ev ta σ W A) (hd : ∀ v H, A.is v H → decide (v = .non) = b) (hb : Ev tb σ W oN) : Ev (tOp rIsN ta tb) σ W (oB b) :=
  ev_op ha hb fun v w W' _ hx hy => gv_one rfl fun Q q => ⟨hy, by rw [hd v _ hx]; exact q⟩
theorem ev_notN {b : Bool} (ha : Ev ta σ W A) (hd : ∀ v H, A.is v H → (!decide (v = .non)) = b) (hb : Ev tb σ W oN) : Ev (tOp rNotN ta tb) σ W (oB b) :=
  ev_op ha hb fun v w W' _ hx hy => gv_one rfl fun Q q => ⟨hy, by rw [hd v _ hx]; exact q⟩
theorem ev_isB {a b : Bool} (ha : Ev ta σ W (oB a)) (hb : Ev tb σ W (oB b)) : Ev (tOp rIsB ta tb) σ W (oB (decide (a = b))) :=
  ev_op ha hb fun v w W' _ hx hy => gv_one rfl fun Q q => ⟨a, b, hx, hy, q⟩
theorem ev_notB {a b : Bool} (ha : Ev ta σ W (oB a)) (hb : Ev tb σ W (oB b)) : Ev (tOp rNotB ta tb) σ W (oB (!decide (a = b))) :=
  ev_op ha hb fun v w W' _ hx hy => gv_one rfl fun Q q => ⟨a, b, hx, hy, q⟩
/-! data -/
theorem ev_eqX [DecidableEq α] [Dt α] {x y : α} (ha : Ev ta σ W (oX K x)) (hb : Ev tb σ W (oX K y)) (hz : Dt.dep α ≤ 60 := by decide) : Ev (tOp (rEqD K) ta tb) σ W (oB (decide (x = y))) :=
  ev_op ha hb fun v w W' _ hx hy => gv_one rfl fun Q q => ⟨_, _, dp_up W'.le _ _ hx, dp_up W'.le _ _ hy, shp x hz, shp y hz, by rw [Dt.eqv]; exact q⟩
theorem ev_neX [DecidableEq α] [Dt α] {x y : α} (ha : Ev ta σ W (oX K x)) (hb : Ev tb σ W (oX K y)) (hz : Dt.dep α ≤ 60 := by decide) : Ev (tOp (rNeD K) ta tb) σ W (oB (!decide (x = y))) :=
  ev_op ha hb fun v w W' _ hx hy => gv_one rfl fun Q q => ⟨_, _, dp_up W'.le _ _ hx, dp_up W'.le _ _ hy, shp x hz, shp y hz, by rw [Dt.eqv]; exact q⟩
theorem ev_neD {d e : PyData} {b : Bool} (ha : Ev ta σ W (oD K d)) (hb : Ev tb σ W (oD K e)) (h1 : SeqAt.shaped d = true) (h2 : SeqAt.shaped e = true) (h : (!PyData.eqv d e) = b) : Ev (tOp (rNeD K) ta tb) σ W (oB b) :=
  ev_op ha hb fun v w W' _ hx hy => gv_one rfl fun Q q => ⟨_, _, dp_up W'.le _ _ hx, dp_up W'.le _ _ hy, h1, h2, by rw [h]; exact q⟩
theorem ev_ltX [DecidableEq α] [Dt α] {x y : α} (ha : Ev ta σ W (oX K x)) (hb : Ev tb σ W (oX K y)) (hz : Dt.dep α ≤ 60 := by decide) : Ev (tOp (rLtA K) ta tb) σ W (oB (PySem.W.dataLt (Dt.enc x) (Dt.enc y))) :=
  ev_op ha hb fun v w W' _ hx hy => gv_one rfl fun Q q => ⟨_, _, dp_up W'.le _ _ hx, dp_up W'.le _ _ hy, Dt.alike x y, Dt.nn x, Nat.le_trans (Dt.dep_le x) hz, q⟩
theorem any_enc [DecidableEq α] [Dt α] (x : α) : ∀ xs : List α, ((xs.map Dt.enc).any fun z => PyData.eqv z (Dt.enc x)) = decide (x ∈ xs)
  | [] => by simp
  | y :: ys => by
    rw [List.map_cons, List.any_cons, any_enc x ys, Dt.eqv]
    by_cases h : y = x
    · simp [h]
    · simp [h, Ne.symm h]
theorem shpL [DecidableEq α] [Dt α] (xs : List α) (h : Dt.dep α ≤ 50 := by decide) : SeqAt.shaped (.list (xs.map Dt.enc)) = true := shp (α := Ls α) ⟨xs⟩ (Nat.le_trans (Nat.succ_le_succ h) (by decide))
theorem shpT [DecidableEq α] [Dt α] (xs : List α) (h : Dt.dep α ≤ 50 := by decide) : SeqAt.shaped (.tuple (xs.map Dt.enc)) = true := shp (α := List α) xs (Nat.le_trans (Nat.succ_le_succ h) (by decide))
theorem dpL [DecidableEq α] [Dt α] {H : Hp} {v : V} (hS : isX K S) (h : (oL K S xs).is v H) : Dp K H v (.list (xs.map Dt.enc)) := hS.list ⟨xs⟩ v H h
theorem dpT [DecidableEq α] [Dt α] {H : Hp} {v : V} (hS : isX K S) (h : (oT K S xs).is v H) : Dp K H v (.tuple (xs.map Dt.enc)) := hS.tup xs v H h
theorem ev_inL [DecidableEq α] [Dt α] {x : α} (ha : Ev ta σ W (oX K x)) (hb : Ev tb σ W (oL K S xs)) (hS : isX K S) (hz : Dt.dep α ≤ 50 := by decide) : Ev (tOp (rInD K) ta tb) σ W (oB (decide (x ∈ xs))) :=
  ev_op ha hb fun v w W' _ hx hy => gv_one rfl fun Q q => ⟨_, _, dp_up W'.le _ _ hx, dp_up W'.le _ _ (dpL hS hy), shp x (Nat.le_trans hz (by decide)), shpL xs hz, by rw [any_enc]; exact q⟩
theorem ev_niL [DecidableEq α] [Dt α] {x : α} (ha : Ev ta σ W (oX K x)) (hb : Ev tb σ W (oL K S xs)) (hS : isX K S) (hz : Dt.dep α ≤ 50 := by decide) : Ev (tOp (rNotInD K) ta tb) σ W (oB (!decide (x ∈ xs))) :=
  ev_op ha hb fun v w W' _ hx hy => gv_one rfl fun Q q => ⟨_, _, dp_up W'.le _ _ hx, dp_up W'.le _ _ (dpL hS hy), shp x (Nat.le_trans hz (by decide)), shpL xs hz, by rw [any_enc]; exact q⟩
theorem ev_inT [DecidableEq α] [Dt α] {x : α} (ha : Ev ta σ W (oX K x)) (hb : Ev tb σ W (oT K S xs)) (hS : isX K S) (hz : Dt.dep α ≤ 50 := by decide) : Ev (tOp (rInT K) ta tb) σ W (oB (decide (x ∈ xs))) :=
  ev_op ha hb fun v w W' _ hx hy => gv_one rfl fun Q q => ⟨_, _, dp_up W'.le _ _ hx, dp_up W'.le _ _ (dpT hS hy), shp x (Nat.le_trans hz (by decide)), shpT xs hz, by rw [any_enc]; exact q⟩
theorem ev_niT [DecidableEq α] [Dt α] {x : α} (ha : Ev ta σ W (oX K x)) (hb : Ev tb σ W (oT K S xs)) (hS : isX K S) (hz : Dt.dep α ≤ 50 := by decide) : Ev (tOp (rNiT K) ta tb) σ W (oB (!decide (x ∈ xs))) :=
  ev_op ha hb fun v w W' _ hx hy => gv_one rfl fun Q q => ⟨_, _, dp_up W'.le _ _ hx, dp_up W'.le _ _ (dpT hS hy), shp x (Nat.le_trans hz (by decide)), shpT xs hz, by rw [any_enc]; exact q⟩
/-! items -/
theorem ev_ixT {i : Int} {x : α} (ha : Ev ta σ W (oT K S xs)) (hb : Ev tb σ W (oI i)) (hi : atI xs i = some x) : Ev (tOp (rIxT K) ta tb) σ W (S x) :=
  ev_op ha hb fun v w W' _ ⟨a, vs, hv, hs, hal⟩ hy => by
    obtain ⟨j, h1, h2, h3, h4, h5⟩ := atI_get hi
    obtain ⟨u, hu, ru⟩ := hal.get j h2
    have e : atI vs i = some u := by
      unfold atI at hi ⊢
      cases q : ixN xs.length i with
      | none =>
        rw [q] at hi
        cases hi
      | some k =>
        have ek := (ixN_seq q).1.symm.trans h1
        cases ek
        rw [hal.len, q]
        exact hu
    exact gv_one ru fun Q q => ⟨a, vs, i, u, hv, hy, same_tup W'.le hs, e, q⟩
theorem ev_ixL {i : Int} {x : α} (ha : Ev ta σ W (oL K S xs)) (hb : Ev tb σ W (oI i)) (hi : atI xs i = some x) : Ev (tOp (rIxL K) ta tb) σ W (S x) :=
  ev_op ha hb fun v w W' _ ⟨a, vs, hv, hs, hal⟩ hy => by
    obtain ⟨j, h1, h2, h3, h4, h5⟩ := atI_get hi
    obtain ⟨u, hu, ru⟩ := hal.get j h2
    have e : atI vs i = some u := by
      unfold atI at hi ⊢
      cases q : ixN xs.length i with
      | none =>
        rw [q] at hi
        cases hi
      | some k =>
        have ek := (ixN_seq q).1.symm.trans h1
        cases ek
        rw [hal.len, q]
        exact hu
    exact gv_one ru fun Q q => ⟨a, vs, i, u, hv, hy, W'.le.seq hs, e, q⟩
theorem atN {j : Nat} {x : α} (h : xs[j]? = some x) : atI xs (j : Int) = some x := atI_nat h
/-- the pair's places -/
theorem pair_T [DecidableEq α] [Dt α] [DecidableEq β] [Dt β] {p : α × β} (h : (oX K p).is v H) : (oP K (oX K p.1) (oX K p.2)).is v H := by
  cases h with
  | tup a b =>
    cases b with
    | cons b1 b2 =>
      cases b2 with
      | cons b2 b3 =>
        cases b3
        exact ⟨_, _, rfl, a, b1, b2, trivial⟩
theorem T_pair [DecidableEq α] [Dt α] [DecidableEq β] [Dt β] {p : α × β} (h : (oP K (oX K p.1) (oX K p.2)).is v H) : (oX K p).is v H := by
  obtain ⟨a, vs, rfl, h2, h3⟩ := h
  obtain ⟨x, y, rfl, rx, ry⟩ := two_args h3
  exact .tup h2 (.cons rx (.cons ry .nil))
theorem ev_fst [DecidableEq α] [Dt α] [DecidableEq β] [Dt β] {p : α × β} (ha : Ev ta σ W (oX K p)) (hb : Ev tb σ W (oI 0)) : Ev (tOp (rIxT K) ta tb) σ W (oX K p.1) :=
  ev_ixT (S := id) (xs := [oX K p.1, oX K p.2]) (ha.imp fun v W' _ h => pair_T h) hb rfl
theorem ev_snd [DecidableEq α] [Dt α] [DecidableEq β] [Dt β] {p : α × β} (ha : Ev ta σ W (oX K p)) (hb : Ev tb σ W (oI 1)) : Ev (tOp (rIxT K) ta tb) σ W (oX K p.2) :=
  ev_ixT (S := id) (xs := [oX K p.1, oX K p.2]) (ha.imp fun v W' _ h => pair_T h) hb rfl
theorem X_nat {n : Nat} (h : (oX K n).is v H) : v = .int (n : Int) := dp_int h
theorem ev_nat {n : Nat} (ha : Ev te σ W (oX K n)) : Ev te σ W (oK n) := ha.imp fun v W' _ h => X_nat h
theorem nat_X {n : Nat} (h : v = .int (n : Int)) : (oX K n).is v H := by
  rw [h]
  exact .int _
/-! lists -/
theorem ev_L (ha : Ev te σ W (oM S xs)) : Ev te σ W (oL K S xs) := ha.imp fun v W' _ h => oM_L h
theorem ev_T (ha : Ev te σ W (oU S xs)) : Ev te σ W (oT K S xs) := ha.imp fun v W' _ h => oU_T h
theorem ev_cat (ha : Ev ta σ W (oM S xs)) (hb : Ev tb σ W (oM S ys)) (hz : xs.length + ys.length ≤ 1000000) : Ev (tOp rCat ta tb) σ W (oM S (xs ++ ys)) :=
  ev_op ha hb fun v w W' _ ⟨a, vs, hv, hs, hal⟩ ⟨b, us, hw, hs', hal'⟩ => gv_new (o := .lst (vs ++ us)) (fun Q q => ⟨a, b, vs, us, hv, hw, W'.le _ _ hs, W'.le _ _ hs', by rw [hal.len, hal'.len]; exact small hz, q⟩)
    fun p hp => ⟨p, _, rfl, upd_same, (hal.app hal').up (same_new (Hw.free hp))⟩
theorem ev_lenL {ta : TA} (h : Ea ta σ W [oL K S xs]) : Ev (tCB (Evl.rLenS K) ta) σ W (oK xs.length) :=
  ev_cb h fun vs W' _ r => by
    obtain ⟨x, rfl, a, us, rfl, hs, hal⟩ := one_arg r
    exact gv_one rfl fun Q q => ⟨a, us, rfl, .inl (W'.le.seq hs), by rw [hal.len]; exact q⟩
theorem ev_lenT {ta : TA} (h : Ea ta σ W [oT K S xs]) : Ev (tCB (Evl.rLenS K) ta) σ W (oK xs.length) :=
  ev_cb h fun vs W' _ r => by
    obtain ⟨x, rfl, a, us, rfl, hs, hal⟩ := one_arg r
    exact gv_one rfl fun Q q => ⟨a, us, rfl, .inr (same_tup W'.le hs), by rw [hal.len]; exact q⟩
theorem ev_all {ta : TA} {f : α → Bool} (h : Ea ta σ W [oL K (fun x => oB (f x)) xs]) : Ev (tCB (rAll K) ta) σ W (oB (xs.all f)) :=
  ev_cb h fun vs W' _ r => by
    obtain ⟨x, rfl, a, us, rfl, hs, hal⟩ := one_arg r
    have e := Al.vals (f := fun x => V.bl (f x)) hal
    subst e
    refine gv_one rfl fun Q q => ⟨a, xs.map f, rfl, ?_, ?_⟩
    · rw [List.map_map]
      exact W'.le.seq hs
    · rw [List.all_map]
      exact q
theorem ev_any {ta : TA} {f : α → Bool} (h : Ea ta σ W [oL K (fun x => oB (f x)) xs]) : Ev (tCB (rAny K) ta) σ W (oB (xs.any f)) :=
  ev_cb h fun vs W' _ r => by
    obtain ⟨x, rfl, a, us, rfl, hs, hal⟩ := one_arg r
    have e := Al.vals (f := fun x => V.bl (f x)) hal
    subst e
    refine gv_one rfl fun Q q => ⟨a, xs.map f, rfl, ?_, ?_⟩
    · rw [List.map_map]
      exact W'.le.seq hs
    · rw [List.any_map]
      exact q
theorem ev_tupL {ta : TA} (h : Ea ta σ W [oL K S xs]) : Ev (tCB (rTup K) ta) σ W (oU S xs) :=
  ev_cb h fun vs W' _ r => by
    obtain ⟨x, rfl, a, us, rfl, hs, hal⟩ := one_arg r
    exact gv_new (o := .tup us) (fun Q q => ⟨a, us, rfl, .inl ⟨W'.le.seq hs, q⟩⟩) fun p hp => ⟨p, _, rfl, upd_same, hal.up (same_new (Hw.free hp))⟩
theorem ev_lstT {ta : TA} (h : Ea ta σ W [oT K S xs]) : Ev (tCB (Evl.rListS K) ta) σ W (oM S xs) :=
  ev_cb h fun vs W' _ r => by
    obtain ⟨x, rfl, a, us, rfl, hs, hal⟩ := one_arg r
    exact gv_new (o := .lst us) (fun Q q => ⟨a, us, rfl, .inr (same_tup W'.le hs), q⟩) fun p hp => ⟨p, _, rfl, upd_same, hal.up (same_new (Hw.free hp))⟩
theorem ev_lstL {ta : TA} (h : Ea ta σ W [oL K S xs]) : Ev (tCB (Evl.rListS K) ta) σ W (oM S xs) :=
  ev_cb h fun vs W' _ r => by
    obtain ⟨x, rfl, a, us, rfl, hs, hal⟩ := one_arg r
    exact gv_new (o := .lst us) (fun Q q => ⟨a, us, rfl, .inl (W'.le.seq hs), q⟩) fun p hp => ⟨p, _, rfl, upd_same, hal.up (same_new (Hw.free hp))⟩
theorem ev_sumT {ta : TA} {f : α → Int} (h : Ea ta σ W [oT K (fun x => oI (f x)) xs]) : Ev (tCB (rSumT K) ta) σ W (oI (xs.map f).sum) :=
  ev_cb h fun vs W' _ r => by
    obtain ⟨x, rfl, a, us, rfl, hs, hal⟩ := one_arg r
    have e := Al.vals (f := fun x => V.int (f x)) hal
    subst e
    refine gv_one rfl fun Q q => ⟨a, xs.map f, rfl, ?_, q⟩
    rw [List.map_map]
    exact same_tup W'.le hs
theorem ev_cnt {te : TE} {ta : TA} [DecidableEq α] [Dt α] [BEq α] [LawfulBEq α] {x : α} (h : Ev te σ W (oL K S xs)) (ha : Ea ta σ W [oX K x]) (hS : isX K S) (hz : Dt.dep α ≤ 50 := by decide) : Ev (tBM K "list" (rCntD K) te ta) σ W (oK (xs.count x)) := fun W1 e Q q =>
  h W1 e _ fun v W2 e2 ⟨a, vs, hv, hs, hal⟩ => by
    subst hv
    refine ⟨.inl ⟨rfl, vs, W2.le.seq hs⟩, ha W2 (e.trans e2) _ fun us W3 e3 r => ?_⟩
    obtain ⟨y, rfl, hy⟩ := one_arg r
    refine ⟨a, y, Dt.enc x, xs.map Dt.enc, rfl, rfl, dp_up W3.le _ _ (dpL hS ⟨a, vs, rfl, e3.g.seq hs, hal.up e3.g⟩), dp_up W3.le _ _ hy, shpL xs hz, shp x (Nat.le_trans hz (by decide)), ?_⟩
    have ec : (xs.map Dt.enc).countP (fun z => PyData.eqv z (Dt.enc x)) = xs.count x := by
      rw [List.countP_map, List.count]
      congr 1
      funext y
      show PyData.eqv (Dt.enc y) (Dt.enc x) = (y == x)
      rw [Dt.eqv]
      by_cases h : y = x
      · simp [h]
      · simp [h]
    rw [ec]
    exact q _ W3 (e2.trans e3) rfl
/-! sorted -/
abbrev dle [DecidableEq α] [Dt α] (x y : α) : Bool := PySem.W.dataLe false Dt.enc x y
theorem Al.zip {R : α → Rl} : ∀ {xs : List α} {vs : List V}, Al R xs vs H → ∃ ps : List (V × α), ps.map (·.1) = vs ∧ ps.map (·.2) = xs ∧ ∀ p ∈ ps, (R p.2).is p.1 H
  | [], [], _ => ⟨[], rfl, rfl, fun _ h => nomatch h⟩
  | x :: xs, v :: vs, h => by
    obtain ⟨ps, h1, h2, h3⟩ := Al.zip h.2
    refine ⟨(v, x) :: ps, by rw [List.map_cons, h1], by rw [List.map_cons, h2], fun p hp => ?_⟩
    rcases List.mem_cons.mp hp with rfl | hp
    · exact h.1
    · exact h3 p hp
theorem Al.unzip {R : α → Rl} : ∀ {ps : List (V × α)}, (∀ p ∈ ps, (R p.2).is p.1 H) → Al R (ps.map (·.2)) (ps.map (·.1)) H
  | [], _ => trivial
  | p :: ps, h => ⟨h p List.mem_cons_self, Al.unzip fun q hq => h q (List.mem_cons_of_mem _ hq)⟩
/-- what sorted takes by its items -/
def Srt [DecidableEq α] [Dt α] (xs : List α) : Prop := PySem.W.Sortable (xs.map Dt.enc)
theorem alikes [DecidableEq α] [Dt α] (xs : List α) : PySem.W.AllAlike (xs.map Dt.enc) := fun d hd d' hd' => by
  obtain ⟨x, _, rfl⟩ := List.mem_map.mp hd
  obtain ⟨y, _, rfl⟩ := List.mem_map.mp hd'
  exact Dt.alike x y
theorem ev_sort {ta : TA} [DecidableEq α] [Dt α] (h : Ea ta σ W [oL K S xs]) (hS : isX K S) (hs : Srt xs) (hz : Dt.dep α ≤ 50 := by decide) : Ev (tCB (rSortD K) ta) σ W (oM S (xs.mergeSort dle)) :=
  ev_cb h fun vs W' _ r => by
    obtain ⟨x, rfl, a, us, rfl, hq, hal⟩ := one_arg r
    obtain ⟨ps, rfl, rfl, hp⟩ := hal.zip
    have e1 : (ps.map fun b => Dt.enc b.2) = (ps.map (·.2)).map (Dt.enc (α := α)) := by rw [List.map_map]; rfl
    refine gv_new (o := .lst ((ps.mergeSort (PySem.W.dataLe false fun b => Dt.enc b.2)).map (·.1))) (fun Q q => ⟨α, Dt.enc, a, ps, rfl, W'.le.seq hq, ?_, ?_, ?_, fun b _ => Nat.le_trans (Dt.dep_le b.2) (Nat.le_trans hz (by decide)), q⟩) fun p hn => ⟨p, _, rfl, upd_same, ?_⟩
    · rw [e1]
      exact dpAll_up W'.le _ _ (hal.imp (S := fun x => oX K x) fun x v _ => hS x v _).dp
    · rw [e1]
      exact alikes _
    · rw [e1]
      exact hs
    · have e2 : (ps.map (·.2)).mergeSort dle = (ps.mergeSort (PySem.W.dataLe false fun b => Dt.enc b.2)).map (·.2) := (List.map_mergeSort (r := PySem.W.dataLe false fun b : V × α => Dt.enc b.2) (s := dle) (f := (·.2)) (fun _ _ _ _ => rfl)).symm
      rw [e2]
      exact Al.unzip fun p hp' => (S p.2).up (same_new (Hw.free hn)) (hp p ((List.mergeSort_perm _ _).mem_iff.mp hp'))
theorem srt_ne [DecidableEq α] [Dt α] {xs : List (List α)} (h : ∀ x ∈ xs, x ≠ []) : Srt xs := .inl fun d hd => by
  obtain ⟨x, hx, rfl⟩ := List.mem_map.mp hd
  cases x with
  | nil => exact absurd rfl (h [] hx)
  | cons y ys => exact ⟨Dt.enc y, ys.map Dt.enc, rfl⟩
theorem srt_pair [DecidableEq α] [Dt α] [DecidableEq β] [Dt β] {xs : List (α × β)} : Srt xs := .inl fun d hd => by
  obtain ⟨x, hx, rfl⟩ := List.mem_map.mp hd
  exact ⟨_, _, rfl⟩
end
end Bx

set_option Elab.async false
set_option linter.all false
set_option maxRecDepth 100000
set_option maxHeartbeats 2000000
set_option autoImplicit false
/-! statements, loops, comprehensions with two for, lists that are filled -/
namespace Bx
open PySem L2 StX RZ
section
variable {α β γ : Type} {K : PySem.W.Frag} {σ : Sl} {W W' W0 : Hw} {A B C R : Rl} {S : α → Rl} {xs ys : List α} {ta tb te : TE} {v : V} {H : Hp} {D : Ends} {t u : TS} {c : TT} {i j l : Nat}
/-! ### statements -/
theorem s_seq (h : t { D with nx := u D } σ H) : tSeq t u D σ H := h
theorem s_set (h : Ev te σ W R) (k : ∀ v W', Gr W W' → R.is v W'.g → D.nx (σ.set i (some v)) W'.h) : tAsg te (gName i) D σ W.h := h W (Gr.refl W) _ fun v W' e r => k v W' e r
theorem s_asg {g : TG} (h : Ev te σ W R) (k : ∀ v W', Gr W W' → R.is v W'.g → g v σ W'.h D.nx) : tAsg te g D σ W.h := h W (Gr.refl W) _ fun v W' e r => k v W' e r
theorem s_ret (h : Ev te σ W R) (k : ∀ v W', Gr W W' → R.is v W'.g → D.rt v W'.h) : tRet te D σ W.h := h W (Gr.refl W) _ fun v W' e r => k v W' e r
theorem s_drop (h : Ev te σ W R) (k : ∀ v W', Gr W W' → R.is v W'.g → D.nx σ W'.h) : tDrop te D σ W.h := h W (Gr.refl W) _ fun v W' e r => k v W' e r
theorem s_if {b : Bool} (h : Eb c σ W b) (k1 : b = true → ∀ W', Gr W W' → t D σ W'.h) (k2 : b = false → ∀ W', Gr W W' → u D σ W'.h) : tIfS c t u D σ W.h := h W (Gr.refl W) _ fun W' e => by
  cases b with
  | true => exact iteT (k1 rfl W' e)
  | false => exact iteF (k2 rfl W' e)
/-- a test that fails: on to what follows -/
theorem s_not (h : Eb c σ W false) (k : ∀ W', Gr W W' → D.nx σ W'.h) : tIfS c t tNext D σ W.h := s_if h (fun z => nomatch z) fun _ W' e => k W' e
theorem s_not' (h : Eb c σ W false) (k : ∀ W', Gr W W' → u D σ W'.h) : tIfS c t u D σ W.h := s_if h (fun z => nomatch z) fun _ W' e => k W' e
theorem s_par {t : TA} {Rs : List Rl} (h : Ea t σ W [A, B]) (k : ∀ v w W', Gr W W' → A.is v W'.g → B.is w W'.g → D.nx ((σ.set i (some v)).set j (some w)) W'.h) : tPar i j t D σ W.h := h W (Gr.refl W) _ fun vs W' e r => by
  obtain ⟨x, y, rfl, rx, ry⟩ := two_args r
  exact ⟨x, y, rfl, k x y W' e rx ry⟩
theorem s_par3 {t : TA} (h : Ea t σ W [A, B, C]) (k : ∀ v w z W', Gr W W' → A.is v W'.g → B.is w W'.g → C.is z W'.g → D.nx (((σ.set i (some v)).set j (some w)).set l (some z)) W'.h) : tPar3 i j l t D σ W.h := h W (Gr.refl W) _ fun vs W' e r => by
  obtain ⟨x, y, z, rfl, rx, ry, rz⟩ := three_args r
  exact ⟨x, y, z, rfl, k x y z W' e rx ry rz⟩
/-! the same with what follows -/
theorem q_set (h : Ev te σ W R) (k : ∀ v W', Gr W W' → R.is v W'.g → u D (σ.set i (some v)) W'.h) : tSeq (tAsg te (gName i)) u D σ W.h := s_set (D := { D with nx := u D }) h k
theorem q_asg {g : TG} (h : Ev te σ W R) (k : ∀ v W', Gr W W' → R.is v W'.g → g v σ W'.h (u D)) : tSeq (tAsg te g) u D σ W.h := s_asg (D := { D with nx := u D }) h k
theorem q_drop (h : Ev te σ W R) (k : ∀ v W', Gr W W' → R.is v W'.g → u D σ W'.h) : tSeq (tDrop te) u D σ W.h := s_drop (D := { D with nx := u D }) h k
theorem q_not {c : TT} {t' : TS} (h : Eb c σ W false) (k : ∀ W', Gr W W' → u D σ W'.h) : tSeq (tIfS c t' tNext) u D σ W.h := s_not (D := { D with nx := u D }) h k
theorem q_if {c : TT} {t' t'' : TS} {b : Bool} (h : Eb c σ W b) (k1 : b = true → ∀ W', Gr W W' → t' { D with nx := u D } σ W'.h) (k2 : b = false → ∀ W', Gr W W' → t'' { D with nx := u D } σ W'.h) : tSeq (tIfS c t' t'') u D σ W.h := s_if (D := { D with nx := u D }) h k1 k2
theorem q_when {c : TT} {t' : TS} {b : Bool} (h : Eb c σ W b) (k1 : b = true → ∀ W', Gr W W' → t' { D with nx := u D } σ W'.h) (k2 : b = false → ∀ W', Gr W W' → u D σ W'.h) : tSeq (tIfS c t' tNext) u D σ W.h := s_if (D := { D with nx := u D }) h k1 k2
theorem q_par {t : TA} (h : Ea t σ W [A, B]) (k : ∀ v w W', Gr W W' → A.is v W'.g → B.is w W'.g → u D ((σ.set i (some v)).set j (some w)) W'.h) : tSeq (tPar i j t) u D σ W.h := s_par (Rs := []) (D := { D with nx := u D }) h k
theorem q_par3 {t : TA} (h : Ea t σ W [A, B, C]) (k : ∀ v w z W', Gr W W' → A.is v W'.g → B.is w W'.g → C.is z W'.g → u D (((σ.set i (some v)).set j (some w)).set l (some z)) W'.h) : tSeq (tPar3 i j l t) u D σ W.h := s_par3 (D := { D with nx := u D }) h k
/-- two names -/
theorem g_names {Q : Sl → Hp → Prop} (h : (oP K A B).is v W.g) (k : ∀ x y, A.is x W.g → B.is y W.g → Q ((σ.set i (some x)).set j (some y)) W.h) : gTup K 2 (gCons (gName i) (gCons (gName j) gNil)) v σ W.h Q := by
  obtain ⟨a, vs, rfl, hs, r⟩ := h
  obtain ⟨x, y, rfl, rx, ry⟩ := two_args r
  exact ⟨a, _, rfl, same_tup W.le hs, rfl, x, [y], rfl, y, [], rfl, rfl, k x y rx ry⟩

/-! ### lists that are filled -/
theorem Fl.to {W0 W : Hw} {D : Addr} {acc : List V} (f : Fl W0 W D acc) (new : List V) : Fl W0 (W.own D (.lst new) f.hid) D new := ⟨f.gr.mut f.new f.hid, f.new, upd_same, f.hid⟩
theorem Fl.other {W0 W : Hw} {D q : Addr} {acc : List V} {o : HO} (f : Fl W0 W D acc) (ne : D ≠ q) (hg : W.g q = none) (h0 : W0.h q = none) : Fl W0 (W.own q o hg) D acc :=
  ⟨f.gr.mut h0 hg, f.new, by show upd W.h q o D = _; rw [upd_ne ne]; exact f.at_, f.hid⟩
theorem Fl.start {W : Hw} {p : Addr} {acc : List V} (hp : W.h p = none) : Fl W (W.own p (.lst acc) (Hw.free hp)) p acc := ⟨gr_own hp, hp, upd_same, Hw.free (W := W) hp⟩
/-- seen from earlier -/
theorem Fl.back {W0 W1 W : Hw} {D : Addr} {acc : List V} (e : Gr W0 W1) (f : Fl W1 W D acc) : Fl W0 W D acc := ⟨e.trans f.gr, e.h.free f.new, f.at_, f.hid⟩
theorem own_g {W : Hw} {q : Addr} {o : HO} (hg : W.g q = none) : Same W.g (W.own q o hg).g := Same.refl _
/-- it is settled -/
theorem Fl.fix {W0 W : Hw} {D : Addr} {acc : List V} (f : Fl W0 W D acc) : Gr W0 (W.fix D (.lst acc) f.at_) := f.gr.fix f.new f.at_
theorem Fl.got {W0 W : Hw} {D : Addr} {acc : List V} (f : Fl W0 W D acc) (r : Al S xs acc W.g) : (oM S xs).is (.ref D) (W.fix D (.lst acc) f.at_).g := ⟨D, acc, rfl, upd_same, r.up (same_new f.hid)⟩
theorem fix_g {W0 W : Hw} {D : Addr} {acc : List V} (f : Fl W0 W D acc) : Same W.g (W.fix D (.lst acc) f.at_).g := same_new f.hid
theorem Fl.keep {W0 W : Hw} {D q : Addr} {acc acc' : List V} (f : Fl W0 W D acc) (f' : Fl W0 W q acc') (ne : D ≠ q) : Fl W0 (W.fix q (.lst acc') f'.at_) D acc :=
  ⟨f.gr.fix f'.new f'.at_, f.new, f.at_, by show upd W.g q _ D = none; rw [upd_ne ne]; exact f.hid⟩
/-- x.append(e) -/
theorem s_append {p : Addr} {acc : List V} (hv : σ[i]? = some (some (.ref p))) (f : Fl W0 W p acc) (he : Ev te σ W R) (hl : acc.length < 1000000)
    (k : ∀ v W' (e : Gr W W') (f' : Fl W0 W' p acc), R.is v W'.g → D.nx σ (W'.own p (.lst (acc ++ [v])) f'.hid).h) : tDrop (tBM K "list" rAppend (tVar i) (tCons te tNil)) D σ W.h := by
  refine ⟨.ref p, hv, .inl ⟨rfl, acc, SqL.of f.at_⟩, he W (Gr.refl W) _ fun v W' e r => ?_⟩
  have f' := f.up e
  exact ⟨p, acc, v, rfl, rfl, f'.at_, small_lt (Nat.le_of_lt hl), k v W' e f' r⟩
/-- x.pop() as a value -/
theorem v_pop {p : Addr} {acc : List V} {y : V} {Q : VK} (hv : σ[i]? = some (some (.ref p))) (f : Fl W0 W p (acc ++ [y])) (k : Q y (W.own p (.lst acc) f.hid).h) : tBM0 K "list" rPop (tVar i) σ W.h Q := by
  refine ⟨.ref p, hv, .inl ⟨rfl, _, SqL.of f.at_⟩, p, acc ++ [y], y, rfl, rfl, f.at_, by simp, ?_⟩
  rw [List.dropLast_concat]
  exact k

theorem q_append {p : Addr} {acc : List V} (hv : σ[i]? = some (some (.ref p))) (f : Fl W0 W p acc) (he : Ev te σ W R) (hl : acc.length < 1000000)
    (k : ∀ v W' (e : Gr W W') (f' : Fl W0 W' p acc), R.is v W'.g → u D σ (W'.own p (.lst (acc ++ [v])) f'.hid).h) : tSeq (tDrop (tBM K "list" rAppend (tVar i) (tCons te tNil))) u D σ W.h := s_append (D := { D with nx := u D }) hv f he hl k

/-! ### loops -/
theorem s_for {wi : TI} {g : TG} {tb : TS} (hsrc : Src wi σ W xs S) (Iv : Nat → Sl → Hw → Prop) (h0 : ∀ W', Gr W W' → Iv 0 σ W')
    (turn : ∀ i x σ' W' W2 v (D' : Ends), xs[i]? = some x → Iv i σ' W' → Gr W' W2 → Same W.g W'.g → (S x).is v W2.g → (∀ σ3 W3, Same W'.g W3.g → Iv (i + 1) σ3 W3 → D'.nx σ3 W3.h) → g v σ' W2.h fun σ2 H2 => tb D' σ2 H2)
    (done : ∀ σ' W', Same W.g W'.g → Iv xs.length σ' W' → D.nx σ' W'.h) : tFor wi g tb D σ W.h := hsrc W (Gr.refl W) _ fun J W1 e1 w => by
  refine ⟨fun i m σ' H' => i + m = xs.length ∧ ∃ W', W'.h = H' ∧ Same W1.g W'.g ∧ Iv i σ' W', ⟨xs.length, by omega, W1, rfl, Same.refl _, h0 W1 e1⟩, ?_⟩
  rintro i m σ' _ ⟨him, W', rfl, hg, hI⟩
  by_cases hi : i < xs.length
  · refine .inr ⟨w.go i _ (hg.trans W'.le) hi, fun σ3 H3 => ∃ W3, W3.h = H3 ∧ Same W'.g W3.g ∧ Iv (i + 1) σ3 W3, fun σ3 H3 ⟨W3, h3, g3, i3⟩ => ⟨m - 1, by omega, by omega, W3, h3, hg.trans g3, i3⟩, fun x H' y => ?_⟩
    have hx : xs[i]? = some xs[i] := List.getElem?_eq_getElem hi
    obtain ⟨W2, e2, rfl, rv⟩ := w.yld i _ W' x H' hg hx y
    exact turn i _ σ' W' W2 x _ hx hI e2 (e1.g.trans hg) rv fun σ3 W3 h3 i3 => ⟨W3, rfl, h3, i3⟩
  · have : i = xs.length := by omega
    subst this
    exact .inl ⟨w.stop _ (hg.trans W'.le), done σ' W' (e1.g.trans hg) hI⟩
theorem q_for {wi : TI} {g : TG} {tb : TS} (hsrc : Src wi σ W xs S) (Iv : Nat → Sl → Hw → Prop) (h0 : ∀ W', Gr W W' → Iv 0 σ W')
    (turn : ∀ i x σ' W' W2 v (D' : Ends), xs[i]? = some x → Iv i σ' W' → Gr W' W2 → Same W.g W'.g → (S x).is v W2.g → (∀ σ3 W3, Same W'.g W3.g → Iv (i + 1) σ3 W3 → D'.nx σ3 W3.h) → g v σ' W2.h fun σ2 H2 => tb D' σ2 H2)
    (done : ∀ σ' W', Same W.g W'.g → Iv xs.length σ' W' → u D σ' W'.h) : tSeq (tFor wi g tb) u D σ W.h := s_for (D := { D with nx := u D }) hsrc Iv h0 turn done
theorem s_while {tb : TS} (Iv : Nat → Sl → Hw → Prop) (m0 : Nat) (h0 : Iv m0 σ W)
    (turn : ∀ m σ' W', Iv m σ' W' → ∃ b, Eb c σ' W' b ∧ (b = true → ∀ W2 (D' : Ends), Gr W' W2 → (∀ m' σ3 W3, m' < m → Iv m' σ3 W3 → D'.nx σ3 W3.h) → tb D' σ' W2.h) ∧ (b = false → ∀ W2, Gr W' W2 → D.nx σ' W2.h)) :
    tWhile c tb D σ W.h := by
  refine ⟨fun m σ' H' => ∃ W', W'.h = H' ∧ Iv m σ' W', ⟨m0, W, rfl, h0⟩, ?_⟩
  rintro m σ' _ ⟨W', rfl, hI⟩
  obtain ⟨b, hb, h1, h2⟩ := turn m σ' W' hI
  refine hb W' (Gr.refl W') _ fun W2 e2 => ?_
  cases b with
  | true => exact iteT ⟨fun σ3 H3 => ∃ m', m' < m ∧ ∃ W3, W3.h = H3 ∧ Iv m' σ3 W3, fun σ3 H3 h => h, h1 rfl W2 _ e2 fun m' σ3 W3 hm i3 => ⟨m', hm, W3, rfl, i3⟩⟩
  | false => exact iteF (h2 rfl W2 e2)

theorem q_while {tb : TS} (Iv : Nat → Sl → Hw → Prop) (m0 : Nat) (h0 : Iv m0 σ W)
    (turn : ∀ m σ' W', Iv m σ' W' → ∃ b, Eb c σ' W' b ∧ (b = true → ∀ W2 (D' : Ends), Gr W' W2 → (∀ m' σ3 W3, m' < m → Iv m' σ3 W3 → D'.nx σ3 W3.h) → tb D' σ' W2.h) ∧ (b = false → ∀ W2, Gr W' W2 → u D σ' W2.h)) :
    tSeq (tWhile c tb) u D σ W.h := s_while (D := { D with nx := u D }) Iv m0 h0 turn

/-! ### comprehensions with two for -/
theorem take_flat {f : α → List γ} {i : Nat} {x : α} (h : xs[i]? = some x) : (xs.take (i + 1)).flatMap f = (xs.take i).flatMap f ++ f x := by
  rw [List.take_succ, h, List.flatMap_append]
  simp
theorem flat_len {f : α → List γ} {i : Nat} {x : α} (h : xs[i]? = some x) : ((xs.take i).flatMap f).length + (f x).length ≤ (xs.flatMap f).length := by
  have e : xs.flatMap f = (xs.take (i + 1)).flatMap f ++ (xs.drop (i + 1)).flatMap f := by rw [← List.flatMap_append, List.take_append_drop]
  rw [e, take_flat h, List.length_append, List.length_append]
  omega
theorem take_map_yes {p : β → Bool} {f : β → γ} {zs : List β} {i : Nat} {x : β} (h : zs[i]? = some x) (hp : p x = true) : ((zs.take (i + 1)).filter p).map f = ((zs.take i).filter p).map f ++ [f x] := by
  rw [take_yes h hp, List.map_append]
  rfl
theorem take_map_no {p : β → Bool} {f : β → γ} {zs : List β} {i : Nat} {x : β} (h : zs[i]? = some x) (hp : p x = false) : ((zs.take (i + 1)).filter p).map f = ((zs.take i).filter p).map f := by
  rw [take_no h hp]
theorem ev_lc2 {wi wi1 : TI} {g g1 : TG} {tt tt1 : TT} {vs vs1 : List Nat} (zs : α → List β) (q : α → β → Bool) (f : α → β → γ) (S1 : α → β → Rl) (T : γ → Rl) (hsrc : Src wi σ W xs S)
    (hz : (xs.flatMap fun x => ((zs x).filter (q x)).map (f x)).length ≤ 1000000)
    (turn : ∀ x ∈ xs, ∀ W1, Gr W W1 → Tg g (wipe σ vs) (S x) fun σ2 G => G = W1.g → wipe σ2 vs = wipe σ vs ∧ Eb tt σ2 W1 true ∧ Src wi1 σ2 W1 (zs x) (S1 x) ∧
      ∀ y ∈ zs x, ∀ W2, Gr W W2 → Same W1.g W2.g → Tg g1 (wipe σ2 vs1) (S1 x y) fun σ3 G3 => G3 = W2.g → wipe σ3 vs1 = wipe σ2 vs1 ∧ Eb tt1 σ3 W2 (q x y) ∧ (q x y = true → Ev te σ3 W2 (T (f x y)))) :
    Ev (tLc2 wi g tt wi1 g1 tt1 te vs vs1) σ W (oM T (xs.flatMap fun x => ((zs x).filter (q x)).map (f x))) := fun W0 e0 Q k => hsrc W0 e0 _ fun J W1 e1 w D hD => by
  refine ⟨fun i m H' => i + m = xs.length ∧ ∃ (W' : Hw) (acc : List V), W'.h = H' ∧ Fl W1 W' D acc ∧ Al T ((xs.take i).flatMap fun x => ((zs x).filter (q x)).map (f x)) acc W'.g, ⟨xs.length, by simp, W1.own D (.lst []) (Hw.free hD), [], rfl, ⟨gr_own hD, hD, upd_same, Hw.free (W := W1) hD⟩, by simp [Al]⟩, ?_⟩
  rintro i m _ ⟨him, W2, acc, rfl, fl, hal⟩
  have e2 : Gr W W2 := (e0.trans e1).trans fl.gr
  have s2 : Same W1.g W2.h := fl.gr.g.trans W2.le
  by_cases hi : i < xs.length
  · refine .inr ⟨w.go i _ s2 hi, fun H'' => i + 1 + (m - 1) = xs.length ∧ ∃ (W' : Hw) (acc : List V), W'.h = H'' ∧ Fl W1 W' D acc ∧ Al T ((xs.take (i + 1)).flatMap fun x => ((zs x).filter (q x)).map (f x)) acc W'.g, fun H'' h => ⟨m - 1, by omega, h⟩, fun v H'' y => ?_⟩
    have hx : xs[i]? = some xs[i] := List.getElem?_eq_getElem hi
    obtain ⟨W3, e3, rfl, rv⟩ := w.yld i _ W2 v H'' fl.gr.g hx y
    obtain ⟨σ2, hP, hg⟩ := turn _ (List.getElem_mem hi) W3 (e2.trans e3) v W3 rv
    obtain ⟨hw, ht, hs1, hin⟩ := hP rfl
    refine hg _ ⟨hw, ht W3 (Gr.refl _) _ fun W4 e4 => ?_⟩
    refine iteT (hs1 W4 e4 _ fun J1 W5 e5 w1 => ?_)
    have e35 : Gr W3 W5 := e4.trans e5
    have f5 := (fl.up e3).up e35
    have al5 := hal.up (e3.trans e35).g
    refine ⟨fun j k H' => j + k = (zs xs[i]).length ∧ ∃ (W' : Hw) (acc : List V), W'.h = H' ∧ Fl W1 W' D acc ∧ Same W5.g W'.g ∧ Al T (((xs.take i).flatMap fun x => ((zs x).filter (q x)).map (f x)) ++ (((zs xs[i]).take j).filter (q xs[i])).map (f xs[i])) acc W'.g,
      ⟨(zs xs[i]).length, by simp, W5, acc, rfl, f5, Same.refl _, by simpa using al5⟩, ?_⟩
    rintro j kk _ ⟨hjk, W6, acc6, rfl, f6, g6, al6⟩
    by_cases hj : j < (zs xs[i]).length
    · have hy : (zs xs[i])[j]? = some (zs xs[i])[j] := List.getElem?_eq_getElem hj
      refine .inr ⟨w1.go j _ (g6.trans W6.le) hj, fun H'' => j + 1 + (kk - 1) = (zs xs[i]).length ∧ ∃ (W' : Hw) (acc : List V), W'.h = H'' ∧ Fl W1 W' D acc ∧ Same W5.g W'.g ∧ Al T (((xs.take i).flatMap fun x => ((zs x).filter (q x)).map (f x)) ++ (((zs xs[i]).take (j + 1)).filter (q xs[i])).map (f xs[i])) acc W'.g,
        fun H'' h => ⟨kk - 1, by omega, h⟩, fun v1 H'' y1 => ?_⟩
      obtain ⟨W7, e7, rfl, rv1⟩ := w1.yld j _ W6 v1 H'' g6 hy y1
      have f7 := f6.up e7
      have g37 : Same W3.g W7.g := (e35.g.trans g6).trans e7.g
      obtain ⟨σ3, hP3, hg3⟩ := hin _ (List.getElem_mem hj) W7 ((e0.trans e1).trans f7.gr) g37 v1 W7 rv1
      obtain ⟨hw3, ht3, hv3⟩ := hP3 rfl
      refine hg3 _ ⟨hw3, ht3 W7 (Gr.refl _) _ fun W8 e8 => ?_⟩
      have f8 := f7.up e8
      have al8 := al6.up (e7.trans e8).g
      have g8 : Same W5.g W8.g := (g6.trans e7.g).trans e8.g
      cases hq : q xs[i] (zs xs[i])[j] with
      | false =>
        refine iteF ⟨by omega, W8, acc6, rfl, f8, g8, ?_⟩
        rw [take_map_no hy hq]
        exact al8
      | true =>
        refine iteT (hv3 hq W8 e8 _ fun z W9 e9 rz => ?_)
        have f9 := f8.up e9
        refine ⟨acc6, f9.at_, ?_, by omega, W9.own D (.lst (acc6 ++ [z])) f9.hid, acc6 ++ [z], rfl, f9.put z, (g8.trans e9.g), ?_⟩
        · have l1 := al6.len
          have l2 := flat_len (f := fun x => ((zs x).filter (q x)).map (f x)) hx
          have l3 := take_map_yes (f := f xs[i]) hy hq
          have l4 : ((((zs xs[i]).take (j + 1)).filter (q xs[i])).map (f xs[i])).length ≤ (((zs xs[i]).filter (q xs[i])).map (f xs[i])).length := by
            rw [List.length_map, List.length_map]
            exact ((List.take_sublist _ _).filter _).length_le
          rw [l3, List.length_append, List.length_singleton] at l4
          rw [List.length_append] at l1
          exact small_lt (by omega)
        · rw [take_map_yes hy hq, ← List.append_assoc]
          exact (al8.up e9.g).snoc rz
    · have hj' : j = (zs xs[i]).length := by omega
      subst hj'
      refine .inl ⟨w1.stop _ (g6.trans W6.le), by omega, W6, acc6, rfl, f6, ?_⟩
      rw [List.take_length] at al6
      rw [take_flat hx]
      exact al6
  · have hi' : i = xs.length := by omega
    subst hi'
    refine .inl ⟨w.stop _ s2, ?_⟩
    have e3 : Gr W0 (W2.fix D (.lst acc) fl.at_) := (e1.trans fl.gr).fix (e1.h.free fl.new) fl.at_
    refine k (.ref D) (W2.fix D (.lst acc) fl.at_) e3 ⟨D, acc, rfl, upd_same, ?_⟩
    rw [List.take_length] at hal
    exact hal.up (same_new fl.hid)
end
/-! ### comprehensions over names -/
theorem filter_yes {α : Type} {xs : List α} : xs.filter (fun _ => true) = xs := List.filter_eq_self.mpr fun _ _ => rfl
theorem all_yes {α : Type} {xs : List α} : xs.all (fun _ => true) = true := List.all_eq_true.mpr fun _ _ => rfl
section
variable {α β γ : Type} {K : PySem.W.Frag} {σ : Sl} {W : Hw} {S : α → Rl} {xs : List α} {te : TE} {wi wi1 : TI} {tt tt1 : TT} {vs vs1 : List Nat} {i j l : Nat}
theorem ev_lcF (p : α → Bool) (T : α → Rl) (hsrc : Src wi σ W xs S) (hz : xs.length ≤ 1000000) (hw : ∀ v, wipe ((wipe σ vs).set j (some v)) vs = wipe σ vs)
    (turn : ∀ x ∈ xs, ∀ W1 v, Gr W W1 → (S x).is v W1.g → Eb tt ((wipe σ vs).set j (some v)) W1 (p x) ∧ (p x = true → Ev te ((wipe σ vs).set j (some v)) W1 (T x))) :
    Ev (tLc wi (gName j) tt te vs) σ W (oM T (xs.filter p)) := ev_lc p T hsrc hz fun x hx W1 e => tg_name fun v H r hH => by
  subst hH
  exact ⟨hw v, turn x hx W1 v e r⟩
theorem ev_lcA (T : α → Rl) (hsrc : Src wi σ W xs S) (hz : xs.length ≤ 1000000) (hw : ∀ v, wipe ((wipe σ vs).set j (some v)) vs = wipe σ vs)
    (turn : ∀ x ∈ xs, ∀ W1 v, Gr W W1 → (S x).is v W1.g → Ev te ((wipe σ vs).set j (some v)) W1 (T x)) :
    Ev (tLc wi (gName j) tYes te vs) σ W (oM T xs) := by
  have := ev_lcF (p := fun _ => true) T hsrc hz hw (te := te) (tt := tYes) fun x hx W1 v e r => ⟨eb_yes, fun _ => turn x hx W1 v e r⟩
  rw [filter_yes] at this
  exact this
/-- targets (a, b) -/
theorem ev_lcP {A B : α → Rl} (p : α → Bool) (T : α → Rl) (hsrc : Src wi σ W xs fun x => oP K (A x) (B x)) (hz : xs.length ≤ 1000000) (hw : ∀ v u, wipe (((wipe σ vs).set i (some v)).set j (some u)) vs = wipe σ vs)
    (turn : ∀ x ∈ xs, ∀ W1 v u, Gr W W1 → (A x).is v W1.g → (B x).is u W1.g → Eb tt (((wipe σ vs).set i (some v)).set j (some u)) W1 (p x) ∧ (p x = true → Ev te (((wipe σ vs).set i (some v)).set j (some u)) W1 (T x))) :
    Ev (tLc wi (gTup K 2 (gCons (gName i) (gCons (gName j) gNil))) tt te vs) σ W (oM T (xs.filter p)) := ev_lc p T hsrc hz fun x hx W1 e => tg_pair fun v u H r r' hH => by
  subst hH
  exact ⟨hw v u, turn x hx W1 v u e r r'⟩
theorem ev_lcPA {A B : α → Rl} (T : α → Rl) (hsrc : Src wi σ W xs fun x => oP K (A x) (B x)) (hz : xs.length ≤ 1000000) (hw : ∀ v u, wipe (((wipe σ vs).set i (some v)).set j (some u)) vs = wipe σ vs)
    (turn : ∀ x ∈ xs, ∀ W1 v u, Gr W W1 → (A x).is v W1.g → (B x).is u W1.g → Ev te (((wipe σ vs).set i (some v)).set j (some u)) W1 (T x)) :
    Ev (tLc wi (gTup K 2 (gCons (gName i) (gCons (gName j) gNil))) tYes te vs) σ W (oM T xs) := by
  have := ev_lcP (p := fun _ => true) T hsrc hz hw (te := te) (tt := tYes) fun x hx W1 v u e r r' => ⟨eb_yes, fun _ => turn x hx W1 v u e r r'⟩
  rw [filter_yes] at this
  exact this
theorem ev_lc2F (zs : α → List β) (q : α → β → Bool) (f : α → β → γ) (S1 : α → β → Rl) (T : γ → Rl) (hsrc : Src wi σ W xs S)
    (hz : (xs.flatMap fun x => ((zs x).filter (q x)).map (f x)).length ≤ 1000000) (hw : ∀ v, wipe ((wipe σ vs).set i (some v)) vs = wipe σ vs) (hw1 : ∀ v u, wipe ((wipe ((wipe σ vs).set i (some v)) vs1).set j (some u)) vs1 = wipe ((wipe σ vs).set i (some v)) vs1)
    (turn : ∀ x ∈ xs, ∀ W1 v, Gr W W1 → (S x).is v W1.g → Src wi1 ((wipe σ vs).set i (some v)) W1 (zs x) (S1 x) ∧
      ∀ y ∈ zs x, ∀ W2 u, Gr W W2 → (S x).is v W2.g → (S1 x y).is u W2.g → Eb tt1 ((wipe ((wipe σ vs).set i (some v)) vs1).set j (some u)) W2 (q x y) ∧ (q x y = true → Ev te ((wipe ((wipe σ vs).set i (some v)) vs1).set j (some u)) W2 (T (f x y)))) :
    Ev (tLc2 wi (gName i) tYes wi1 (gName j) tt1 te vs vs1) σ W (oM T (xs.flatMap fun x => ((zs x).filter (q x)).map (f x))) :=
  ev_lc2 zs q f S1 T hsrc hz fun x hx W1 e => tg_name fun v H r hH => by
    subst hH
    obtain ⟨h1, h2⟩ := turn x hx W1 v e r
    exact ⟨hw v, eb_yes, h1, fun y hy W2 e2 g2 => tg_name fun u H2 r2 hH2 => by
      subst hH2
      exact ⟨hw1 v u, h2 y hy W2 u e2 ((S x).up g2 r) r2⟩⟩
theorem ev_lc2A (zs : α → List β) (f : α → β → γ) (S1 : α → β → Rl) (T : γ → Rl) (hsrc : Src wi σ W xs S)
    (hz : (xs.flatMap fun x => (zs x).map (f x)).length ≤ 1000000) (hw : ∀ v, wipe ((wipe σ vs).set i (some v)) vs = wipe σ vs) (hw1 : ∀ v u, wipe ((wipe ((wipe σ vs).set i (some v)) vs1).set j (some u)) vs1 = wipe ((wipe σ vs).set i (some v)) vs1)
    (turn : ∀ x ∈ xs, ∀ W1 v, Gr W W1 → (S x).is v W1.g → Src wi1 ((wipe σ vs).set i (some v)) W1 (zs x) (S1 x) ∧
      ∀ y ∈ zs x, ∀ W2 u, Gr W W2 → (S x).is v W2.g → (S1 x y).is u W2.g → Ev te ((wipe ((wipe σ vs).set i (some v)) vs1).set j (some u)) W2 (T (f x y))) :
    Ev (tLc2 wi (gName i) tYes wi1 (gName j) tYes te vs vs1) σ W (oM T (xs.flatMap fun x => (zs x).map (f x))) := by
  have e : ∀ x, (zs x).filter (fun _ => true) = zs x := fun x => filter_yes
  have := ev_lc2F (zs := zs) (q := fun _ _ => true) (f := f) S1 T hsrc (te := te) (tt1 := tYes) (by simpa only [e] using hz) hw hw1 fun x hx W1 v e r => ⟨(turn x hx W1 v e r).1, fun y hy W2 u e2 r1 r2 => ⟨eb_yes, fun _ => (turn x hx W1 v e r).2 y hy W2 u e2 r1 r2⟩⟩
  simpa only [e] using this
theorem ev_allT {ta : TA} (h : Ea ta σ W [oL K (fun _ => oB true) xs]) : Ev (tCB (rAll K) ta) σ W (oB true) := by
  have := ev_all (f := fun _ => true) h
  rw [all_yes] at this
  exact this
end
/-! ### the entry of a def -/
theorem ok_of {P : Program} {w : World} {K : PySem.W.Frag} {mg : Str → Option Value} {base : Heap} {x qual : Str} {st : Stmt} {N ps : List Str} {k : Nat} {Φ : List Rl → Rl → Prop} (D : Df K mg x qual st ps) (S : FnScope N ps (defScope st))
    (hlen : ∀ As R, Φ As R → As.length = ps.length)
    (hbody : ∀ (f : Addr) (cdv : Value) (A : Around) (outer : List Env) (s : Shared) (E : XK) (W : Hw) (vs : List V) (As : List Rl) (R : Rl) (Q : VK), Room k (A.deeper (PyProof.Rows.envOfC qual (defScope st) s.heap.objs.size f cdv)) → Φ As R → Al id As vs W.g →
      (∀ v W', Gr W W' → R.is v W'.g → Q v W'.h) →
      ∃ t, PSs (cxOf CX0 P w K mg base N qual (defScope st) f cdv A outer s W.h E).nox (defBody st) t ∧ t { nx := fun _ H' => Q .non H', rt := Q } (start N vs) W.h) : Ca P w K mg base (k + 1) x ps (spF Φ) := by
  obtain ⟨f, fd, F, hm, hb⟩ := D
  refine ⟨f, fd, F.ok S (fun vs H Q E h => ?_) (fun cdv A outer s H vs Q E hr h => ?_), hm, F.kp, hb⟩
  · obtain ⟨W, As, R, _, hΦ, hA, _⟩ := h
    rw [← hlen As R hΦ]
    exact hA.len
  · obtain ⟨W, As, R, rfl, hΦ, hA, hk⟩ := h
    exact hbody f cdv A outer s E W vs As R Q hr hΦ hA hk
theorem hu_any {k : Nat} {A : Around} (hr : Room k A) : ∀ n : Nat, n ≤ 200 → A.units + n < cLine := fun n hn => by
  have := hr.un
  omega
end Bx

set_option Elab.async false
set_option linter.all false
set_option maxRecDepth 100000
set_option maxHeartbeats 4000000
set_option autoImplicit false
namespace Bx
open PySem L2 StX RZ
abbrev Pin := Nat × Nat
theorem q_dec {p : Prop} [Decidable p] {Q : VK} {H : Hp} (h : p) (q : Q (.bl true) H) : Q (.bl (decide p)) H := by
  rw [decide_eq_true h]
  exact q
abbrev Sw := Pin × Pin
theorem ev_isi {K : PySem.W.Frag} {σ : Sl} {W : Hw} {A : Rl} {ta : TE} {c : V} {u t : Value} {b : Bool} (ha : Ev ta σ W A) (hT : ∀ (v : V) (W' : Hw), A.is v W'.g → TyX K W'.h v t) (hc : ClsV c u) (hk : PySem.W.kitOne K t u = some b) :
    Ev (tCB (rIsi K) (tCons ta (tCons (tC c) tNil))) σ W (oB b) :=
  ev_cb (ea_cons ha (ea_cons ev_c ea_nil)) fun vs W' _ r => by
    obtain ⟨x, y, rfl, rx, ry⟩ := two_args r
    exact gv_one rfl fun Q q => ⟨x, y, t, u, b, rfl, by rw [ry]; exact hc, hT x W' rx, hk, q⟩
theorem ty_tup {K : PySem.W.Frag} {H : Hp} {a : Addr} {vs : List V} (h : SqT K H a vs) : TyX K H (.ref a) (.type "tuple") := by
  rcases h with (h | ⟨o, h⟩) | ⟨o, its, n, h1, h2, _⟩
  · exact .base (.tup h)
  · exact .fTuple h
  · exact .kTuple h1 h2
theorem ty_lst {K : PySem.W.Frag} {H : Hp} {a : Addr} {vs : List V} (h : SqL K H a vs) : TyX K H (.ref a) (.type "list") := by
  rcases h with (h | ⟨o, h⟩) | ⟨o, its, n, h1, h2, _⟩
  · exact .base (.lst h)
  · exact .base (.frz h)
  · exact .kList h1 h2
theorem ev_isiT {α : Type} {K : PySem.W.Frag} {σ : Sl} {W : Hw} {S : α → Rl} {xs : List α} {ta : TE} (ha : Ev ta σ W (oT K S xs)) : Ev (tCB (rIsi K) (tCons ta (tCons (tC (.ty "tuple")) tNil))) σ W (oB true) :=
  ev_isi ha (fun v W' ⟨a, vs, hv, hs, _⟩ => by rw [hv]; exact ty_tup (same_tup W'.le hs)) (.ty "tuple") rfl
theorem ev_isiI {K : PySem.W.Frag} {σ : Sl} {W : Hw} {i : Int} {ta : TE} (ha : Ev ta σ W (oI i)) : Ev (tCB (rIsi K) (tCons ta (tCons (tC (.ty "int")) tNil))) σ W (oB true) :=
  ev_isi ha (fun v W' hv => by rw [hv]; exact .base (.int i)) (.ty "int") rfl
theorem ev_isiB {K : PySem.W.Frag} {σ : Sl} {W : Hw} {i : Int} {ta : TE} (ha : Ev ta σ W (oI i)) : Ev (tCB (rIsi K) (tCons ta (tCons (tC (.ty "bool")) tNil))) σ W (oB false) :=
  ev_isi ha (fun v W' hv => by rw [hv]; exact .base (.int i)) (.ty "bool") rfl
abbrev s_is_number : Stmt := top 14
abbrev N_is_number : List Str := ["thing"]
theorem sc_is_number : FnScope N_is_number ["thing"] (defScope s_is_number) := ⟨rfl, rfl, rfl, by decide +kernel, rfl, by decide +kernel, by decide +kernel⟩

inductive Φ_is_number (K : PySem.W.Frag) (C : Addr) : List Rl → Rl → Prop
  | mk (i : Int) : Φ_is_number K C [oI i] (oB true)
theorem ok_is_number {P : Program} {w : World} {K : PySem.W.Frag} {mg : Str → Option Value} {base : Heap} {C : Addr} (T : Tx K mg C) (Dd : Df K mg "is_number" "is_number" s_is_number ["thing"])  :
    Ca P w K mg base 1 "is_number" ["thing"] ((spF (Φ_is_number K C))) := by
  refine ok_of Dd sc_is_number (fun As R h => by cases h <;> rfl) (fun f cdv A outer s E W vs As R Q hr hΦ hA k => ?_)
  have hu := hu_any hr
  have nd := sc_is_number.nd
  refine ⟨_, (pss_one (ps_ret (pe_and (pe_callB (isiK (K := K) rfl) rfl T.n_isinstance boot_isinstance' (pa_cons (pv 0) (pa_cons (pe_bltn (v := .ty "int") rfl T.n_int boot_int' rfl) pa_nil))) (pe_one (pe_not (pe_callB (isiK (K := K) rfl) rfl T.n_isinstance boot_isinstance' (pa_cons (pv 0) (pa_cons (pe_bltn (v := .ty "bool") rfl T.n_bool boot_bool' rfl) pa_nil)))))))), ?_⟩
  cases hΦ with
  | mk i =>
    obtain ⟨v0, rfl, h0⟩ := one_arg hA
    exact s_ret (ev_and2 (ev_isiI (ev_var rfl h0)) fun _ => ev_notV (ev_isiB (ev_var rfl h0))) k
abbrev s_is_between : Stmt := top 15
abbrev N_is_between : List Str := ["thing", "low", "high"]
theorem sc_is_between : FnScope N_is_between ["thing", "low", "high"] (defScope s_is_between) := ⟨rfl, rfl, rfl, by decide +kernel, rfl, by decide +kernel, by decide +kernel⟩

inductive Φ_is_between (K : PySem.W.Frag) (C : Addr) : List Rl → Rl → Prop
  | mk (i lo hi : Int) (h1 : lo ≤ i) (h2 : i ≤ hi) : Φ_is_between K C [oI i, oI lo, oI hi] (oB true)
theorem ok_is_between {P : Program} {w : World} {K : PySem.W.Frag} {mg : Str → Option Value} {base : Heap} {C : Addr} (T : Tx K mg C) (Dd : Df K mg "is_between" "is_between" s_is_between ["thing", "low", "high"]) (h_is_number : Ca P w K mg base 1 "is_number" ["thing"] ((spF (Φ_is_number K C)))) :
    Ca P w K mg base 2 "is_between" ["thing", "low", "high"] ((spF (Φ_is_between K C))) := by
  refine ok_of Dd sc_is_between (fun As R h => by cases h <;> rfl) (fun f cdv A outer s E W vs As R Q hr hΦ hA k => ?_)
  have hu := hu_any hr
  have nd := sc_is_between.nd
  refine ⟨_, (pss_one (ps_ret (pe_and (pe_ca h_is_number hr rfl (pa_cons (pv 0) pa_nil)) (pe_one (pe_chain op_le op_le (pv 1) (pv 0) (pv 2)))))), ?_⟩
  cases hΦ with
  | mk i lo hi h1 h2 =>
    obtain ⟨v0, v1, v2, rfl, h0, h1', h2'⟩ := three_args hA
    refine s_ret (ev_and2 (b := true) (ev_call (ea_cons (ev_var rfl h0) ea_nil) (.mk i)) fun _ => ev_chain (b := true) (ev_var rfl h1') (ev_var rfl h0) (ev_var rfl h2') ?_ ?_ (fun z => nomatch z)) k
    · intro x y W' _ hx hy
      exact gv_one rfl fun Q q => ⟨lo, i, hx, hy, q_dec h1 q⟩
    · intro _ x y W' _ hx hy
      exact gv_one rfl fun Q q => ⟨i, hi, hx, hy, q_dec h2 q⟩
abbrev s_is_pin : Stmt := top 16
abbrev N_is_pin : List Str := ["thing", "sides", "tracks"]
theorem sc_is_pin : FnScope N_is_pin ["thing", "sides", "tracks"] (defScope s_is_pin) := ⟨rfl, rfl, rfl, by decide +kernel, rfl, by decide +kernel, by decide +kernel⟩

inductive Φ_is_pin (K : PySem.W.Frag) (C : Addr) : List Rl → Rl → Prop
  | mk (p : Pin) (s t : Nat) (h1 : p.1 < s) (h2 : p.2 < t) : Φ_is_pin K C [oX K p, oK s, oK t] (oB true)
theorem ok_is_pin {P : Program} {w : World} {K : PySem.W.Frag} {mg : Str → Option Value} {base : Heap} {C : Addr} (T : Tx K mg C) (Dd : Df K mg "is_pin" "is_pin" s_is_pin ["thing", "sides", "tracks"]) (h_is_between : Ca P w K mg base 2 "is_between" ["thing", "low", "high"] ((spF (Φ_is_between K C)))) :
    Ca P w K mg base 3 "is_pin" ["thing", "sides", "tracks"] ((spF (Φ_is_pin K C))) := by
  refine ok_of Dd sc_is_pin (fun As R h => by cases h <;> rfl) (fun f cdv A outer s E W vs As R Q hr hΦ hA k => ?_)
  have hu := hu_any hr
  have nd := sc_is_pin.nd
  refine ⟨_, (pss_cons (ps_if (pt_orW (pt_not (pt_val (pe_callB (isiK (K := K) rfl) rfl T.n_isinstance boot_isinstance' (pa_cons (pv 0) (pa_cons (pe_bltn (v := .ty "tuple") rfl T.n_tuple boot_tuple' rfl) pa_nil))))) (pw_or1 (pt_cmpR op_ne (pe_callB (lenK (K := K) rfl) rfl T.n_len boot_len' (pa_cons (pv 0) pa_nil)) pe_int (nomark _)))) (pss_one (ps_ret pe_bl)) pss_nil)
      (pss_one (ps_ret (pe_and (pe_ca h_is_between hr rfl (pa_cons (pe_ix (ixT (K := K) rfl) (pv 0) pe_int (fun _ _ => rfl)) (pa_cons pe_int (pa_cons (pe_op op_sub (pv 1) pe_int) pa_nil)))) (pe_one (pe_ca h_is_between hr rfl (pa_cons (pe_ix (ixT (K := K) rfl) (pv 0) pe_int (fun _ _ => rfl)) (pa_cons pe_int (pa_cons (pe_op op_sub (pv 2) pe_int) pa_nil))))))))), ?_⟩
  cases hΦ with
  | mk p s t h1 h2 =>
    obtain ⟨v0, v1, v2, rfl, h0, h1', h2'⟩ := three_args hA
    refine s_not (eb_or (a := false) (b := false) (eb_not (a := true) (eb_B (ev_isiT ((ev_var rfl h0).imp fun v W' _ h => pair_T h)))) fun _ => eb_test (ev_neV (ev_lenT (ea_cons ((ev_var rfl h0).imp fun v W' _ h => pair_T h) ea_nil)) ev_c rfl rfl)) fun W1 e1 => ?_
    refine s_ret (ev_and2 (a := true) (b := true) (ev_call (ea_cons (ev_nat (ev_fst (ev_var rfl (Rl.mv _ e1.g h0)) ev_c)) (ea_cons ev_c (ea_cons (ev_i0 (ev_var rfl (Rl.mv _ e1.g h1')) ev_c) ea_nil))) (.mk _ _ _ (by omega) (by omega))) fun _ =>
      ev_call (ea_cons (ev_nat (ev_snd (ev_var rfl (Rl.mv _ e1.g h0)) ev_c)) (ea_cons ev_c (ea_cons (ev_i0 (ev_var rfl (Rl.mv _ e1.g h2')) ev_c) ea_nil))) (.mk _ _ _ (by omega) (by omega))) fun v W2 e2 r => k v W2 (e1.trans e2) r
end Bx

set_option Elab.async false
set_option linter.all false
set_option maxRecDepth 100000
set_option maxHeartbeats 4000000
set_option autoImplicit false
namespace Bx
open PySem L2 StX RZ
def okSw (s : Sw) (n t : Nat) : Prop := s.1.1 < n ∧ s.1.2 < t ∧ s.2.1 < n ∧ s.2.2 < t ∧ s.1.1 < s.2.1
/-- the two pins of a switch -/
def pins (s : Sw) : List Pin := [s.1, s.2]
theorem sw_T {K : PySem.W.Frag} {s : Sw} {v : V} {H : Hp} (h : (oX K s).is v H) : (oT K (fun p => oX K p) (pins s)).is v H := dp_oT (e := fun p : Pin => Dt.enc p) h
/-- the two numbers of a pin -/
theorem pin_T {K : PySem.W.Frag} {s : Pin} {v : V} {H : Hp} (h : (oX K s).is v H) : (oT K (fun p => oX K p) [s.1, s.2]).is v H := dp_oT (e := fun p : Nat => Dt.enc p) h
theorem ev_imp {R S : Rl} {te : TE} {σ : Sl} {W : Hw} (h : Ev te σ W R) (f : ∀ v H, R.is v H → S.is v H) : Ev te σ W S := h.imp fun v W' _ r => f v _ r
def lts (a b : Sw) : Bool := PySem.W.dataLt (Dt.enc a) (Dt.enc b)
def Rising (w : List Sw) : Prop := w.Pairwise fun a b => lts a b = true
theorem src_rngI {σ : Sl} {W : Hw} {ta : TA} {i : Int} (h : Ea ta σ W [oI i]) (h1 : -1000000 ≤ i) (h2 : i ≤ 1000000) : Src (iRng1 ta) σ W (List.range i.toNat) oK := fun W1 e F f =>
  h W1 e _ fun vs W2 e2 r => by
    obtain ⟨x, rfl, rfl⟩ := one_arg r
    refine ⟨i, rfl, by omega, by omega, ?_⟩
    have w := wk_rng (W := W2) (lo := 0) (n := i.toNat)
    rw [← List.range_eq_range'] at w
    exact f _ W2 e2 w
/-- a way's switches, one by one -/
theorem way_T {α : Type} [DecidableEq α] [Dt α] {K : PySem.W.Frag} {w : List α} {v : V} {H : Hp} (h : (oX K w).is v H) : (oT K (fun s => oX K s) w).is v H := dp_oT (e := fun s : α => Dt.enc s) h
theorem T_way {α : Type} [DecidableEq α] [Dt α] {K : PySem.W.Frag} {w : List α} {v : V} {H : Hp} (h : (oT K (fun s => oX K s) w).is v H) : (oX K w).is v H := oT_dp (e := fun s : α => Dt.enc s) h
theorem ev_way {α : Type} [DecidableEq α] [Dt α] {K : PySem.W.Frag} {w : List α} {te : TE} {σ : Sl} {W : Hw} (h : Ev te σ W (oX K w)) : Ev te σ W (oT K (fun s => oX K s) w) := ev_imp h fun _ _ => way_T
abbrev s_is_switch : Stmt := top 17
abbrev N_is_switch : List Str := ["thing", "sides", "tracks", "pin"]
theorem sc_is_switch : FnScope N_is_switch ["thing", "sides", "tracks"] (defScope s_is_switch) := ⟨rfl, rfl, rfl, by decide +kernel, rfl, by decide +kernel, by decide +kernel⟩

inductive Φ_is_switch (K : PySem.W.Frag) (C : Addr) : List Rl → Rl → Prop
  | mk (s : Sw) (n t : Nat) (h : okSw s n t) : Φ_is_switch K C [oX K s, oK n, oK t] (oB true)
theorem ok_is_switch {P : Program} {w : World} {K : PySem.W.Frag} {mg : Str → Option Value} {base : Heap} {C : Addr} (T : Tx K mg C) (Dd : Df K mg "is_switch" "is_switch" s_is_switch ["thing", "sides", "tracks"]) (h_is_pin : Ca P w K mg base 3 "is_pin" ["thing", "sides", "tracks"] ((spF (Φ_is_pin K C)))) :
    Ca P w K mg base 4 "is_switch" ["thing", "sides", "tracks"] ((spF (Φ_is_switch K C))) := by
  refine ok_of Dd sc_is_switch (fun As R h => by cases h <;> rfl) (fun f cdv A outer s E W vs As R Q hr hΦ hA k => ?_)
  have hu := hu_any hr
  have nd := sc_is_switch.nd
  refine ⟨_, (pss_cons (ps_if (pt_orW (pt_not (pt_val (pe_callB (isiK (K := K) rfl) rfl T.n_isinstance boot_isinstance' (pa_cons (pv 0) (pa_cons (pe_bltn (v := .ty "tuple") rfl T.n_tuple boot_tuple' rfl) pa_nil))))) (pw_or (pt_cmpR op_ne (pe_callB (lenK (K := K) rfl) rfl T.n_len boot_len' (pa_cons (pv 0) pa_nil)) pe_int (nomark _)) (pw_or1 (pt_not (pt_val (pe_callB (allK (K := K) rfl rfl) rfl T.n_all boot_all' (pa_cons (pe_lc (own := [("pin", 3)]) rfl nd (pi_tupK (K := K) rfl (pv 0)) (blkOk_by (N := N_is_switch) (sc := defScope s_is_switch) (by decide +kernel)) (fun _ _ _ _ _ => (pg_name (i := 3) nd rfl (Or.inl rfl))) (fun _ _ _ _ _ => pts_nil) (fun _ _ _ _ _ => (pe_ca h_is_pin hr rfl (pa_cons (pv 3) (pa_cons (pv 1) (pa_cons (pv 2) pa_nil)))))) pa_nil))))))) (pss_one (ps_ret pe_bl)) pss_nil)
      (pss_one (ps_ret (pe_cmpR op_lt (pe_ix (ixT (K := K) rfl) (pe_ix (ixT (K := K) rfl) (pv 0) pe_int (fun _ _ => rfl)) pe_int (fun _ _ => rfl)) (pe_ix (ixT (K := K) rfl) (pe_ix (ixT (K := K) rfl) (pv 0) pe_int (fun _ _ => rfl)) pe_int (fun _ _ => rfl)) (nomark _))))), ?_⟩
  cases hΦ with
  | mk s n t h =>
    obtain ⟨g1, g2, g3, g4, g5⟩ := h
    obtain ⟨v0, v1, v2, rfl, h0, h1, h2⟩ := three_args hA
    refine s_not (eb_or (a := false) (b := false) (eb_not (a := true) (eb_B (ev_isiT (ev_imp (ev_var rfl h0) fun _ _ => sw_T)))) fun _ => eb_or (a := false) (b := false) (eb_test (ev_neV (ev_lenT (ea_cons (ev_imp (ev_var rfl h0) fun _ _ => sw_T) ea_nil)) ev_c rfl rfl)) fun _ => eb_not (a := true) (eb_B (ev_allT (xs := pins s) (ea_cons (ev_L (ev_lcA (fun _ => oB true) (src_tup (ev_imp (ev_var rfl h0) fun _ _ => sw_T)) (show 2 ≤ 1000000 by decide) (fun _ => rfl) fun p hp W1 v e r => ?_)) ea_nil)))) fun W1 e1 => ?_
    · refine ev_call (ea_cons (ev_var rfl r) (ea_cons (ev_var rfl (Rl.mv _ e.g h1)) (ea_cons (ev_var rfl (Rl.mv _ e.g h2)) ea_nil))) (.mk _ _ _ ?_ ?_)
      · simp only [pins, List.mem_cons, List.not_mem_nil, or_false] at hp
        rcases hp with rfl | rfl <;> assumption
      · simp only [pins, List.mem_cons, List.not_mem_nil, or_false] at hp
        rcases hp with rfl | rfl <;> assumption
    · refine s_ret (Ev.val (ev_i0 (ev_nat (ev_fst (ev_fst (ev_var rfl (Rl.mv _ e1.g h0)) ev_c) ev_c)) (ev_nat (ev_fst (ev_snd (ev_var rfl (Rl.mv _ e1.g h0)) ev_c) ev_c))) ?_) fun v W2 e2 r => k v W2 (e1.trans e2) r
      show V.bl (decide ((s.1.1 : Int) < (s.2.1 : Int))) = V.bl true
      rw [decide_eq_true (by omega)]
abbrev s_is_rising : Stmt := top 18
abbrev N_is_rising : List Str := ["row", "at"]
theorem sc_is_rising : FnScope N_is_rising ["row"] (defScope s_is_rising) := ⟨rfl, rfl, rfl, by decide +kernel, rfl, by decide +kernel, by decide +kernel⟩

inductive Φ_is_rising (K : PySem.W.Frag) (C : Addr) : List Rl → Rl → Prop
  | mk (w : List Sw) (h : Rising w) (hz : w.length ≤ 1000) : Φ_is_rising K C [oX K w] (oB true)
theorem ok_is_rising {P : Program} {w : World} {K : PySem.W.Frag} {mg : Str → Option Value} {base : Heap} {C : Addr} (T : Tx K mg C) (Dd : Df K mg "is_rising" "is_rising" s_is_rising ["row"])  :
    Ca P w K mg base 1 "is_rising" ["row"] ((spF (Φ_is_rising K C))) := by
  refine ok_of Dd sc_is_rising (fun As R h => by cases h <;> rfl) (fun f cdv A outer s E W vs As R Q hr hΦ hA k => ?_)
  have hu := hu_any hr
  have nd := sc_is_rising.nd
  refine ⟨_, (pss_one (ps_ret (pe_callB (allK (K := K) rfl rfl) rfl T.n_all boot_all' (pa_cons (pe_lc (own := [("at", 1)]) rfl nd (pi_range1 rfl T.n_range (pa_cons (pe_op op_sub (pe_callB (lenK (K := K) rfl) rfl T.n_len boot_len' (pa_cons (pv 0) pa_nil)) pe_int) pa_nil)) (blkOk_by (N := N_is_rising) (sc := defScope s_is_rising) (by decide +kernel)) (fun _ _ _ _ _ => (pg_name (i := 1) nd rfl (Or.inl rfl))) (fun _ _ _ _ _ => pts_nil) (fun _ _ _ _ _ => (pe_cmpR (ltAK (K := K) rfl (hu 64 (by decide))) (pe_ix (ixT (K := K) rfl) (pv 0) (pv 1) (fun _ _ => rfl)) (pe_ix (ixT (K := K) rfl) (pv 0) (pe_op op_add (pv 1) pe_int) (fun _ _ => rfl)) (nomark _)))) pa_nil)))), ?_⟩
  cases hΦ with
  | mk w h hz =>
    obtain ⟨v0, rfl, h0⟩ := one_arg hA
    refine s_ret (ev_allT (xs := List.range ((w.length : Int) - 1).toNat) (ea_cons (ev_L (ev_lcA (fun _ => oB true) (src_rngI (ea_cons (ev_i0 (ev_lenT (ea_cons (ev_way (ev_var rfl h0)) ea_nil)) ev_c) ea_nil) (by omega) (by omega)) (by simp only [List.length_range]; omega) (fun _ => rfl) fun p hp W1 v e r => ?_)) ea_nil)) k
    have hp := List.mem_range.mp hp
    have h1 : p < w.length := by omega
    have h2 : p + 1 < w.length := by omega
    refine Ev.val (ev_ltX (x := w[p]) (y := w[p + 1]) (ev_ixT (ev_way (ev_var rfl (Rl.mv _ e.g h0))) (ev_var rfl r) (atN (List.getElem?_eq_getElem h1))) (ev_ixT (i := ((p + 1 : Nat) : Int)) (ev_way (ev_var rfl (Rl.mv _ e.g h0))) (ev_i0 (ev_var rfl r) ev_c) (atN (List.getElem?_eq_getElem h2)))) ?_
    have := List.pairwise_iff_getElem.mp h p (p + 1) h1 h2 (by omega)
    exact congrArg V.bl this
abbrev s_need_sides : Stmt := top 20
abbrev N_need_sides : List Str := ["sides"]
theorem sc_need_sides : FnScope N_need_sides ["sides"] (defScope s_need_sides) := ⟨rfl, rfl, rfl, by decide +kernel, rfl, by decide +kernel, by decide +kernel⟩

inductive Φ_need_sides (K : PySem.W.Frag) (C : Addr) : List Rl → Rl → Prop
  | mk (n : Nat) (h1 : 2 ≤ n) (h2 : n ≤ 5) : Φ_need_sides K C [oK n] oN
theorem ok_need_sides {P : Program} {w : World} {K : PySem.W.Frag} {mg : Str → Option Value} {base : Heap} {C : Addr} (T : Tx K mg C) (Dd : Df K mg "need_sides" "need_sides" s_need_sides ["sides"]) (h_is_between : Ca P w K mg base 2 "is_between" ["thing", "low", "high"] ((spF (Φ_is_between K C)))) :
    Ca P w K mg base 3 "need_sides" ["sides"] ((spF (Φ_need_sides K C))) := by
  refine ok_of Dd sc_need_sides (fun As R h => by cases h <;> rfl) (fun f cdv A outer s E W vs As R Q hr hΦ hA k => ?_)
  have hu := hu_any hr
  have nd := sc_need_sides.nd
  refine ⟨_, (pss_one (ps_if (pt_not (pt_val (pe_ca h_is_between hr rfl (pa_cons (pv 0) (pa_cons (pe_gc T.c_LEAST_SIDES rfl) (pa_cons (pe_gc T.c_MOST_SIDES rfl) pa_nil)))))) pss_never pss_nil)), ?_⟩
  cases hΦ with
  | mk n h1 h2 =>
    obtain ⟨v0, rfl, h0⟩ := one_arg hA
    exact s_not (eb_not (a := true) (eb_B (ev_call (ea_cons (ev_var rfl h0) (ea_cons ev_c (ea_cons ev_c ea_nil))) (.mk _ _ _ (by omega) (by omega))))) fun W1 e1 => k _ W1 e1 rfl
abbrev s_need_tracks : Stmt := top 21
abbrev N_need_tracks : List Str := ["tracks"]
theorem sc_need_tracks : FnScope N_need_tracks ["tracks"] (defScope s_need_tracks) := ⟨rfl, rfl, rfl, by decide +kernel, rfl, by decide +kernel, by decide +kernel⟩

inductive Φ_need_tracks (K : PySem.W.Frag) (C : Addr) : List Rl → Rl → Prop
  | mk (n : Nat) (h1 : 1 ≤ n) (h2 : n ≤ 6) : Φ_need_tracks K C [oK n] oN
theorem ok_need_tracks {P : Program} {w : World} {K : PySem.W.Frag} {mg : Str → Option Value} {base : Heap} {C : Addr} (T : Tx K mg C) (Dd : Df K mg "need_tracks" "need_tracks" s_need_tracks ["tracks"]) (h_is_between : Ca P w K mg base 2 "is_between" ["thing", "low", "high"] ((spF (Φ_is_between K C)))) :
    Ca P w K mg base 3 "need_tracks" ["tracks"] ((spF (Φ_need_tracks K C))) := by
  refine ok_of Dd sc_need_tracks (fun As R h => by cases h <;> rfl) (fun f cdv A outer s E W vs As R Q hr hΦ hA k => ?_)
  have hu := hu_any hr
  have nd := sc_need_tracks.nd
  refine ⟨_, (pss_one (ps_if (pt_not (pt_val (pe_ca h_is_between hr rfl (pa_cons (pv 0) (pa_cons pe_int (pa_cons (pe_gc T.c_MOST_TRACKS rfl) pa_nil)))))) pss_never pss_nil)), ?_⟩
  cases hΦ with
  | mk n h1 h2 =>
    obtain ⟨v0, rfl, h0⟩ := one_arg hA
    exact s_not (eb_not (a := true) (eb_B (ev_call (ea_cons (ev_var rfl h0) (ea_cons ev_c (ea_cons ev_c ea_nil))) (.mk _ _ _ (by omega) (by omega))))) fun W1 e1 => k _ W1 e1 rfl
def pairsOf (n : Nat) : List Pin := (List.range n).flatMap fun a => (List.range' (a + 1) (n - (a + 1))).map fun b => (a, b)
theorem pairs_few {n : Nat} (h : n ≤ 5) : (pairsOf n).length ≤ 10 := by
  have : n = 0 ∨ n = 1 ∨ n = 2 ∨ n = 3 ∨ n = 4 ∨ n = 5 := by omega
  rcases this with rfl | rfl | rfl | rfl | rfl | rfl <;> decide
theorem oP_pin {K : PySem.W.Frag} {a b : Nat} {v : V} {H : Hp} (h : (oU id [oK a, oK b]).is v H) : (oX K ((a, b) : Pin)).is v H := by
  obtain ⟨p, vs, rfl, h2, h3⟩ := h
  obtain ⟨x, y, rfl, rx, ry⟩ := two_args h3
  exact .tup (SqT.of h2) (.cons (nat_X (K := K) rx) (.cons (nat_X (K := K) ry) .nil))
abbrev s_pairs_of : Stmt := top 23
abbrev N_pairs_of : List Str := ["sides", "one", "other"]
theorem sc_pairs_of : FnScope N_pairs_of ["sides"] (defScope s_pairs_of) := ⟨rfl, rfl, rfl, by decide +kernel, rfl, by decide +kernel, by decide +kernel⟩

inductive Φ_pairs_of (K : PySem.W.Frag) (C : Addr) : List Rl → Rl → Prop
  | mk (n : Nat) (h2 : n ≤ 5) : Φ_pairs_of K C [oK n] (oM (fun p : Pin => oX K p) (pairsOf n))
theorem ok_pairs_of {P : Program} {w : World} {K : PySem.W.Frag} {mg : Str → Option Value} {base : Heap} {C : Addr} (T : Tx K mg C) (Dd : Df K mg "pairs_of" "pairs_of" s_pairs_of ["sides"])  :
    Ca P w K mg base 1 "pairs_of" ["sides"] ((spF (Φ_pairs_of K C))) := by
  refine ok_of Dd sc_pairs_of (fun As R h => by cases h <;> rfl) (fun f cdv A outer s E W vs As R Q hr hΦ hA k => ?_)
  have hu := hu_any hr
  have nd := sc_pairs_of.nd
  refine ⟨_, (pss_one (ps_ret (pe_lc2 (own := [("one", 1), ("other", 2)]) (vs1 := [2]) rfl nd (pi_range1 rfl T.n_range (pa_cons (pv 0) pa_nil)) (blkOk_by (N := N_pairs_of) (sc := defScope s_pairs_of) (by decide +kernel)) (by decide) (fun _ _ _ _ _ => (pg_name (i := 1) nd rfl (Or.inl rfl))) (fun _ _ _ _ _ => pts_nil) (fun _ _ _ _ _ => (pi_range2 rfl T.n_range (pa_cons (pe_op op_add (pv 1) pe_int) (pa_cons (pv 0) pa_nil)))) (fun _ _ _ _ _ => (pg_name (i := 2) nd rfl (Or.inl rfl))) (fun _ _ _ _ _ => pts_nil) (fun _ _ _ _ _ => (pe_tup (pa_cons (pv 1) (pa_cons (pv 2) pa_nil))))))), ?_⟩
  cases hΦ with
  | mk n h2 =>
    obtain ⟨v0, rfl, h0⟩ := one_arg hA
    refine s_ret (ev_lc2A (fun a => List.range' (a + 1) (n - (a + 1))) (fun a b => ((a, b) : Pin)) (fun _ => oK) (fun p : Pin => oX K p) (src_rng1 (ea_cons (ev_var rfl h0) ea_nil) (by omega)) ?_ (fun _ => rfl) (fun _ _ => rfl) fun x hx W1 v e r => ⟨src_rng2 (ea_cons (ev_i0 (ev_var rfl r) ev_c) (ea_cons (ev_var rfl (Rl.mv _ e.g h0)) ea_nil)) (by have := List.mem_range.mp hx; omega) (by omega), fun y hy W2 u e2 r1 r2 => ?_⟩) k
    · exact Nat.le_trans (pairs_few h2) (by decide)
    · exact ev_imp (ev_tup (ea_cons (ev_var rfl r1) (ea_cons (ev_var rfl r2) ea_nil)) (show 2 ≤ 1000000 by decide)) fun _ _ => oP_pin
def shift (s : Sw) (k : Nat) : Sw := ((s.1.1, s.1.2 + k), (s.2.1, s.2.2 + k))
abbrev s_shifted : Stmt := top 24
abbrev N_shifted : List Str := ["switch", "more", "side", "track"]
theorem sc_shifted : FnScope N_shifted ["switch", "more"] (defScope s_shifted) := ⟨rfl, rfl, rfl, by decide +kernel, rfl, by decide +kernel, by decide +kernel⟩

inductive Φ_shifted (K : PySem.W.Frag) (C : Addr) : List Rl → Rl → Prop
  | mk (s : Sw) (n : Nat) : Φ_shifted K C [oX K s, oK n] (oX K (shift s n))
theorem ok_shifted {P : Program} {w : World} {K : PySem.W.Frag} {mg : Str → Option Value} {base : Heap} {C : Addr} (T : Tx K mg C) (Dd : Df K mg "shifted" "shifted" s_shifted ["switch", "more"])  :
    Ca P w K mg base 1 "shifted" ["switch", "more"] ((spF (Φ_shifted K C))) := by
  refine ok_of Dd sc_shifted (fun As R h => by cases h <;> rfl) (fun f cdv A outer s E W vs As R Q hr hΦ hA k => ?_)
  have hu := hu_any hr
  have nd := sc_shifted.nd
  refine ⟨_, (pss_one (ps_ret (pe_callTy (tupK (K := K) rfl) rfl T.n_tuple boot_tuple' (pa_cons (pe_lc (own := [("side", 2), ("track", 3)]) rfl nd (pi_tupK (K := K) rfl (pv 0)) (blkOk_by (N := N_shifted) (sc := defScope s_shifted) (by decide +kernel)) (fun _ _ _ _ _ => (pg_tupK (K := K) (n := 2) rfl rfl (pgs_cons (pg_name (i := 2) nd rfl (Or.inl rfl)) (pgs_cons (pg_name (i := 3) nd rfl (Or.inl rfl)) pgs_nil)))) (fun _ _ _ _ _ => pts_nil) (fun _ _ _ _ _ => (pe_tup (pa_cons (pv 2) (pa_cons (pe_op op_add (pv 3) (pv 1)) pa_nil))))) pa_nil)))), ?_⟩
  cases hΦ with
  | mk s n =>
    obtain ⟨v0, v1, rfl, h0, h1⟩ := two_args hA
    refine s_ret (ev_imp (ev_tupL (S := fun p : Pin => oX K ((p.1, p.2 + n) : Pin)) (ea_cons (ev_L (ev_lcPA (A := fun p : Pin => oX K p.1) (B := fun p : Pin => oX K p.2) (xs := pins s) (fun p : Pin => oX K ((p.1, p.2 + n) : Pin)) (src_tup (R := fun p : Pin => oP K (oX K p.1) (oX K p.2)) (ev_imp (ev_var rfl h0) fun _ _ h => oT_imp (sw_T h) fun p v _ => pair_T)) (show 2 ≤ 1000000 by decide) (fun _ _ => rfl) fun p hp W1 v u e r1 r2 => ?_)) ea_nil)) fun v H h => ?_) k
    · exact ev_imp (ev_tup (ea_cons (ev_var (R := oK p.1) rfl (X_nat r1)) (ea_cons (ev_i0 (i := p.2) (j := n) (ev_var rfl (X_nat r2)) (ev_var rfl (Rl.mv _ e.g h1))) ea_nil)) (show 2 ≤ 1000000 by decide)) fun _ _ => oP_pin
    · exact T_way (w := [((s.1.1, s.1.2 + n) : Pin), (s.2.1, s.2.2 + n)]) (oU_T ((oU_map (fun p : Pin => ((p.1, p.2 + n) : Pin)) (xs := pins s)).mpr h))
end Bx

set_option Elab.async false
set_option linter.all false
set_option maxRecDepth 100000
set_option maxHeartbeats 4000000
set_option autoImplicit false
namespace Bx
open PySem L2 StX RZ
/-! the box -/
theorem st_ne : ¬ (("sides" : Str) = "tracks") := by decide +kernel
theorem sw_ne : ¬ (("sides" : Str) = "switches") := by decide +kernel
theorem tw_ne : ¬ (("tracks" : Str) = "switches") := by decide +kernel
def bf (n t : Nat) (w : V) : List (Str × V) := putF "switches" w (putF "tracks" (.int (t : Int)) (putF "sides" (.int (n : Int)) []))
theorem bf_s (n t : Nat) (w : V) : (bf n t w).lookup ("sides" : Str) = some (.int (n : Int)) := by
  unfold bf
  rw [lookup_putF, if_neg sw_ne, lookup_putF, if_neg st_ne, lookup_putF, if_pos rfl]
theorem bf_t (n t : Nat) (w : V) : (bf n t w).lookup ("tracks" : Str) = some (.int (t : Int)) := by
  unfold bf
  rw [lookup_putF, if_neg tw_ne, lookup_putF, if_pos rfl]
theorem bf_w (n t : Nat) (w : V) : (bf n t w).lookup ("switches" : Str) = some w := by
  unfold bf
  rw [lookup_putF, if_pos rfl]
/-- a box's data -/
structure Bo where
  n : Nat
  t : Nat
  sw : List Sw
/-- what every box keeps -/
structure BoOk (b : Bo) : Prop where
  n1 : 2 ≤ b.n
  n2 : b.n ≤ 5
  t1 : 1 ≤ b.t
  t2 : b.t ≤ 6
  ok : ∀ s ∈ b.sw, okSw s b.n b.t
  up : Rising b.sw
  few : b.sw.length ≤ 20
def oBox (K : PySem.W.Frag) (C : Addr) (b : Bo) : Rl := ⟨fun v H => ∃ a dx w, v = .ref a ∧ H a = some (.ins C dx (bf b.n b.t w)) ∧ (oX K b.sw).is w H, fun e ⟨a, dx, w, h1, h2, h3⟩ => ⟨a, dx, w, h1, e _ _ h2, Rl.up _ e h3⟩⟩
section
variable {K : PySem.W.Frag} {mg : Str → Option Value} {C : Addr} {σ : Sl} {W : Hw} {te : TE} {b : Bo}
theorem ev_sides (T : Tx K mg C) (h : Ev te σ W (oBox K C b)) : Ev (tFld K te "sides") σ W (oK b.n) :=
  ev_fld h (fun v W' _ ⟨a, dx, w, h1, h2, h3⟩ => ⟨a, dx, _, _, h1, h2, bf_s _ _ _, rfl⟩) T.cls T.fS
theorem ev_tracks (T : Tx K mg C) (h : Ev te σ W (oBox K C b)) : Ev (tFld K te "tracks") σ W (oK b.t) :=
  ev_fld h (fun v W' _ ⟨a, dx, w, h1, h2, h3⟩ => ⟨a, dx, _, _, h1, h2, bf_t _ _ _, rfl⟩) T.cls T.fT
theorem ev_switches (T : Tx K mg C) (h : Ev te σ W (oBox K C b)) : Ev (tFld K te "switches") σ W (oX K b.sw) :=
  ev_fld h (fun v W' _ ⟨a, dx, w, h1, h2, h3⟩ => ⟨a, dx, _, _, h1, h2, bf_w _ _ _, h3⟩) T.cls T.fW
end
theorem src_orL {α : Type} {w1 w2 : TI} {σ : Sl} {W : Hw} {xs : List α} {R : α → Rl} (h : Src w1 σ W xs R) : Src (fun σ H F => w1 σ H F ∨ w2 σ H F) σ W xs R := fun W1 e F f => .inl (h W1 e F f)
theorem src_orR {α : Type} {w1 w2 : TI} {σ : Sl} {W : Hw} {xs : List α} {R : α → Rl} (h : Src w2 σ W xs R) : Src (fun σ H F => w1 σ H F ∨ w2 σ H F) σ W xs R := fun W1 e F f => .inr (h W1 e F f)
theorem upd_twice {H : Hp} {a : Addr} {o u : HO} : upd (upd H a o) a u = upd H a u := by
  funext b
  by_cases h : b = a
  · rw [h, upd_same, upd_same]
  · rw [upd_ne h, upd_ne h, upd_ne h]
def gr_own2 {W : Hw} {p : Addr} {o : HO} (n : W.g p = none) (hp : ∀ b, W.h b ≠ none → W.g b = none → True) : True := trivial
/-! loads -/
def oLd (l : List Nat) : Rl := oU (fun n : Nat => oK n) l
theorem ld_X {K : PySem.W.Frag} {l : List Nat} {v : V} {H : Hp} (h : (oLd l).is v H) : (oX K l).is v H := T_way (oU_T (oU_imp h fun x v _ hx => nat_X hx))
theorem ld_T {K : PySem.W.Frag} {l : List Nat} {v : V} {H : Hp} (h : (oLd l).is v H) : (oT K (fun n : Nat => oK n) l).is v H := oU_T h
theorem isX_ld {K : PySem.W.Frag} : isX K (fun l : List Nat => oLd l) := fun _ _ _ h => ld_X h
theorem X_ldT {K : PySem.W.Frag} {l : List Nat} {v : V} {H : Hp} (h : (oX K l).is v H) : (oT K (fun n : Nat => oK n) l).is v H := oT_imp (way_T h) fun x v _ => X_nat
def below (l o : List Nat) : Bool := (l.zip o).all fun p => decide (p.1 ≤ p.2)
def addL (l o : List Nat) : List Nat := (l.zip o).map fun p => p.1 + p.2
def sideOf (s : Sw) : Pin := (s.1.1, s.2.1)
def loadOf (n : Nat) (w : List Sw) : List Nat := (pairsOf n).map fun p => (w.map sideOf).count p
def noLoad (n : Nat) : List Nat := List.replicate (n * (n - 1) / 2) 0
abbrev s_box_init : Stmt := inClass (top 19) 0
abbrev N_box_init : List Str := ["self", "sides", "tracks", "switches", "switch"]
theorem sc_box_init : FnScope N_box_init ["self", "sides", "tracks", "switches"] (defScope s_box_init) := ⟨rfl, rfl, rfl, by decide +kernel, rfl, by decide +kernel, by decide +kernel⟩

def sp_box_init (K : PySem.W.Frag) (C : Addr) : Sp := fun vs H Q _ => ∃ (W : Hw) (x dx : Addr) (us : List V) (b : Bo), vs = .ref x :: us ∧ H = upd (upd W.h dx (.own x)) x (.ins C dx []) ∧ W.h x = none ∧ W.h dx = none ∧ dx ≠ x ∧ BoOk b ∧ Al id [oK b.n, oK b.t, oX K b.sw] us W.g ∧
  ∀ W2, Gr W W2 → (oBox K C b).is (.ref x) W2.g → Q .non W2.h
theorem ok_box_init {P : Program} {w : World} {K : PySem.W.Frag} {mg : Str → Option Value} {base : Heap} {C : Addr} (T : Tx K mg C) (Dd : ∃ (f : Addr) (fd : FuncData), Fun K "__init__" "Box.__init__" s_box_init f fd ∧ L2.Mk K C f ∧ Binds K fd ["self", "sides", "tracks", "switches"] []) (h_need_sides : Ca P w K mg base 3 "need_sides" ["sides"] ((spF (Φ_need_sides K C)))) (h_need_tracks : Ca P w K mg base 3 "need_tracks" ["tracks"] ((spF (Φ_need_tracks K C)))) (h_is_switch : Ca P w K mg base 4 "is_switch" ["thing", "sides", "tracks"] ((spF (Φ_is_switch K C)))) (h_is_rising : Ca P w K mg base 1 "is_rising" ["row"] ((spF (Φ_is_rising K C)))) :
    Ma P w K mg base 5 "Box" C ["self", "sides", "tracks", "switches"] (sp_box_init K C) := by
  obtain ⟨f, fd, F, M, hb⟩ := Dd
  refine ⟨f, fd, F.ok sc_box_init (fun vs H Q E h => ?_) (fun cdv A outer s H vs Q E hr h => ?_), M, T.mBox, hb⟩
  · obtain ⟨W, x, dx, us, b, rfl, _, _, _, _, _, hA, _⟩ := h
    exact congrArg (· + 1) hA.len
  · obtain ⟨W, x, dx, us, b, rfl, hH, nx, ndx, ne, ok, hA, k⟩ := h
    obtain ⟨v1, v2, v3, rfl, h1, h2, h3⟩ := three_args hA
    have hu := hu_any hr
    have nd := sc_box_init.nd
    obtain ⟨W1, rfl, e0, hx1, gx1⟩ : ∃ W1 : Hw, H = W1.h ∧ Gr W W1 ∧ W1.h x = some (.ins C dx []) ∧ W1.g x = none := by
      have nx1 : (W.own dx (.own x) (Hw.free ndx)).h x = none := by
        show upd W.h dx _ x = none
        rw [upd_ne ne.symm]
        exact nx
      exact ⟨(W.own dx (.own x) (Hw.free ndx)).own x (.ins C dx []) (Hw.free (W := W.own dx (.own x) (Hw.free ndx)) nx1), hH, (gr_own ndx).trans (gr_own nx1), upd_same, Hw.free (W := W) nx⟩
    clear hH
    refine ⟨_, (pss_cons (ps_expr (pe_ca h_need_sides hr rfl (pa_cons (pv 1) pa_nil)))
      (pss_cons (ps_expr (pe_ca h_need_tracks hr rfl (pa_cons (pv 2) pa_nil)))
      (pss_cons (ps_if (pt_orW (pt_not (pt_val (pe_callB (isiK (K := K) rfl) rfl T.n_isinstance boot_isinstance' (pa_cons (pv 3) (pa_cons (pe_bltn (v := .ty "tuple") rfl T.n_tuple boot_tuple' rfl) pa_nil))))) (pw_or1 (pt_not (pt_val (pe_callB (allK (K := K) rfl rfl) rfl T.n_all boot_all' (pa_cons (pe_lc (own := [("switch", 4)]) rfl nd (pi_tupK (K := K) rfl (pv 3)) (blkOk_by (N := N_box_init) (sc := defScope s_box_init) (by decide +kernel)) (fun _ _ _ _ _ => (pg_name (i := 4) nd rfl (Or.inl rfl))) (fun _ _ _ _ _ => pts_nil) (fun _ _ _ _ _ => (pe_ca h_is_switch hr rfl (pa_cons (pv 4) (pa_cons (pv 1) (pa_cons (pv 2) pa_nil)))))) pa_nil)))))) pss_never pss_nil)
      (pss_cons (ps_if (pt_not (pt_val (pe_ca h_is_rising hr rfl (pa_cons (pv 3) pa_nil)))) pss_never pss_nil)
      (pss_one (ps_asg (pe_tup (pa_cons (pv 1) (pa_cons (pv 2) (pa_cons (pv 3) pa_nil)))) (pg_tupK (K := K) (n := 3) rfl rfl (pgs_cons (pg_fldK (K := K) rfl (pv 0)) (pgs_cons (pg_fldK (K := K) rfl (pv 0)) (pgs_cons (pg_fldK (K := K) rfl (pv 0)) pgs_nil)))))))))), ?_⟩
    have g1 := Rl.mv _ e0.g h1
    have g2 := Rl.mv _ e0.g h2
    have g3 := Rl.mv _ e0.g h3
    refine s_seq (s_drop (ev_call (ea_cons (ev_var rfl g1) ea_nil) (.mk _ ok.n1 ok.n2)) fun _ W2 e2 _ => ?_)
    refine s_seq (s_drop (ev_call (ea_cons (ev_var rfl (Rl.mv _ e2.g g2)) ea_nil) (.mk _ ok.t1 ok.t2)) fun _ W3 e3 _ => ?_)
    have e23 := e2.trans e3
    refine s_seq (s_not (eb_or (a := false) (b := false) (eb_not (a := true) (eb_B (ev_isiT (ev_way (ev_var rfl (Rl.mv _ e23.g g3)))))) fun _ => eb_not (a := true) (eb_B (ev_allT (xs := b.sw) (ea_cons (ev_L (ev_lcA (fun _ => oB true) (src_tup (ev_way (ev_var rfl (Rl.mv _ e23.g g3)))) (Nat.le_trans ok.few (by decide)) (fun _ => rfl) fun p hp W1 v e r => ?_)) ea_nil)))) fun W4 e4 => ?_)
    · exact ev_call (ea_cons (ev_var rfl r) (ea_cons (ev_var rfl (Rl.mv _ (e23.trans e).g g1)) (ea_cons (ev_var rfl (Rl.mv _ (e23.trans e).g g2)) ea_nil))) (.mk _ _ _ (ok.ok p hp))
    have e24 := e23.trans e4
    refine s_seq (s_not (eb_not (a := true) (eb_B (ev_call (ea_cons (ev_var rfl (Rl.mv _ e24.g g3)) ea_nil) (.mk _ ok.up (Nat.le_trans ok.few (by decide)))))) fun W5 e5 => ?_)
    have e25 := e24.trans e5
    refine s_asg (ev_tup (ea_cons (ev_var rfl (Rl.mv _ e25.g g1)) (ea_cons (ev_var rfl (Rl.mv _ e25.g g2)) (ea_cons (ev_var rfl (Rl.mv _ e25.g g3)) ea_nil))) (show 3 ≤ 1000000 by decide)) fun v W6 e6 ⟨a, vs, hv, hs, hal⟩ => ?_
    obtain ⟨y1, y2, y3, rfl, r1, r2, r3⟩ := three_args hal
    have e26 := e25.trans e6
    have hx6 := e26.h _ _ hx1
    have gx6 := e26.hid x ⟨_, hx1, fun _ z => nomatch z⟩ gx1
    have ee : Gr W W6 := e0.trans e26
    refine ⟨a, _, hv, SqT.of (W6.le _ _ hs), rfl, _, _, rfl, ⟨_, rfl, x, C, dx, [], rfl, hx6, T.cls, T.fS, (by show 0 < 1000; decide), _, _, rfl, ⟨_, rfl, x, C, dx, _, rfl, upd_same, T.cls, T.fT, (by show 1 < 1000; decide), _, _, rfl, ⟨_, rfl, x, C, dx, _, rfl, upd_same, T.cls, T.fW, ?_, rfl, ?_⟩⟩⟩⟩
    · show (putF "tracks" _ (putF "sides" _ [])).length < 1000
      simp only [putF]
      split <;> (simp only [List.length_cons, List.length_nil]; omega)
    · rw [upd_twice, upd_twice]
      have r1' : y1 = .int (b.n : Int) := r1
      have r2' : y2 = .int (b.t : Int) := r2
      rw [r1', r2']
      have q6 := ee.mut (o := .ins C dx (bf b.n b.t y3)) nx gx6
      have q7 := q6.fix nx (upd_same (H := W6.h) (a := x) (o := .ins C dx (bf b.n b.t y3)))
      refine k ((W6.own x (.ins C dx (bf b.n b.t y3)) gx6).fix x (.ins C dx (bf b.n b.t y3)) upd_same) q7 ⟨x, dx, y3, rfl, upd_same, Rl.up _ (same_new gx6) r3⟩
abbrev s_need_box : Stmt := top 22
abbrev N_need_box : List Str := ["box"]
theorem sc_need_box : FnScope N_need_box ["box"] (defScope s_need_box) := ⟨rfl, rfl, rfl, by decide +kernel, rfl, by decide +kernel, by decide +kernel⟩

inductive Φ_need_box (K : PySem.W.Frag) (C : Addr) : List Rl → Rl → Prop
  | mk (b : Bo) : Φ_need_box K C [oBox K C b] oN
theorem ok_need_box {P : Program} {w : World} {K : PySem.W.Frag} {mg : Str → Option Value} {base : Heap} {C : Addr} (T : Tx K mg C) (Dd : Df K mg "need_box" "need_box" s_need_box ["box"])  :
    Ca P w K mg base 1 "need_box" ["box"] ((spF (Φ_need_box K C))) := by
  refine ok_of Dd sc_need_box (fun As R h => by cases h <;> rfl) (fun f cdv A outer s E W vs As R Q hr hΦ hA k => ?_)
  have hu := hu_any hr
  have nd := sc_need_box.nd
  refine ⟨_, (pss_one (ps_if (pt_not (pt_val (pe_callB (isiK (K := K) rfl) rfl T.n_isinstance boot_isinstance' (pa_cons (pv 0) (pa_cons (pe_glob (v := .ref C) rfl T.mBox rfl) pa_nil))))) pss_never pss_nil)), ?_⟩
  cases hΦ with
  | mk b =>
    obtain ⟨v0, rfl, h0⟩ := one_arg hA
    exact s_not (eb_not (a := true) (eb_B (ev_isi (ev_var rfl h0) (fun v W' ⟨a, dx, w, h1, h2, h3⟩ => by rw [h1]; exact .base (.ins (W'.le _ _ h2) T.cls T.kCls T.kGet T.kTk T.kMro)) (.own C) T.kit))) fun W1 e1 => k _ W1 e1 rfl
abbrev s_sides_of : Stmt := top 37
abbrev N_sides_of : List Str := ["switch"]
theorem sc_sides_of : FnScope N_sides_of ["switch"] (defScope s_sides_of) := ⟨rfl, rfl, rfl, by decide +kernel, rfl, by decide +kernel, by decide +kernel⟩

inductive Φ_sides_of (K : PySem.W.Frag) (C : Addr) : List Rl → Rl → Prop
  | mk (s : Sw) : Φ_sides_of K C [oX K s] (oX K (sideOf s))
theorem ok_sides_of {P : Program} {w : World} {K : PySem.W.Frag} {mg : Str → Option Value} {base : Heap} {C : Addr} (T : Tx K mg C) (Dd : Df K mg "sides_of" "sides_of" s_sides_of ["switch"])  :
    Ca P w K mg base 1 "sides_of" ["switch"] ((spF (Φ_sides_of K C))) := by
  refine ok_of Dd sc_sides_of (fun As R h => by cases h <;> rfl) (fun f cdv A outer s E W vs As R Q hr hΦ hA k => ?_)
  have hu := hu_any hr
  have nd := sc_sides_of.nd
  refine ⟨_, (pss_one (ps_ret (pe_tup (pa_cons (pe_ix (ixT (K := K) rfl) (pe_ix (ixT (K := K) rfl) (pv 0) pe_int (fun _ _ => rfl)) pe_int (fun _ _ => rfl)) (pa_cons (pe_ix (ixT (K := K) rfl) (pe_ix (ixT (K := K) rfl) (pv 0) pe_int (fun _ _ => rfl)) pe_int (fun _ _ => rfl)) pa_nil))))), ?_⟩
  cases hΦ with
  | mk s =>
    obtain ⟨v0, rfl, h0⟩ := one_arg hA
    exact s_ret (ev_imp (ev_tup (ea_cons (ev_nat (ev_fst (ev_fst (ev_var rfl h0) ev_c) ev_c)) (ea_cons (ev_nat (ev_fst (ev_snd (ev_var rfl h0) ev_c) ev_c)) ea_nil)) (show 2 ≤ 1000000 by decide)) fun _ _ => oP_pin) k
abbrev s_pins_of : Stmt := top 39
abbrev N_pins_of : List Str := ["way", "switch", "pin"]
theorem sc_pins_of : FnScope N_pins_of ["way"] (defScope s_pins_of) := ⟨rfl, rfl, rfl, by decide +kernel, rfl, by decide +kernel, by decide +kernel⟩

inductive Φ_pins_of (K : PySem.W.Frag) (C : Addr) : List Rl → Rl → Prop
  | mk (w : List Sw) (hz : w.length ≤ 1000) : Φ_pins_of K C [oX K w] (oM (fun p : Pin => oX K p) (w.flatMap pins))
theorem ok_pins_of {P : Program} {w : World} {K : PySem.W.Frag} {mg : Str → Option Value} {base : Heap} {C : Addr} (T : Tx K mg C) (Dd : Df K mg "pins_of" "pins_of" s_pins_of ["way"])  :
    Ca P w K mg base 1 "pins_of" ["way"] ((spF (Φ_pins_of K C))) := by
  refine ok_of Dd sc_pins_of (fun As R h => by cases h <;> rfl) (fun f cdv A outer s E W vs As R Q hr hΦ hA k => ?_)
  have hu := hu_any hr
  have nd := sc_pins_of.nd
  refine ⟨_, (pss_one (ps_ret (pe_lc2 (own := [("switch", 1), ("pin", 2)]) (vs1 := [2]) rfl nd (pi_tupK (K := K) rfl (pv 0)) (blkOk_by (N := N_pins_of) (sc := defScope s_pins_of) (by decide +kernel)) (by decide) (fun _ _ _ _ _ => (pg_name (i := 1) nd rfl (Or.inl rfl))) (fun _ _ _ _ _ => pts_nil) (fun _ _ _ _ _ => (pi_tupK (K := K) rfl (pv 1))) (fun _ _ _ _ _ => (pg_name (i := 2) nd rfl (Or.inl rfl))) (fun _ _ _ _ _ => pts_nil) (fun _ _ _ _ _ => (pv 2))))), ?_⟩
  cases hΦ with
  | mk w hz =>
    obtain ⟨v0, rfl, h0⟩ := one_arg hA
    have e : ∀ s : Sw, (pins s).map (fun p => p) = pins s := fun s => List.map_id' _
    have := ev_lc2A (σ := L2.start N_pins_of [v0]) (W := W) (te := tVar 2) (wi := iTup K (tVar 0)) (wi1 := iTup K (tVar 1)) (vs := [1, 2]) (vs1 := [2]) (i := 1) (j := 2) (S := fun s : Sw => oX K s) (xs := w) pins (fun _ p => p) (fun _ p => oX K p) (fun p : Pin => oX K p) (src_tup (ev_way (ev_var rfl h0))) ?_ (fun _ => rfl) (fun _ _ => rfl) fun x hx W1 v e r => ⟨src_tup (ev_imp (ev_var rfl r) fun _ _ => sw_T), fun y hy W2 u e2 r1 r2 => ev_var rfl r2⟩
    · simp only [e] at this
      exact s_ret this k
    · simp only [e]
      rw [List.length_flatMap]
      have : (w.map fun a => (pins a).length) = w.map fun _ => 2 := by
        apply List.map_congr_left
        intro a _
        rfl
      rw [this, List.map_const', List.sum_replicate_nat]
      omega
abbrev s_is_below : Stmt := top 33
abbrev N_is_below : List Str := ["load", "other", "number", "more"]
theorem sc_is_below : FnScope N_is_below ["load", "other"] (defScope s_is_below) := ⟨rfl, rfl, rfl, by decide +kernel, rfl, by decide +kernel, by decide +kernel⟩

inductive Φ_is_below (K : PySem.W.Frag) (C : Addr) : List Rl → Rl → Prop
  | mk (l o : List Nat) (hz : l.length ≤ 1000) : Φ_is_below K C [oX K l, oX K o] (oB (below l o))
theorem ok_is_below {P : Program} {w : World} {K : PySem.W.Frag} {mg : Str → Option Value} {base : Heap} {C : Addr} (T : Tx K mg C) (Dd : Df K mg "is_below" "is_below" s_is_below ["load", "other"])  :
    Ca P w K mg base 1 "is_below" ["load", "other"] ((spF (Φ_is_below K C))) := by
  refine ok_of Dd sc_is_below (fun As R h => by cases h <;> rfl) (fun f cdv A outer s E W vs As R Q hr hΦ hA k => ?_)
  have hu := hu_any hr
  have nd := sc_is_below.nd
  refine ⟨_, (pss_one (ps_ret (pe_callB (allK (K := K) rfl rfl) rfl T.n_all boot_all' (pa_cons (pe_lc (own := [("number", 2), ("more", 3)]) rfl nd (pi_zipK (K := K) rfl rfl T.n_zip (pa_cons (pv 0) (pa_cons (pv 1) pa_nil))) (blkOk_by (N := N_is_below) (sc := defScope s_is_below) (by decide +kernel)) (fun _ _ _ _ _ => (pg_tupK (K := K) (n := 2) rfl rfl (pgs_cons (pg_name (i := 2) nd rfl (Or.inl rfl)) (pgs_cons (pg_name (i := 3) nd rfl (Or.inl rfl)) pgs_nil)))) (fun _ _ _ _ _ => pts_nil) (fun _ _ _ _ _ => (pe_cmpR op_le (pv 2) (pv 3) (nomark _)))) pa_nil)))), ?_⟩
  cases hΦ with
  | mk l o hz =>
    obtain ⟨v0, v1, rfl, h0, h1⟩ := two_args hA
    refine s_ret (ev_all (f := fun p : Nat × Nat => decide (p.1 ≤ p.2)) (ea_cons (ev_L (ev_lcPA (xs := l.zip o) (fun p : Nat × Nat => oB (decide (p.1 ≤ p.2))) (src_zipT (ea_cons (ev_imp (ev_var rfl h0) fun _ _ => X_ldT) (ea_cons (ev_imp (ev_var rfl h1) fun _ _ => X_ldT) ea_nil))) ?_ (fun _ _ => rfl) fun p hp W1 v u e r1 r2 => ?_)) ea_nil)) k
    · rw [List.length_zip]
      omega
    · refine Ev.val (ev_i0 (ev_var rfl r1) (ev_var rfl r2)) ?_
      show V.bl (decide ((p.1 : Int) ≤ (p.2 : Int))) = V.bl (decide (p.1 ≤ p.2))
      exact congrArg V.bl (decide_eq_decide.mpr Int.ofNat_le)
abbrev s_is_of : Stmt := top 34
abbrev N_is_of : List Str := ["load", "frame", "other"]
theorem sc_is_of : FnScope N_is_of ["load", "frame"] (defScope s_is_of) := ⟨rfl, rfl, rfl, by decide +kernel, rfl, by decide +kernel, by decide +kernel⟩

inductive Φ_is_of (K : PySem.W.Frag) (C : Addr) : List Rl → Rl → Prop
  | mk (l : List Nat) (F : List (List Nat)) (hz : l.length ≤ 1000) (hF : F.length ≤ 1000000) : Φ_is_of K C [oX K l, oL K (fun l => oX K l) F] (oB (F.any (below l)))
theorem ok_is_of {P : Program} {w : World} {K : PySem.W.Frag} {mg : Str → Option Value} {base : Heap} {C : Addr} (T : Tx K mg C) (Dd : Df K mg "is_of" "is_of" s_is_of ["load", "frame"]) (h_is_below : Ca P w K mg base 1 "is_below" ["load", "other"] ((spF (Φ_is_below K C)))) :
    Ca P w K mg base 2 "is_of" ["load", "frame"] ((spF (Φ_is_of K C))) := by
  refine ok_of Dd sc_is_of (fun As R h => by cases h <;> rfl) (fun f cdv A outer s E W vs As R Q hr hΦ hA k => ?_)
  have hu := hu_any hr
  have nd := sc_is_of.nd
  refine ⟨_, (pss_one (ps_ret (pe_callB (anyK (K := K) rfl rfl) rfl T.n_any boot_any' (pa_cons (pe_lc (own := [("other", 2)]) rfl nd (pi_listK (K := K) rfl (pv 1)) (blkOk_by (N := N_is_of) (sc := defScope s_is_of) (by decide +kernel)) (fun _ _ _ _ _ => (pg_name (i := 2) nd rfl (Or.inl rfl))) (fun _ _ _ _ _ => pts_nil) (fun _ _ _ _ _ => (pe_ca h_is_below hr rfl (pa_cons (pv 0) (pa_cons (pv 2) pa_nil))))) pa_nil)))), ?_⟩
  cases hΦ with
  | mk l F hz hF =>
    obtain ⟨v0, v1, rfl, h0, h1⟩ := two_args hA
    exact s_ret (ev_any (f := below l) (ea_cons (ev_L (ev_lcA (fun o => oB (below l o)) (src_list (ev_var rfl h1)) hF (fun _ => rfl) fun p hp W1 v e r => ev_call (ea_cons (ev_var rfl (Rl.mv _ e.g h0)) (ea_cons (ev_var rfl r) ea_nil)) (.mk _ _ hz))) ea_nil)) k
abbrev s_sum_of : Stmt := top 51
abbrev N_sum_of : List Str := ["load", "other", "number", "more"]
theorem sc_sum_of : FnScope N_sum_of ["load", "other"] (defScope s_sum_of) := ⟨rfl, rfl, rfl, by decide +kernel, rfl, by decide +kernel, by decide +kernel⟩

inductive Φ_sum_of (K : PySem.W.Frag) (C : Addr) : List Rl → Rl → Prop
  | mk (l o : List Nat) (hz : l.length ≤ 1000) : Φ_sum_of K C [oX K l, oX K o] (oLd (addL l o))
theorem ok_sum_of {P : Program} {w : World} {K : PySem.W.Frag} {mg : Str → Option Value} {base : Heap} {C : Addr} (T : Tx K mg C) (Dd : Df K mg "sum_of" "sum_of" s_sum_of ["load", "other"])  :
    Ca P w K mg base 1 "sum_of" ["load", "other"] ((spF (Φ_sum_of K C))) := by
  refine ok_of Dd sc_sum_of (fun As R h => by cases h <;> rfl) (fun f cdv A outer s E W vs As R Q hr hΦ hA k => ?_)
  have hu := hu_any hr
  have nd := sc_sum_of.nd
  refine ⟨_, (pss_one (ps_ret (pe_callTy (tupK (K := K) rfl) rfl T.n_tuple boot_tuple' (pa_cons (pe_lc (own := [("number", 2), ("more", 3)]) rfl nd (pi_zipK (K := K) rfl rfl T.n_zip (pa_cons (pv 0) (pa_cons (pv 1) pa_nil))) (blkOk_by (N := N_sum_of) (sc := defScope s_sum_of) (by decide +kernel)) (fun _ _ _ _ _ => (pg_tupK (K := K) (n := 2) rfl rfl (pgs_cons (pg_name (i := 2) nd rfl (Or.inl rfl)) (pgs_cons (pg_name (i := 3) nd rfl (Or.inl rfl)) pgs_nil)))) (fun _ _ _ _ _ => pts_nil) (fun _ _ _ _ _ => (pe_op op_add (pv 2) (pv 3)))) pa_nil)))), ?_⟩
  cases hΦ with
  | mk l o hz =>
    obtain ⟨v0, v1, rfl, h0, h1⟩ := two_args hA
    refine s_ret (ev_imp (ev_tupL (K := K) (S := fun p : Nat × Nat => oK (p.1 + p.2)) (ea_cons (ev_L (ev_lcPA (xs := l.zip o) (fun p : Nat × Nat => oK (p.1 + p.2)) (src_zipT (ea_cons (ev_imp (ev_var rfl h0) fun _ _ => X_ldT) (ea_cons (ev_imp (ev_var rfl h1) fun _ _ => X_ldT) ea_nil))) ?_ (fun _ _ => rfl) fun p hp W1 v u e r1 r2 => ?_)) ea_nil)) fun v H h => (oU_map (fun p : Nat × Nat => p.1 + p.2)).mpr h) k
    · rw [List.length_zip]
      omega
    · exact ev_i0 (ev_var rfl r1) (ev_var rfl r2)
abbrev s_no_numbers : Stmt := top 49
abbrev N_no_numbers : List Str := ["sides"]
theorem sc_no_numbers : FnScope N_no_numbers ["sides"] (defScope s_no_numbers) := ⟨rfl, rfl, rfl, by decide +kernel, rfl, by decide +kernel, by decide +kernel⟩

inductive Φ_no_numbers (K : PySem.W.Frag) (C : Addr) : List Rl → Rl → Prop
  | mk (n : Nat) (h1 : 2 ≤ n) (h2 : n ≤ 5) : Φ_no_numbers K C [oK n] (oLd (noLoad n))
theorem ok_no_numbers {P : Program} {w : World} {K : PySem.W.Frag} {mg : Str → Option Value} {base : Heap} {C : Addr} (T : Tx K mg C) (Dd : Df K mg "no_numbers" "no_numbers" s_no_numbers ["sides"])  :
    Ca P w K mg base 1 "no_numbers" ["sides"] ((spF (Φ_no_numbers K C))) := by
  refine ok_of Dd sc_no_numbers (fun As R h => by cases h <;> rfl) (fun f cdv A outer s E W vs As R Q hr hΦ hA k => ?_)
  have hu := hu_any hr
  have nd := sc_no_numbers.nd
  refine ⟨_, (pss_one (ps_ret (pe_op (repK (K := K) rfl) (pe_tup (pa_cons pe_int pa_nil)) (pe_op op_fdivN (pe_op op_mul (pv 0) (pe_op op_sub (pv 0) pe_int)) pe_int)))), ?_⟩
  cases hΦ with
  | mk n h1 h2 =>
    obtain ⟨v0, rfl, h0⟩ := one_arg hA
    refine s_ret (ev_op (A := oLd [0]) (B := oK (n * (n - 1) / 2)) (ev_imp (ev_tup (ea_cons (ev_c (v := .int 0)) ea_nil) (show 1 ≤ 1000000 by decide)) fun v H h => (oU_map (R := id) (fun n : Nat => oK n) (xs := [0])).mp h) (Ev.val (ev_iC (ev_iC (ev_var rfl h0) (ev_i0 (ev_var rfl h0) ev_c) (.inl (by omega))) ev_c ⟨by decide, by decide⟩) ?_) ?_) k
    · have : n = 2 ∨ n = 3 ∨ n = 4 ∨ n = 5 := by omega
      rcases this with rfl | rfl | rfl | rfl <;> rfl
    · rintro x y W' _ ⟨a, us, rfl, ha, hal⟩ rfl
      have e := Al.vals (f := fun n : Nat => V.int (n : Int)) hal
      subst e
      by_cases h : n = 2
      · subst h
        exact gv_one (R := oLd (noLoad 2)) ⟨a, _, rfl, ha, hal⟩ fun Q q => .inr ⟨a, _, rfl, rfl, SqT.of (W'.le _ _ ha), q⟩
      · have h3 : 3 ≤ n * (n - 1) / 2 ∧ n * (n - 1) / 2 ≤ 10 := by
          have : n = 3 ∨ n = 4 ∨ n = 5 := by omega
          rcases this with rfl | rfl | rfl <;> decide
        refine gv_new (o := .tup (List.replicate (n * (n - 1) / 2) [V.int 0]).flatten) (fun Q q => .inl ⟨a, _, _, rfl, rfl, SqT.of (W'.le _ _ ha), by simp, by omega, by omega, by simp, q⟩) fun p hp => ⟨p, _, rfl, upd_same, ?_⟩
        have e2 : (List.replicate (n * (n - 1) / 2) [V.int 0]).flatten = (noLoad n).map fun n : Nat => V.int (n : Int) := by
          unfold noLoad
          rw [List.map_replicate]
          generalize n * (n - 1) / 2 = m
          induction m with
          | zero => rfl
          | succ m ih =>
            rw [List.replicate_succ, List.flatten_cons, ih]
            rfl
        rw [e2]
        exact Al.ofvals
abbrev s_no_wires : Stmt := top 50
abbrev N_no_wires : List Str := ["box"]
theorem sc_no_wires : FnScope N_no_wires ["box"] (defScope s_no_wires) := ⟨rfl, rfl, rfl, by decide +kernel, rfl, by decide +kernel, by decide +kernel⟩

inductive Φ_no_wires (K : PySem.W.Frag) (C : Addr) : List Rl → Rl → Prop
  | mk (b : Bo) (ok : BoOk b) : Φ_no_wires K C [oBox K C b] (oLd (noLoad b.n))
theorem ok_no_wires {P : Program} {w : World} {K : PySem.W.Frag} {mg : Str → Option Value} {base : Heap} {C : Addr} (T : Tx K mg C) (Dd : Df K mg "no_wires" "no_wires" s_no_wires ["box"]) (h_no_numbers : Ca P w K mg base 1 "no_numbers" ["sides"] ((spF (Φ_no_numbers K C)))) :
    Ca P w K mg base 2 "no_wires" ["box"] ((spF (Φ_no_wires K C))) := by
  refine ok_of Dd sc_no_wires (fun As R h => by cases h <;> rfl) (fun f cdv A outer s E W vs As R Q hr hΦ hA k => ?_)
  have hu := hu_any hr
  have nd := sc_no_wires.nd
  refine ⟨_, (pss_one (ps_ret (pe_ca h_no_numbers hr rfl (pa_cons (pe_fldK (K := K) rfl (pv 0) rfl) pa_nil)))), ?_⟩
  cases hΦ with
  | mk b ok =>
    obtain ⟨v0, rfl, h0⟩ := one_arg hA
    exact s_ret (ev_call (ea_cons (ev_sides T (ev_var rfl h0)) ea_nil) (.mk _ ok.n1 ok.n2)) k
abbrev s_load_of : Stmt := top 38
abbrev N_load_of : List Str := ["sides", "way", "joined", "switch", "pair"]
theorem sc_load_of : FnScope N_load_of ["sides", "way"] (defScope s_load_of) := ⟨rfl, rfl, rfl, by decide +kernel, rfl, by decide +kernel, by decide +kernel⟩

inductive Φ_load_of (K : PySem.W.Frag) (C : Addr) : List Rl → Rl → Prop
  | tup (n : Nat) (h2 : n ≤ 5) (w : List Sw) (hz : w.length ≤ 1000) : Φ_load_of K C [oK n, oX K w] (oLd (loadOf n w))
  | lst (n : Nat) (h2 : n ≤ 5) (w : List Sw) (hz : w.length ≤ 1000) : Φ_load_of K C [oK n, oL K (fun s : Sw => oX K s) w] (oLd (loadOf n w))
theorem ok_load_of {P : Program} {w : World} {K : PySem.W.Frag} {mg : Str → Option Value} {base : Heap} {C : Addr} (T : Tx K mg C) (Dd : Df K mg "load_of" "load_of" s_load_of ["sides", "way"]) (h_sides_of : Ca P w K mg base 1 "sides_of" ["switch"] ((spF (Φ_sides_of K C)))) (h_pairs_of : Ca P w K mg base 1 "pairs_of" ["sides"] ((spF (Φ_pairs_of K C)))) :
    Ca P w K mg base 2 "load_of" ["sides", "way"] ((spF (Φ_load_of K C))) := by
  refine ok_of Dd sc_load_of (fun As R h => by cases h <;> rfl) (fun f cdv A outer s E W vs As R Q hr hΦ hA k => ?_)
  have hu := hu_any hr
  have nd := sc_load_of.nd
  refine ⟨_, (pss_cons (ps_set (i := 2) nd rfl (Or.inr rfl) (pe_lc (own := [("switch", 3)]) rfl nd (pi_or (pi_listK (K := K) rfl (pv 1)) (pi_tupK (K := K) rfl (pv 1))) (blkOk_by (N := N_load_of) (sc := defScope s_load_of) (by decide +kernel)) (fun _ _ _ _ _ => (pg_name (i := 3) nd rfl (Or.inl rfl))) (fun _ _ _ _ _ => pts_nil) (fun _ _ _ _ _ => (pe_ca h_sides_of hr rfl (pa_cons (pv 3) pa_nil)))))
      (pss_one (ps_ret (pe_callTy (tupK (K := K) rfl) rfl T.n_tuple boot_tuple' (pa_cons (pe_lc (own := [("pair", 4)]) rfl nd (pi_listK (K := K) rfl (pe_ca h_pairs_of hr rfl (pa_cons (pv 0) pa_nil))) (blkOk_by (N := N_load_of) (sc := defScope s_load_of) (by decide +kernel)) (fun _ _ _ _ _ => (pg_name (i := 4) nd rfl (Or.inl rfl))) (fun _ _ _ _ _ => pts_nil) (fun _ _ _ _ _ => (pe_bmK (K := K) rfl PySem.F.plainAttrs_list PySem.F.slot_list_count PySem.F.type_list_count (cntK (K := K) rfl (hu 65 (by decide))) (pv 2) (pa_cons (pv 4) pa_nil)))) pa_nil))))), ?_⟩
  obtain ⟨n, w, v0, v1, rfl, rfl, h2, hz, h0, hsrc⟩ : ∃ (n : Nat) (w : List Sw) (v0 v1 : V), vs = [v0, v1] ∧ R = oLd (loadOf n w) ∧ n ≤ 5 ∧ w.length ≤ 1000 ∧ (oK n).is v0 W.g ∧ Src (fun σ H F => iList K (tVar 1) σ H F ∨ iTup K (tVar 1) σ H F) (L2.start N_load_of [v0, v1]) W w (fun s : Sw => oX K s) := by
    cases hΦ with
    | tup n h2 w hz =>
      obtain ⟨v0, v1, rfl, h0, h1⟩ := two_args hA
      exact ⟨n, w, v0, v1, rfl, rfl, h2, hz, h0, src_orR (src_tup (ev_way (ev_var rfl h1)))⟩
    | lst n h2 w hz =>
      obtain ⟨v0, v1, rfl, h0, h1⟩ := two_args hA
      exact ⟨n, w, v0, v1, rfl, rfl, h2, hz, h0, src_orL (src_list (ev_var rfl h1))⟩
  refine s_seq (s_set (ev_lcA (fun s : Sw => oX K (sideOf s)) hsrc (Nat.le_trans hz (by decide)) (fun _ => rfl) fun s hs W1 v e r => ev_call (ea_cons (ev_var rfl r) ea_nil) (.mk _)) fun v2 W2 e2 r2 => ?_)
  have r2' : (oL K (fun p : Pin => oX K p) (w.map sideOf)).is v2 W2.g := oM_L ((oM_map sideOf).mpr r2)
  refine s_ret (ev_imp (ev_tupL (K := K) (S := fun p : Pin => oK ((w.map sideOf).count p)) (ea_cons (ev_L (ev_lcA (fun p : Pin => oK ((w.map sideOf).count p)) (src_list (ev_L (ev_call (ea_cons (ev_var rfl (Rl.mv _ e2.g h0)) ea_nil) (.mk _ h2)))) (Nat.le_trans (pairs_few h2) (by decide)) (fun _ => rfl) fun p hp W1 v e r => ev_cnt (ev_var rfl (Rl.mv _ e.g r2')) (ea_cons (ev_var rfl r) ea_nil) isX_X)) ea_nil)) fun v H h => (oU_map (fun p : Pin => (w.map sideOf).count p)).mpr h) fun v W3 e3 r => k v W3 (e2.trans e3) r
end Bx

set_option Elab.async false
set_option linter.all false
set_option maxRecDepth 100000
set_option maxHeartbeats 4000000
set_option autoImplicit false
namespace Bx
open PySem L2 StX RZ
/-! sets of tuples of ints -/
class Ky (α : Type) [DecidableEq α] [Dt α] where
  key : α → List Int
  enc_key : ∀ x : α, Dt.enc x = .tuple ((key x).map PyData.int)
  inj : ∀ x y : α, key x = key y → x = y
instance : Ky Pin where
  key p := [(p.1 : Int), (p.2 : Int)]
  enc_key p := rfl
  inj x y h := by
    obtain ⟨a, b⟩ := x
    obtain ⟨c, d⟩ := y
    simp at h
    exact Prod.ext (by omega) (by omega)
instance : Ky (List Nat) where
  key l := l.map fun n : Nat => (n : Int)
  enc_key l := by
    show PyData.tuple (l.map fun n : Nat => PyData.int (n : Int)) = _
    rw [List.map_map]
    rfl
  inj x y h := by
    refine (List.map_inj_right fun a b h => ?_).mp h
    omega
/-- all but the later ones of equal things -/
def ddp {α : Type} [DecidableEq α] : List α → List α
  | [] => []
  | x :: xs => if x ∈ xs then ddp xs else x :: ddp xs
theorem mem_ddp {α : Type} [DecidableEq α] {y : α} : ∀ {xs : List α}, y ∈ ddp xs ↔ y ∈ xs
  | [] => Iff.rfl
  | x :: xs => by
    rw [ddp]
    by_cases h : x ∈ xs
    · rw [if_pos h, mem_ddp, List.mem_cons]
      exact ⟨.inr, fun z => z.elim (fun e => e ▸ h) id⟩
    · rw [if_neg h, List.mem_cons, List.mem_cons, mem_ddp]
theorem nodup_ddp {α : Type} [DecidableEq α] : ∀ xs : List α, (ddp xs).Nodup
  | [] => List.nodup_nil
  | x :: xs => by
    rw [ddp]
    by_cases h : x ∈ xs
    · rw [if_pos h]
      exact nodup_ddp xs
    · rw [if_neg h]
      exact List.nodup_cons.mpr ⟨fun z => h (mem_ddp.mp z), nodup_ddp xs⟩
/-- sorted(set(xs)) -/
def srtS {α : Type} [DecidableEq α] [Dt α] (xs : List α) : List α := (ddp xs).mergeSort dle
section
variable {α : Type} [DecidableEq α] [Dt α] {K : PySem.W.Frag} {H : Hp} {a b c : α}
theorem dle_iff : dle a b = !PySem.W.dataLt (Dt.enc b) (Dt.enc a) := rfl
theorem dlt_trans (h1 : PySem.W.dataLt (Dt.enc a) (Dt.enc b) = true) (h2 : PySem.W.dataLt (Dt.enc b) (Dt.enc c) = true) : PySem.W.dataLt (Dt.enc a) (Dt.enc c) = true := PyProof.Rows.lex_trans (O := PyProof.Rows.itemOrd) _ _ _ h1 h2
theorem dle_trans (h1 : dle a b = true) (h2 : dle b c = true) : dle a c = true := by
  rw [dle_iff, Bool.not_eq_true'] at h1 h2 ⊢
  cases h : PySem.W.dataLt (Dt.enc c) (Dt.enc a) with
  | false => rfl
  | true =>
    rcases PyProof.Rows.lex_negTrans (O := PyProof.Rows.itemOrd) _ (PySem.W.keyToks (Dt.enc b)) _ h with q | q
    · exact absurd (q.symm.trans h2) (by decide)
    · exact absurd (q.symm.trans h1) (by decide)
theorem dlt_asymm (h : PySem.W.dataLt (Dt.enc a) (Dt.enc b) = true) : PySem.W.dataLt (Dt.enc b) (Dt.enc a) = false := by
  cases q : PySem.W.dataLt (Dt.enc b) (Dt.enc a) with
  | false => rfl
  | true =>
    have := dlt_trans h q
    exact absurd (this.symm.trans (PyProof.Rows.lex_irrefl (O := PyProof.Rows.itemOrd) _)) (by decide)
theorem dle_total : (dle a b || dle b a) = true := by
  rw [dle_iff, dle_iff]
  cases h : PySem.W.dataLt (Dt.enc b) (Dt.enc a) with
  | false => rfl
  | true =>
    rw [dlt_asymm h]
    rfl
theorem dle_anti (h1 : dle a b = true) (h2 : dle b a = true) : a = b := by
  rw [dle_iff, Bool.not_eq_true'] at h1 h2
  exact Dt.tot a b h2 h1
/-- less, and not the same -/
theorem dlt_of (h1 : dle a b = true) (h2 : a ≠ b) : PySem.W.dataLt (Dt.enc a) (Dt.enc b) = true := by
  rw [dle_iff, Bool.not_eq_true'] at h1
  cases q : PySem.W.dataLt (Dt.enc a) (Dt.enc b) with
  | true => rfl
  | false => exact absurd (Dt.tot a b q h1) h2
theorem sorted_ms (xs : List α) : (xs.mergeSort dle).Pairwise fun a b => dle a b = true := List.pairwise_mergeSort (le := dle) (fun a b c h1 h2 => dle_trans h1 h2) (fun a b => dle_total) xs
theorem strict_ms {xs : List α} (h : xs.Nodup) : (xs.mergeSort dle).Pairwise fun a b => PySem.W.dataLt (Dt.enc a) (Dt.enc b) = true :=
  (List.Pairwise.and (sorted_ms xs) ((List.mergeSort_perm xs dle).nodup_iff.mpr h)).imp fun h => dlt_of h.1 h.2
theorem perm_sorted_eq : ∀ {xs ys : List α}, xs.Pairwise (fun a b => dle a b = true) → ys.Pairwise (fun a b => dle a b = true) → xs.Perm ys → xs = ys
  | [], ys, _, _, h => (List.Perm.nil_eq h)
  | x :: xs, [], _, _, h => absurd h.length_eq (by simp)
  | x :: xs, y :: ys, h1, h2, h => by
    have hx : x = y := by
      by_cases e : x = y
      · exact e
      · have m1 : x ∈ ys := ((List.mem_cons.mp (h.mem_iff.mp List.mem_cons_self)).resolve_left e)
        have m2 : y ∈ xs := ((List.mem_cons.mp (h.mem_iff.mpr List.mem_cons_self)).resolve_left fun z => e z.symm)
        exact dle_anti ((List.pairwise_cons.mp h1).1 y m2) ((List.pairwise_cons.mp h2).1 x m1)
    subst hx
    rw [perm_sorted_eq (List.pairwise_cons.mp h1).2 (List.pairwise_cons.mp h2).2 (List.Perm.cons_inv h)]
/-- a list of things with keys -/
theorem keys_of [Ky α] {R : α → Rl} (hR : ∀ x v H, (R x).is v H → (oX K x).is v H) : ∀ {xs : List α} {vs : List V}, Al R xs vs H → ∃ ks : List (Addr × List Int), ks.map (fun p => V.ref p.1) = vs ∧ ks.map (·.2) = xs.map Ky.key ∧ (∀ p ∈ ks, SqT K H p.1 (p.2.map V.int)) ∧ ∀ p ∈ ks, ∃ x ∈ xs, p.2 = Ky.key x ∧ (R x).is (.ref p.1) H
  | [], [], _ => ⟨[], rfl, rfl, fun p hp => absurd hp List.not_mem_nil, fun p hp => absurd hp List.not_mem_nil⟩
  | x :: xs, v :: vs, h => by
    obtain ⟨ks, h1, h2, h3, h4⟩ := keys_of hR h.2
    have hx := hR x v H h.1
    have ex := Ky.enc_key x
    rw [show (oX K x) = oD K (.tuple ((Ky.key x).map PyData.int)) from congrArg (oD K) ex] at hx
    obtain ⟨a, us, rfl, hs, hal⟩ := dp_oT (e := fun i : Int => PyData.int i) hx
    have eu : us = (Ky.key x).map V.int := Al.vals (f := V.int) (H := H) (Al.imp (H' := H) hal fun i v _ hi => dp_int hi)
    subst eu
    refine ⟨(a, Ky.key x) :: ks, by rw [List.map_cons, h1], by rw [List.map_cons, List.map_cons, h2], fun p hp => ?_, fun p hp => ?_⟩
    · rcases List.mem_cons.mp hp with rfl | hp
      · exact hs
      · exact h3 p hp
    · rcases List.mem_cons.mp hp with rfl | hp
      · exact ⟨x, List.mem_cons_self, rfl, h.1⟩
      · obtain ⟨y, hy, e⟩ := h4 p hp
        exact ⟨y, List.mem_cons_of_mem _ hy, e⟩
theorem keys_back [Ky α] {R : α → Rl} {xs : List α} : ∀ {L : List (Addr × List Int)}, (∀ p ∈ L, ∃ x ∈ xs, p.2 = Ky.key x ∧ (R x).is (.ref p.1) H) → ∃ ys : List α, L.map (·.2) = ys.map Ky.key ∧ Al R ys (L.map fun p => V.ref p.1) H ∧ ∀ y ∈ ys, y ∈ xs
  | [], _ => ⟨[], rfl, trivial, fun _ h => nomatch h⟩
  | p :: L, h => by
    obtain ⟨x, hx, e, r⟩ := h p List.mem_cons_self
    obtain ⟨ys, h1, h2, h3⟩ := keys_back (L := L) fun q hq => h q (List.mem_cons_of_mem _ hq)
    refine ⟨x :: ys, by rw [List.map_cons, List.map_cons, h1, e], ⟨r, h2⟩, fun y hy => ?_⟩
    rcases List.mem_cons.mp hy with rfl | hy
    · exact hx
    · exact h3 y hy
/-- a set -/
def oSet [Ky α] (P : Program) (w : World) (R : α → Rl) (ys : List α) : Rl := ⟨fun v H => ∃ a L, v = .ref a ∧ H a = some (SetO P w a L) ∧ L.map (·.2) = ys.map Ky.key ∧ Al R ys (L.map fun p => V.ref p.1) H, fun {v H1 H2} e h => by
  obtain ⟨a, L, h1, h2, h3, h4⟩ := h
  exact ⟨a, L, h1, e _ _ h2, h3, Al.up e h4⟩⟩
theorem nodup_of_map {β : Type} {f : α → β} : ∀ {xs : List α}, (xs.map f).Nodup → xs.Nodup
  | [], _ => List.nodup_nil
  | x :: xs, h => by
    rw [List.map_cons, List.nodup_cons] at h
    exact List.nodup_cons.mpr ⟨fun z => h.1 (List.mem_map_of_mem z), nodup_of_map h.2⟩
theorem ev_set [Ky α] {P : Program} {w : World} {σ : Sl} {W : Hw} {ta : TA} {R : α → Rl} {xs : List α} (h : Ea ta σ W [oL K R xs]) (hR : ∀ x v H, (R x).is v H → (oX K x).is v H) (hf : ∀ ks : List (Addr × List Int), ks.map (·.2) = xs.map Ky.key → Few ks) :
    Ev (tCB (rSetL K P w) ta) σ W (oE (fun ys : List α => ys.Nodup ∧ ∀ y, y ∈ ys ↔ y ∈ xs) fun ys => oSet P w R ys) :=
  ev_cb h fun vs W' _ r => by
    obtain ⟨x, rfl, a, us, rfl, hs, hal⟩ := one_arg r
    obtain ⟨ks, rfl, h2, h3, h4⟩ := keys_of hR hal
    intro Q q
    refine ⟨a, ks, rfl, W'.le.seq hs, fun p hp => same_tup W'.le (h3 p hp), hf ks h2, fun p L hp nd sub all => ?_⟩
    obtain ⟨ys, g1, g2, g3⟩ := keys_back (L := L) (R := R) (xs := xs) fun p hp => h4 p (sub p hp)
    refine q (.ref p) (W'.new p (SetO P w p L)) (gr_new hp) ⟨ys, ⟨nodup_of_map (f := Ky.key) (by rw [← g1]; exact nd), fun y => ⟨g3 y, fun hy => ?_⟩⟩, p, L, rfl, upd_same, g1, g2.up (same_new (Hw.free hp))⟩
    have m : Ky.key y ∈ ks.map (·.2) := by
      rw [h2]
      exact List.mem_map_of_mem hy
    obtain ⟨q0, hq0, e0⟩ := List.mem_map.mp m
    have := all q0 hq0
    rw [e0, g1] at this
    obtain ⟨z, hz, ez⟩ := List.mem_map.mp this
    rwa [Ky.inj _ _ ez] at hz
theorem ev_lenS [Ky α] {P : Program} {w : World} {σ : Sl} {W : Hw} {ta : TA} {R : α → Rl} {xs : List α} (h : Ea ta σ W [oE (fun ys : List α => ys.Nodup ∧ ∀ y, y ∈ ys ↔ y ∈ xs) fun ys => oSet P w R ys]) (hn : xs.Nodup) :
    Ev (tCB (rLenS P w) ta) σ W (oK xs.length) :=
  ev_cb h fun vs W' _ r => by
    obtain ⟨x, rfl, ys, ⟨n1, n2⟩, a, L, rfl, hs, hL, hal⟩ := one_arg r
    have e : L.length = xs.length := by
      have e1 : L.length = ys.length := by rw [← List.length_map (f := (·.2)), hL, List.length_map]
      rw [e1]
      exact ((List.perm_ext_iff_of_nodup n1 hn).mpr n2).length_eq
    exact gv_one rfl fun Q q => ⟨a, L, rfl, W'.le _ _ hs, by rw [e]; exact q⟩
theorem perm_lift {β γ : Type} {f : γ → β} {L1 L : List β} (h : L1.Perm L) : ∀ zs : List γ, zs.map f = L → ∃ zs1 : List γ, zs1.Perm zs ∧ zs1.map f = L1 := by
  induction h with
  | nil => exact fun zs e => ⟨zs, .refl _, e⟩
  | cons x h ih =>
    intro zs e
    cases zs with
    | nil => cases e
    | cons z zs =>
      rw [List.map_cons, List.cons.injEq] at e
      obtain ⟨zs1, h1, h2⟩ := ih zs e.2
      exact ⟨z :: zs1, h1.cons z, by rw [List.map_cons, h2, e.1]⟩
  | swap x y l =>
    intro zs e
    match zs, e with
    | a :: b :: zs, e =>
      rw [List.map_cons, List.map_cons, List.cons.injEq, List.cons.injEq] at e
      exact ⟨b :: a :: zs, .swap a b zs, by rw [List.map_cons, List.map_cons, e.1, e.2.1, e.2.2]⟩
    | [_], e => simp at e
    | [], e => simp at e
  | trans h1 h2 ih1 ih2 =>
    intro zs e
    obtain ⟨zs2, g1, g2⟩ := ih2 zs e
    obtain ⟨zs1, k1, k2⟩ := ih1 zs2 g2
    exact ⟨zs1, k1.trans g1, k2⟩
theorem perm_keys [Ky α] {R : α → Rl} {xs : List α} {L L1 : List (Addr × List Int)} (h : L1.Perm L) (hL : L.map (·.2) = xs.map Ky.key) (hal : Al R xs (L.map fun p => V.ref p.1) H) : ∃ zs : List ((Addr × List Int) × α), zs.map (·.1) = L1 ∧ (zs.map (·.2)).Perm xs ∧ ∀ z ∈ zs, z.1.2 = Ky.key z.2 ∧ (R z.2).is (.ref z.1.1) H := by
  have key : ∀ (L : List (Addr × List Int)) (xs : List α), L.map (·.2) = xs.map Ky.key → Al R xs (L.map fun p => V.ref p.1) H → ∃ zs : List ((Addr × List Int) × α), zs.map (·.1) = L ∧ zs.map (·.2) = xs ∧ ∀ z ∈ zs, z.1.2 = Ky.key z.2 ∧ (R z.2).is (.ref z.1.1) H := by
    intro L
    induction L with
    | nil =>
      intro xs e _
      cases xs with
      | nil => exact ⟨[], rfl, rfl, fun _ h => nomatch h⟩
      | cons x xs => cases e
    | cons p L ih =>
      intro xs e hal
      cases xs with
      | nil => cases e
      | cons x xs =>
        rw [List.map_cons, List.map_cons, List.cons.injEq] at e
        obtain ⟨zs, h1, h2, h3⟩ := ih xs e.2 hal.2
        refine ⟨(p, x) :: zs, by rw [List.map_cons, h1], by rw [List.map_cons, h2], fun z hz => ?_⟩
        rcases List.mem_cons.mp hz with rfl | hz
        · exact ⟨e.1, hal.1⟩
        · exact h3 z hz
  obtain ⟨zs, h1, h2, h3⟩ := key L xs hL hal
  subst h1
  obtain ⟨zs1, g1, g2⟩ := perm_lift h zs rfl
  exact ⟨zs1, g2, by rw [← h2]; exact g1.map _, fun z hz => h3 z (g1.mem_iff.mp hz)⟩
theorem ev_srtS [Ky α] {P : Program} {w : World} {σ : Sl} {W : Hw} {ta : TA} {R : α → Rl} {xs : List α} (h : Ea ta σ W [oE (fun ys : List α => ys.Nodup ∧ ∀ y, y ∈ ys ↔ y ∈ xs) fun ys => oSet P w R ys]) (hR : ∀ x v H, (R x).is v H → (oX K x).is v H) (hne : ∀ x ∈ xs, Ky.key x ≠ []) :
    Ev (tCB (rSortS K P w) ta) σ W (oM R (srtS xs)) :=
  ev_cb h fun vs W' _ r => by
    obtain ⟨x, rfl, ys, ⟨n1, n2⟩, a, L, rfl, hs, hL, hal⟩ := one_arg r
    have hsq : ∀ p ∈ L, SqT K W'.g p.1 (p.2.map V.int) := fun p hp => by
      obtain ⟨zs, z1, z2, z3⟩ := perm_keys (List.Perm.refl L) hL hal
      rw [← z1] at hp
      obtain ⟨z, hz, rfl⟩ := List.mem_map.mp hp
      obtain ⟨e1, e2⟩ := z3 z hz
      have hx := hR z.2 _ _ e2
      rw [show (oX K z.2) = oD K (.tuple ((Ky.key z.2).map PyData.int)) from congrArg (oD K) (Ky.enc_key z.2)] at hx
      obtain ⟨b, us, hb, hq, hal'⟩ := dp_oT (e := fun i : Int => PyData.int i) hx
      have eu : us = (Ky.key z.2).map V.int := Al.vals (f := V.int) (H := W'.g) (Al.imp (H' := W'.g) hal' fun i v _ hi => dp_int hi)
      subst eu
      cases hb
      rw [e1]
      exact hq
    have hnn : ∀ p ∈ L, p.2 ≠ [] := fun p hp => by
      have : p.2 ∈ ys.map Ky.key := by
        rw [← hL]
        exact List.mem_map_of_mem hp
      obtain ⟨y, hy, e⟩ := List.mem_map.mp this
      rw [← e]
      exact hne y ((n2 y).mp hy)
    intro Q q
    refine ⟨a, L, rfl, W'.le _ _ hs, fun p hp => same_tup W'.le (hsq p hp), hnn, fun L1 p hp hn => ?_⟩
    obtain ⟨zs, z1, z2, z3⟩ := perm_keys hp hL hal
    subst z1
    have e1 : (zs.map (·.1)).mergeSort (PySem.W.dataLe false encP) = (zs.mergeSort (PySem.W.dataLe false fun z => Dt.enc z.2)).map (·.1) :=
      (List.map_mergeSort (r := PySem.W.dataLe false fun z : (Addr × List Int) × α => Dt.enc z.2) (s := PySem.W.dataLe false encP) (f := (·.1)) fun z hz z' hz' => by
        have k1 : encP z.1 = Dt.enc z.2 := by
          rw [Ky.enc_key, ← (z3 z hz).1]
          rfl
        have k2 : encP z'.1 = Dt.enc z'.2 := by
          rw [Ky.enc_key, ← (z3 z' hz').1]
          rfl
        show (!PySem.W.dataLt (Dt.enc z'.2) (Dt.enc z.2)) = !PySem.W.dataLt (encP z'.1) (encP z.1)
        rw [k1, k2]).symm
    have e2 : (zs.map (·.2)).mergeSort dle = (zs.mergeSort (PySem.W.dataLe false fun z => Dt.enc z.2)).map (·.2) := (List.map_mergeSort (r := PySem.W.dataLe false fun z : (Addr × List Int) × α => Dt.enc z.2) (s := dle) (f := (·.2)) fun _ _ _ _ => rfl).symm
    have e3 : (zs.map (·.2)).mergeSort dle = srtS xs := perm_sorted_eq (sorted_ms _) (sorted_ms _) (((List.mergeSort_perm _ _).trans (z2.trans ((List.perm_ext_iff_of_nodup n1 (nodup_ddp xs)).mpr fun y => (n2 y).trans mem_ddp.symm))).trans (List.mergeSort_perm _ _).symm)
    refine q (.ref p) (W'.new p (.lst (((zs.map (·.1)).mergeSort (PySem.W.dataLe false encP)).map fun q => V.ref q.1))) (gr_new hn) ⟨p, _, rfl, upd_same, ?_⟩
    rw [← e3, e2, e1, List.map_map]
    have key : ∀ us : List ((Addr × List Int) × α), (∀ z ∈ us, (R z.2).is (.ref z.1.1) W'.g) → Al R (us.map (·.2)) (us.map ((fun q => V.ref q.1) ∘ fun x => x.1)) W'.g := by
      intro us
      induction us with
      | nil => exact fun _ => trivial
      | cons z us ih => exact fun hz => ⟨hz z List.mem_cons_self, ih fun y hy => hz y (List.mem_cons_of_mem _ hy)⟩
    exact (key _ fun z hz => (z3 z ((List.mergeSort_perm _ _).mem_iff.mp hz)).2).up (same_new (Hw.free hn))
theorem mem_srtS {xs : List α} {x : α} : x ∈ srtS xs ↔ x ∈ xs := (List.mergeSort_perm _ _).mem_iff.trans mem_ddp
theorem nodup_srtS (xs : List α) : (srtS xs).Nodup := (List.mergeSort_perm _ _).nodup_iff.mpr (nodup_ddp xs)
end
/-! ways -/
theorem dec_t {p : Prop} {i : Decidable p} (h : p) : @decide p i = true := decide_eq_true h
theorem dec_f {p : Prop} {i : Decidable p} (h : ¬ p) : @decide p i = false := decide_eq_false h
theorem nodup_len {α : Type} : ∀ {l m : List α}, l.Nodup → (∀ x ∈ l, x ∈ m) → l.length ≤ m.length
  | [], _, _, _ => Nat.zero_le _
  | x :: l, m, h, hs => by
    obtain ⟨a, b, rfl⟩ := List.append_of_mem (hs x List.mem_cons_self)
    have := nodup_len (l := l) (m := a ++ b) (List.nodup_cons.mp h).2 fun y hy => by
      have hy' := hs y (List.mem_cons_of_mem _ hy)
      have ne : y ≠ x := fun e => (List.nodup_cons.mp h).1 (e ▸ hy)
      rw [List.mem_append, List.mem_cons] at hy'
      rw [List.mem_append]
      exact hy'.elim .inl fun z => z.elim (fun e => absurd e ne) .inr
    rw [List.length_append] at this
    rw [List.length_cons, List.length_append, List.length_cons]
    omega
def Match (w : List Sw) : Prop := (w.flatMap pins).Nodup
structure WayOf (b : Bo) (w : List Sw) : Prop where
  sub : ∀ s ∈ w, s ∈ b.sw
  up : Rising w
  mt : Match w
theorem lts_irrefl (a : Sw) : lts a a = false := PyProof.Rows.lex_irrefl (O := PyProof.Rows.itemOrd) _
theorem Rising.nodup {w : List Sw} (h : Rising w) : w.Nodup := h.imp fun {a b} h e => by
  rw [e, lts_irrefl] at h
  cases h
theorem few_of_len {ks : List (Addr × List Int)} (h : ks.length ≤ 1228) : Few ks := fun l nd sub => by
  have := nodup_len nd sub
  rw [List.length_map] at this
  omega
theorem WayOf.len {b : Bo} {w : List Sw} (h : WayOf b w) : w.length ≤ b.sw.length := nodup_len h.up.nodup h.sub
theorem pins_len (w : List Sw) : (w.flatMap pins).length = 2 * w.length := by
  induction w with
  | nil => rfl
  | cons s w ih =>
    rw [List.flatMap_cons, List.length_append, ih, List.length_cons]
    show 2 + 2 * w.length = _
    omega
def okLd (n m : Nat) (l : List Nat) : Prop := l.length = (pairsOf n).length ∧ ∀ x ∈ l, x ≤ m
abbrev s_is_load_of : Stmt := top 32
abbrev N_is_load_of : List Str := ["sides", "thing", "most", "number"]
theorem sc_is_load_of : FnScope N_is_load_of ["sides", "thing", "most"] (defScope s_is_load_of) := ⟨rfl, rfl, rfl, by decide +kernel, rfl, by decide +kernel, by decide +kernel⟩

inductive Φ_is_load_of (K : PySem.W.Frag) (C : Addr) : List Rl → Rl → Prop
  | mk (n : Nat) (l : List Nat) (m : Nat) (h2 : n ≤ 5) (h : okLd n m l) : Φ_is_load_of K C [oK n, oX K l, oK m] (oB true)
theorem ok_is_load_of {P : Program} {w : World} {K : PySem.W.Frag} {mg : Str → Option Value} {base : Heap} {C : Addr} (T : Tx K mg C) (Dd : Df K mg "is_load_of" "is_load_of" s_is_load_of ["sides", "thing", "most"]) (h_pairs_of : Ca P w K mg base 1 "pairs_of" ["sides"] ((spF (Φ_pairs_of K C)))) (h_is_between : Ca P w K mg base 2 "is_between" ["thing", "low", "high"] ((spF (Φ_is_between K C)))) :
    Ca P w K mg base 3 "is_load_of" ["sides", "thing", "most"] ((spF (Φ_is_load_of K C))) := by
  refine ok_of Dd sc_is_load_of (fun As R h => by cases h <;> rfl) (fun f cdv A outer s E W vs As R Q hr hΦ hA k => ?_)
  have hu := hu_any hr
  have nd := sc_is_load_of.nd
  refine ⟨_, (pss_cons (ps_if (pt_orW (pt_not (pt_val (pe_callB (isiK (K := K) rfl) rfl T.n_isinstance boot_isinstance' (pa_cons (pv 1) (pa_cons (pe_bltn (v := .ty "tuple") rfl T.n_tuple boot_tuple' rfl) pa_nil))))) (pw_or1 (pt_cmpR op_ne (pe_callB (lenK (K := K) rfl) rfl T.n_len boot_len' (pa_cons (pv 1) pa_nil)) (pe_callB (lenK (K := K) rfl) rfl T.n_len boot_len' (pa_cons (pe_ca h_pairs_of hr rfl (pa_cons (pv 0) pa_nil)) pa_nil)) (nomark _)))) (pss_one (ps_ret pe_bl)) pss_nil)
      (pss_one (ps_ret (pe_callB (allK (K := K) rfl rfl) rfl T.n_all boot_all' (pa_cons (pe_lc (own := [("number", 3)]) rfl nd (pi_tupK (K := K) rfl (pv 1)) (blkOk_by (N := N_is_load_of) (sc := defScope s_is_load_of) (by decide +kernel)) (fun _ _ _ _ _ => (pg_name (i := 3) nd rfl (Or.inl rfl))) (fun _ _ _ _ _ => pts_nil) (fun _ _ _ _ _ => (pe_ca h_is_between hr rfl (pa_cons (pv 3) (pa_cons pe_int (pa_cons (pv 2) pa_nil)))))) pa_nil))))), ?_⟩
  cases hΦ with
  | mk n l m h2 h =>
    obtain ⟨v0, v1, v2, rfl, h0, h1, h2'⟩ := three_args hA
    have hl := pairs_few h2
    refine q_not (eb_or (a := false) (b := false) (eb_not (a := true) (eb_B (ev_isiT (ev_way (ev_var rfl h1))))) fun _ => eb_test (ev_neV (ev_lenT (ea_cons (ev_way (ev_var rfl h1)) ea_nil)) (ev_lenL (xs := pairsOf n) (ea_cons (ev_L (ev_call (ea_cons (ev_var rfl h0) ea_nil) (.mk _ h2))) ea_nil)) rfl ?_)) fun W1 e1 => ?_
    · rw [h.1, decide_eq_true rfl]
      rfl
    · refine s_ret (ev_allT (xs := l) (ea_cons (ev_L (ev_lcA (fun _ => oB true) (src_tup (ev_imp (ev_var rfl (Rl.mv _ e1.g h1)) fun _ _ => X_ldT)) (by have := h.1; omega) (fun _ => rfl) fun p hp W1' v e r => ?_)) ea_nil)) fun v W2 e2 r => k v W2 (e1.trans e2) r
      exact ev_call (ea_cons (ev_var rfl r) (ea_cons ev_c (ea_cons (ev_var rfl (Rl.mv _ (e1.trans e).g h2')) ea_nil))) (.mk _ _ _ (by omega) (by have := h.2 p hp; omega))
abbrev s_need_load : Stmt := top 36
abbrev N_need_load : List Str := ["sides", "load"]
theorem sc_need_load : FnScope N_need_load ["sides", "load"] (defScope s_need_load) := ⟨rfl, rfl, rfl, by decide +kernel, rfl, by decide +kernel, by decide +kernel⟩

inductive Φ_need_load (K : PySem.W.Frag) (C : Addr) : List Rl → Rl → Prop
  | mk (n : Nat) (l : List Nat) (h2 : n ≤ 5) (h : okLd n 99 l) : Φ_need_load K C [oK n, oX K l] oN
theorem ok_need_load {P : Program} {w : World} {K : PySem.W.Frag} {mg : Str → Option Value} {base : Heap} {C : Addr} (T : Tx K mg C) (Dd : Df K mg "need_load" "need_load" s_need_load ["sides", "load"]) (h_is_load_of : Ca P w K mg base 3 "is_load_of" ["sides", "thing", "most"] ((spF (Φ_is_load_of K C)))) :
    Ca P w K mg base 4 "need_load" ["sides", "load"] ((spF (Φ_need_load K C))) := by
  refine ok_of Dd sc_need_load (fun As R h => by cases h <;> rfl) (fun f cdv A outer s E W vs As R Q hr hΦ hA k => ?_)
  have hu := hu_any hr
  have nd := sc_need_load.nd
  refine ⟨_, (pss_one (ps_if (pt_not (pt_val (pe_ca h_is_load_of hr rfl (pa_cons (pv 0) (pa_cons (pv 1) (pa_cons (pe_gc T.c_MOST_WIRES rfl) pa_nil)))))) pss_never pss_nil)), ?_⟩
  cases hΦ with
  | mk n l h2 h =>
    obtain ⟨v0, v1, rfl, h0, h1⟩ := two_args hA
    exact s_not (eb_not (a := true) (eb_B (ev_call (ea_cons (ev_var rfl h0) (ea_cons (ev_var rfl h1) (ea_cons (ev_c (v := .int ((99 : Nat) : Int))) ea_nil))) (.mk _ _ _ h2 h)))) fun W1 e1 => k _ W1 e1 rfl
abbrev s_is_way_of : Stmt := top 40
abbrev N_is_way_of : List Str := ["box", "thing", "switch"]
theorem sc_is_way_of : FnScope N_is_way_of ["box", "thing"] (defScope s_is_way_of) := ⟨rfl, rfl, rfl, by decide +kernel, rfl, by decide +kernel, by decide +kernel⟩

inductive Φ_is_way_of (K : PySem.W.Frag) (C : Addr) : List Rl → Rl → Prop
  | no (b : Bo) : Φ_is_way_of K C [oBox K C b, oN] (oB false)
  | yes (b : Bo) (ok : BoOk b) (w : List Sw) (h : WayOf b w) : Φ_is_way_of K C [oBox K C b, oX K w] (oB true)
theorem ok_is_way_of {P : Program} {w : World} {K : PySem.W.Frag} {mg : Str → Option Value} {base : Heap} {C : Addr} (T : Tx K mg C) (Dd : Df K mg "is_way_of" "is_way_of" s_is_way_of ["box", "thing"]) (h_is_switch : Ca P w K mg base 4 "is_switch" ["thing", "sides", "tracks"] ((spF (Φ_is_switch K C)))) (h_is_rising : Ca P w K mg base 1 "is_rising" ["row"] ((spF (Φ_is_rising K C)))) (h_pins_of : Ca P w K mg base 1 "pins_of" ["way"] ((spF (Φ_pins_of K C)))) :
    Ca P w K mg base 5 "is_way_of" ["box", "thing"] ((spF (Φ_is_way_of K C))) := by
  refine ok_of Dd sc_is_way_of (fun As R h => by cases h <;> rfl) (fun f cdv A outer s E W vs As R Q hr hΦ hA k => ?_)
  have hu := hu_any hr
  have nd := sc_is_way_of.nd
  refine ⟨_, (pss_cons (ps_if (pt_orW (pt_not (pt_val (pe_callB (isiK (K := K) rfl) rfl T.n_isinstance boot_isinstance' (pa_cons (pv 1) (pa_cons (pe_bltn (v := .ty "tuple") rfl T.n_tuple boot_tuple' rfl) pa_nil))))) (pw_or1 (pt_not (pt_val (pe_callB (allK (K := K) rfl rfl) rfl T.n_all boot_all' (pa_cons (pe_lc (own := [("switch", 2)]) rfl nd (pi_tupK (K := K) rfl (pv 1)) (blkOk_by (N := N_is_way_of) (sc := defScope s_is_way_of) (by decide +kernel)) (fun _ _ _ _ _ => (pg_name (i := 2) nd rfl (Or.inl rfl))) (fun _ _ _ _ _ => pts_nil) (fun _ _ _ _ _ => (pe_ca h_is_switch hr rfl (pa_cons (pv 2) (pa_cons (pe_fldK (K := K) rfl (pv 0) rfl) (pa_cons (pe_fldK (K := K) rfl (pv 0) rfl) pa_nil)))))) pa_nil)))))) (pss_one (ps_ret pe_bl)) pss_nil)
      (pss_cons (ps_if (pt_orW (pt_not (pt_val (pe_ca h_is_rising hr rfl (pa_cons (pv 1) pa_nil)))) (pw_or1 (pt_not (pt_val (pe_callB (allK (K := K) rfl rfl) rfl T.n_all boot_all' (pa_cons (pe_lc (own := [("switch", 2)]) rfl nd (pi_tupK (K := K) rfl (pv 1)) (blkOk_by (N := N_is_way_of) (sc := defScope s_is_way_of) (by decide +kernel)) (fun _ _ _ _ _ => (pg_name (i := 2) nd rfl (Or.inl rfl))) (fun _ _ _ _ _ => pts_nil) (fun _ _ _ _ _ => (pe_cmpR (inTK (K := K) rfl (hu 65 (by decide))) (pv 2) (pe_fldK (K := K) rfl (pv 0) rfl) (by with_unfolding_all rfl)))) pa_nil)))))) (pss_one (ps_ret pe_bl)) pss_nil)
      (pss_one (ps_ret (pe_cmpR op_eq (pe_callB (lenSK (P := P) (w := w) rfl rfl) rfl T.n_len boot_len' (pa_cons (pe_callTy (setLK (K := K) (P := P) (w := w) rfl rfl rfl rfl (hu 64 (by decide))) rfl T.n_set boot_set' (pa_cons (pe_ca h_pins_of hr rfl (pa_cons (pv 1) pa_nil)) pa_nil)) pa_nil)) (pe_op op_mul pe_int (pe_callB (lenK (K := K) rfl) rfl T.n_len boot_len' (pa_cons (pv 1) pa_nil))) (nomark _)))))), ?_⟩
  cases hΦ with
  | no b =>
    obtain ⟨v0, v1, rfl, h0, h1⟩ := two_args hA
    refine s_seq (s_if (b := true) (eb_or (a := true) (b := true) (eb_not (a := false) (eb_B (ev_isi (ev_var rfl h1) (fun v W' hv => by rw [hv]; exact .base .non) (.ty "tuple") rfl))) (fun z => nomatch z)) (fun _ W1 e1 => s_ret ev_c fun v W2 e2 r => k v W2 (e1.trans e2) r) fun z => nomatch z)
  | yes b ok w h =>
    obtain ⟨v0, v1, rfl, h0, h1⟩ := two_args hA
    have hz : w.length ≤ 20 := Nat.le_trans h.len ok.few
    refine q_not (eb_or (a := false) (b := false) (eb_not (a := true) (eb_B (ev_isiT (ev_way (ev_var rfl h1))))) fun _ => eb_not (a := true) (eb_B (ev_allT (xs := w) (ea_cons (ev_L (ev_lcA (fun _ => oB true) (src_tup (ev_way (ev_var rfl h1))) (by omega) (fun _ => rfl) fun p hp W1' v e r => ?_)) ea_nil)))) fun W1 e1 => ?_
    · exact ev_call (ea_cons (ev_var rfl r) (ea_cons (ev_sides T (ev_var rfl (Rl.mv _ e.g h0))) (ea_cons (ev_tracks T (ev_var rfl (Rl.mv _ e.g h0))) ea_nil))) (Φ_is_switch.mk _ _ _ (ok.ok p (h.sub p hp)))
    have g0 := Rl.mv _ e1.g h0
    have g1 := Rl.mv _ e1.g h1
    refine q_not (eb_or (a := false) (b := false) (eb_not (a := true) (eb_B (ev_call (ea_cons (ev_var rfl g1) ea_nil) (Φ_is_rising.mk _ h.up (by omega))))) fun _ => eb_not (a := true) (eb_B (ev_allT (xs := w) (ea_cons (ev_L (ev_lcA (fun _ => oB true) (src_tup (ev_way (ev_var rfl g1))) (by omega) (fun _ => rfl) fun p hp W1' v e r => ?_)) ea_nil)))) fun W2 e2 => ?_
    · exact Ev.val (ev_inT (ev_var rfl r) (ev_way (ev_switches T (ev_var rfl (Rl.mv _ e.g g0)))) isX_X) (congrArg V.bl (dec_t (h.sub p hp)))
    have q1 := Rl.mv _ e2.g g1
    refine s_ret (ev_eqV (b := true) (ev_lenS (xs := w.flatMap pins) (R := fun p : Pin => oX K p) (ea_cons (ev_set (ea_cons (ev_L (ev_call (ea_cons (ev_var rfl q1) ea_nil) (Φ_pins_of.mk _ (by omega)))) ea_nil) (fun _ _ _ h => h) fun ks hks => few_of_len ?_) ea_nil) h.mt) (ev_iC (ev_c (v := .int ((2 : Nat) : Int))) (ev_lenT (ea_cons (ev_way (ev_var rfl q1)) ea_nil)) (.inl (by omega))) rfl ?_) fun v W3 e3 r => k v W3 ((e1.trans e2).trans e3) r
    · have := congrArg List.length hks
      rw [List.length_map, List.length_map, pins_len] at this
      omega
    · rw [pins_len]
      exact decide_eq_true (congrArg V.int (by omega))
end Bx

set_option Elab.async false
set_option linter.all false
set_option maxRecDepth 100000
set_option maxHeartbeats 4000000
set_option autoImplicit false
namespace Bx
open PySem L2 StX RZ
theorem dec_eq {p : Prop} {i j : Decidable p} : V.bl (@decide p i) = V.bl (@decide p j) := by
  congr
theorem dec_ne {p : Prop} {i j : Decidable p} : V.bl (!@decide p i) = V.bl (!@decide p j) := by
  congr
theorem ev_box {K : PySem.W.Frag} {C : Addr} {σ : Sl} {W : Hw} {ta : TA} {b : Bo} (ok : BoOk b) {As : List Rl} (h : Ea ta σ W As) (e : As = [oK b.n, oK b.t, oX K b.sw]) : Ev (tMake C (sp_box_init K C) [] E0 ta) σ W (oBox K C b) := by
  subst e
  exact ev_make (Φ := fun _ _ => True) h fun vs W' x dx e hA hx hdx ne Q q => ⟨W', x, dx, vs, b, by rw [List.append_nil], rfl, hx, hdx, ne, ok, hA, q⟩
def bareB (b : Bo) (g : List Sw) : Bo := ⟨b.n, b.t, b.sw.filter fun s => !decide (s ∈ g)⟩
theorem bare_ok {b : Bo} (ok : BoOk b) (g : List Sw) : BoOk (bareB b g) := ⟨ok.n1, ok.n2, ok.t1, ok.t2, fun s h => ok.ok s (List.mem_filter.mp h).1, ok.up.filter _, Nat.le_trans (List.length_filter_le _ _) ok.few⟩
def besideB (a b : Bo) : Bo := ⟨a.n, a.t + b.t, (a.sw ++ b.sw.map fun s => shift s a.t).mergeSort dle⟩
theorem shift_inj {k : Nat} {s t : Sw} (h : shift s k = shift t k) : s = t := by
  obtain ⟨⟨a, b⟩, c, d⟩ := s
  obtain ⟨⟨a', b'⟩, c', d'⟩ := t
  simp only [shift, Prod.mk.injEq] at h
  simp only [Prod.mk.injEq]
  omega
theorem mem_beside {a b : Bo} {s : Sw} : s ∈ (besideB a b).sw ↔ s ∈ a.sw ∨ ∃ t ∈ b.sw, shift t a.t = s := by
  unfold besideB
  rw [(List.mergeSort_perm _ _).mem_iff, List.mem_append, List.mem_map]
theorem nodup_map_on {α β : Type} {f : α → β} : ∀ {xs : List α}, xs.Nodup → (∀ x ∈ xs, ∀ y ∈ xs, f x = f y → x = y) → (xs.map f).Nodup
  | [], _, _ => List.nodup_nil
  | x :: xs, h, hf => by
    rw [List.nodup_cons] at h
    rw [List.map_cons, List.nodup_cons]
    refine ⟨fun z => ?_, nodup_map_on h.2 fun a ha b hb => hf a (List.mem_cons_of_mem _ ha) b (List.mem_cons_of_mem _ hb)⟩
    obtain ⟨y, hy, e⟩ := List.mem_map.mp z
    exact h.1 (hf x List.mem_cons_self y (List.mem_cons_of_mem _ hy) e.symm ▸ hy)
theorem beside_nodup {a b : Bo} (ha : BoOk a) (hb : BoOk b) : (a.sw ++ b.sw.map fun s => shift s a.t).Nodup := by
  rw [List.nodup_append]
  refine ⟨ha.up.nodup, nodup_map_on hb.up.nodup fun x _ y _ => shift_inj, fun x hx y hy e => ?_⟩
  obtain ⟨t, _, rfl⟩ := List.mem_map.mp hy
  have := (ha.ok x hx).2.1
  rw [e] at this
  simp only [shift] at this
  omega
theorem beside_ok {a b : Bo} (ha : BoOk a) (hb : BoOk b) (hn : a.n = b.n) (ht : a.t + b.t ≤ 6) (hl : a.sw.length + b.sw.length ≤ 20) : BoOk (besideB a b) := by
  refine ⟨ha.n1, ha.n2, Nat.le_trans ha.t1 (Nat.le_add_right _ _), ht, fun s hs => ?_, strict_ms (beside_nodup ha hb), ?_⟩
  · rcases mem_beside.mp hs with h | ⟨t, h, rfl⟩
    · obtain ⟨h1, h2, h3, h4, h5⟩ := ha.ok s h
      exact ⟨h1, Nat.lt_of_lt_of_le h2 (Nat.le_add_right _ _), h3, Nat.lt_of_lt_of_le h4 (Nat.le_add_right _ _), h5⟩
    · obtain ⟨h1, h2, h3, h4, h5⟩ := hb.ok t h
      refine ⟨?_, ?_, ?_, ?_, ?_⟩ <;> simp only [shift, besideB] <;> omega
  · show (List.mergeSort _ dle).length ≤ 20
    rw [List.length_mergeSort, List.length_append, List.length_map]
    exact hl
def swIn (b : Bo) (p : List Pin) : List Sw := b.sw.filter fun s => decide (s.1 ∈ p)
theorem src_way {α : Type} [DecidableEq α] [Dt α] {K : PySem.W.Frag} {te : TE} {σ : Sl} {W : Hw} {w : List α} (h : Ev te σ W (oX K w)) : Src (iTup K te) σ W w (fun s => oX K s) := src_tup (ev_way h)
theorem ea_starW {α : Type} [DecidableEq α] [Dt α] {K : PySem.W.Frag} {ta : TE} {tr : TA} {σ : Sl} {W : Hw} {w : List α} {Rs : List Rl} (h : Ev ta σ W (oX K w)) (hr : Ea tr σ W Rs) : Ea (tStar K ta tr) σ W (w.map (fun s => oX K s) ++ Rs) := ea_starT (ev_way h) hr
/-- a list of rows laid out -/
theorem ev_lstM {α : Type} {R : α → Rl} {ta : TA} {σ : Sl} {W : Hw} {xs : List α} {Rs : List Rl} (h : Ea ta σ W Rs) (e : Rs = xs.map R) (hz : xs.length ≤ 1000000) : Ev (tLst ta) σ W (oM R xs) := by
  subst e
  exact ev_imp (ev_lst h (by rw [List.length_map]; exact hz)) fun v H h => (oM_map (R := id) R).mp h
theorem ev_tupM {α : Type} {R : α → Rl} {ta : TA} {σ : Sl} {W : Hw} {xs : List α} {Rs : List Rl} (h : Ea ta σ W Rs) (e : Rs = xs.map R) (hz : xs.length ≤ 1000000) : Ev (tTup ta) σ W (oU R xs) := by
  subst e
  exact ev_imp (ev_tup h (by rw [List.length_map]; exact hz)) fun v H h => (oU_map (R := id) R).mp h
abbrev s_beside : Stmt := top 25
abbrev N_beside : List Str := ["one", "other", "switches", "switch"]
theorem sc_beside : FnScope N_beside ["one", "other"] (defScope s_beside) := ⟨rfl, rfl, rfl, by decide +kernel, rfl, by decide +kernel, by decide +kernel⟩

inductive Φ_beside (K : PySem.W.Frag) (C : Addr) : List Rl → Rl → Prop
  | mk (a b : Bo) (ha : BoOk a) (hb : BoOk b) (hn : a.n = b.n) (ht : a.t + b.t ≤ 6) (hl : a.sw.length + b.sw.length ≤ 20) : Φ_beside K C [oBox K C a, oBox K C b] (oBox K C (besideB a b))
theorem ok_beside {P : Program} {w : World} {K : PySem.W.Frag} {mg : Str → Option Value} {base : Heap} {C : Addr} (T : Tx K mg C) (Dd : Df K mg "beside" "beside" s_beside ["one", "other"]) (h_need_box : Ca P w K mg base 1 "need_box" ["box"] ((spF (Φ_need_box K C)))) (h_need_tracks : Ca P w K mg base 3 "need_tracks" ["tracks"] ((spF (Φ_need_tracks K C)))) (h_shifted : Ca P w K mg base 1 "shifted" ["switch", "more"] ((spF (Φ_shifted K C)))) (h_Box : Ma P w K mg base 5 "Box" C ["self", "sides", "tracks", "switches"] (sp_box_init K C)) :
    Ca P w K mg base 7 "beside" ["one", "other"] ((spF (Φ_beside K C))) := by
  refine ok_of Dd sc_beside (fun As R h => by cases h <;> rfl) (fun f cdv A outer s E W vs As R Q hr hΦ hA k => ?_)
  have hu := hu_any hr
  have nd := sc_beside.nd
  refine ⟨_, (pss_cons (ps_expr (pe_ca h_need_box hr rfl (pa_cons (pv 0) pa_nil)))
      (pss_cons (ps_expr (pe_ca h_need_box hr rfl (pa_cons (pv 1) pa_nil)))
      (pss_cons (ps_if (pt_cmpR op_ne (pe_fldK (K := K) rfl (pv 0) rfl) (pe_fldK (K := K) rfl (pv 1) rfl) (nomark _)) pss_never pss_nil)
      (pss_cons (ps_expr (pe_ca h_need_tracks hr rfl (pa_cons (pe_op op_add (pe_fldK (K := K) rfl (pv 0) rfl) (pe_fldK (K := K) rfl (pv 1) rfl)) pa_nil)))
      (pss_cons (ps_set (i := 2) nd rfl (Or.inl rfl) (pe_lst (pa_starK (K := K) rfl (pe_fldK (K := K) rfl (pv 0) rfl) (pa_starK (K := K) rfl (pe_lc (own := [("switch", 3)]) rfl nd (pi_tupK (K := K) rfl (pe_fldK (K := K) rfl (pv 1) rfl)) (blkOk_by (N := N_beside) (sc := defScope s_beside) (by decide +kernel)) (fun _ _ _ _ _ => (pg_name (i := 3) nd rfl (Or.inl rfl))) (fun _ _ _ _ _ => pts_nil) (fun _ _ _ _ _ => (pe_ca h_shifted hr rfl (pa_cons (pv 3) (pa_cons (pe_fldK (K := K) rfl (pv 0) rfl) pa_nil))))) pa_nil))))
      (pss_one (ps_ret (pe_mk h_Box hr rfl (pa_cons (pe_fldK (K := K) rfl (pv 0) rfl) (pa_cons (pe_op op_add (pe_fldK (K := K) rfl (pv 0) rfl) (pe_fldK (K := K) rfl (pv 1) rfl)) (pa_cons (pe_callTy (tupK (K := K) rfl) rfl T.n_tuple boot_tuple' (pa_cons (pe_callB (sortDK (K := K) rfl (hu 64 (by decide))) rfl T.n_sorted boot_sorted' (pa_cons (pv 2) pa_nil)) pa_nil)) pa_nil))))))))))), ?_⟩
  cases hΦ with
  | mk a b ha hb hn ht hl =>
    obtain ⟨v0, v1, rfl, h0, h1⟩ := two_args hA
    refine q_drop (ev_call (ea_cons (ev_var rfl h0) ea_nil) (Φ_need_box.mk _)) fun _ W1 e1 _ => ?_
    have h0 := Rl.mv _ e1.g h0
    have h1 := Rl.mv _ e1.g h1
    refine q_drop (ev_call (ea_cons (ev_var rfl h1) ea_nil) (Φ_need_box.mk _)) fun _ W2 e2 _ => ?_
    have h0 := Rl.mv _ e2.g h0
    have h1 := Rl.mv _ e2.g h1
    refine q_not (eb_test (ev_neV (ev_sides T (ev_var rfl h0)) (ev_sides T (ev_var rfl h1)) rfl (by rw [hn]; simp))) fun W3 e3 => ?_
    have h0 := Rl.mv _ e3.g h0
    have h1 := Rl.mv _ e3.g h1
    refine q_drop (ev_call (ea_cons (ev_i0 (ev_tracks T (ev_var rfl h0)) (ev_tracks T (ev_var rfl h1))) ea_nil) (Φ_need_tracks.mk (a.t + b.t) (by have := ha.t1; omega) ht)) fun _ W4 e4 _ => ?_
    have h0 := Rl.mv _ e4.g h0
    have h1 := Rl.mv _ e4.g h1
    refine q_set (ev_lstM (R := fun s : Sw => oX K s) (xs := a.sw ++ b.sw.map fun s => shift s a.t) (ea_starW (ev_switches T (ev_var rfl h0)) (ea_star (ev_L (ev_lcA (fun s : Sw => oX K (shift s a.t)) (src_way (ev_switches T (ev_var rfl h1))) (by have := hb.few; omega) (fun _ => rfl) fun s hs W5 v e r => ev_call (ea_cons (ev_var rfl r) (ea_cons (ev_tracks T (ev_var rfl (Rl.mv _ e.g h0))) ea_nil)) (Φ_shifted.mk _ _))) ea_nil)) ?_ ?_) fun v2 W5 e5 r2 => ?_
    · rw [List.append_nil, List.map_append, List.map_map]
      rfl
    · rw [List.length_append, List.length_map]
      omega
    have h0 := Rl.mv _ e5.g h0
    have h1 := Rl.mv _ e5.g h1
    refine s_ret (ev_box (beside_ok ha hb hn ht hl) (ea_cons (ev_sides T (ev_var rfl h0)) (ea_cons (ev_i0 (ev_tracks T (ev_var rfl h0)) (ev_tracks T (ev_var rfl h1))) (ea_cons (ev_imp (ev_tupL (K := K) (ea_cons (ev_L (ev_sort (ea_cons (ev_var rfl (oM_L r2)) ea_nil) isX_X srt_pair)) ea_nil)) fun v H h => T_way (oU_T h)) ea_nil))) rfl) fun v W6 e6 r => k v W6 (((((e1.trans e2).trans e3).trans e4).trans e5).trans e6) r
abbrev s_is_gone : Stmt := top 26
abbrev N_is_gone : List Str := ["box", "thing", "switch"]
theorem sc_is_gone : FnScope N_is_gone ["box", "thing"] (defScope s_is_gone) := ⟨rfl, rfl, rfl, by decide +kernel, rfl, by decide +kernel, by decide +kernel⟩

inductive Φ_is_gone (K : PySem.W.Frag) (C : Addr) : List Rl → Rl → Prop
  | mk (b : Bo) (ok : BoOk b) (g : List Sw) (hu : Rising g) (hs : ∀ s ∈ g, s ∈ b.sw) : Φ_is_gone K C [oBox K C b, oX K g] (oB true)
theorem ok_is_gone {P : Program} {w : World} {K : PySem.W.Frag} {mg : Str → Option Value} {base : Heap} {C : Addr} (T : Tx K mg C) (Dd : Df K mg "is_gone" "is_gone" s_is_gone ["box", "thing"]) (h_is_switch : Ca P w K mg base 4 "is_switch" ["thing", "sides", "tracks"] ((spF (Φ_is_switch K C)))) (h_is_rising : Ca P w K mg base 1 "is_rising" ["row"] ((spF (Φ_is_rising K C)))) :
    Ca P w K mg base 5 "is_gone" ["box", "thing"] ((spF (Φ_is_gone K C))) := by
  refine ok_of Dd sc_is_gone (fun As R h => by cases h <;> rfl) (fun f cdv A outer s E W vs As R Q hr hΦ hA k => ?_)
  have hu := hu_any hr
  have nd := sc_is_gone.nd
  refine ⟨_, (pss_cons (ps_if (pt_orW (pt_not (pt_val (pe_callB (isiK (K := K) rfl) rfl T.n_isinstance boot_isinstance' (pa_cons (pv 1) (pa_cons (pe_bltn (v := .ty "tuple") rfl T.n_tuple boot_tuple' rfl) pa_nil))))) (pw_or1 (pt_not (pt_val (pe_callB (allK (K := K) rfl rfl) rfl T.n_all boot_all' (pa_cons (pe_lc (own := [("switch", 2)]) rfl nd (pi_tupK (K := K) rfl (pv 1)) (blkOk_by (N := N_is_gone) (sc := defScope s_is_gone) (by decide +kernel)) (fun _ _ _ _ _ => (pg_name (i := 2) nd rfl (Or.inl rfl))) (fun _ _ _ _ _ => pts_nil) (fun _ _ _ _ _ => (pe_ca h_is_switch hr rfl (pa_cons (pv 2) (pa_cons (pe_fldK (K := K) rfl (pv 0) rfl) (pa_cons (pe_fldK (K := K) rfl (pv 0) rfl) pa_nil)))))) pa_nil)))))) (pss_one (ps_ret pe_bl)) pss_nil)
      (pss_one (ps_ret (pe_and (pe_ca h_is_rising hr rfl (pa_cons (pv 1) pa_nil)) (pe_one (pe_callB (allK (K := K) rfl rfl) rfl T.n_all boot_all' (pa_cons (pe_lc (own := [("switch", 2)]) rfl nd (pi_tupK (K := K) rfl (pv 1)) (blkOk_by (N := N_is_gone) (sc := defScope s_is_gone) (by decide +kernel)) (fun _ _ _ _ _ => (pg_name (i := 2) nd rfl (Or.inl rfl))) (fun _ _ _ _ _ => pts_nil) (fun _ _ _ _ _ => (pe_cmpR (inTK (K := K) rfl (hu 65 (by decide))) (pv 2) (pe_fldK (K := K) rfl (pv 0) rfl) (by with_unfolding_all rfl)))) pa_nil))))))), ?_⟩
  cases hΦ with
  | mk b ok g hup hs =>
    obtain ⟨v0, v1, rfl, h0, h1⟩ := two_args hA
    have hz : g.length ≤ 20 := Nat.le_trans (nodup_len hup.nodup hs) ok.few
    refine q_not (eb_or (a := false) (b := false) (eb_not (a := true) (eb_B (ev_isiT (ev_way (ev_var rfl h1))))) fun _ => eb_not (a := true) (eb_B (ev_allT (xs := g) (ea_cons (ev_L (ev_lcA (fun _ => oB true) (src_way (ev_var rfl h1)) (by omega) (fun _ => rfl) fun p hp W1' v e r => ?_)) ea_nil)))) fun W1 e1 => ?_
    · exact ev_call (ea_cons (ev_var rfl r) (ea_cons (ev_sides T (ev_var rfl (Rl.mv _ e.g h0))) (ea_cons (ev_tracks T (ev_var rfl (Rl.mv _ e.g h0))) ea_nil))) (Φ_is_switch.mk _ _ _ (ok.ok p (hs p hp)))
    have h0 := Rl.mv _ e1.g h0
    have h1 := Rl.mv _ e1.g h1
    refine s_ret (ev_and2 (a := true) (b := true) (ev_call (ea_cons (ev_var rfl h1) ea_nil) (Φ_is_rising.mk _ hup (by omega))) fun _ => ev_allT (xs := g) (ea_cons (ev_L (ev_lcA (fun _ => oB true) (src_way (ev_var rfl h1)) (by omega) (fun _ => rfl) fun p hp W1' v e r => ?_)) ea_nil)) fun v W2 e2 r => k v W2 (e1.trans e2) r
    exact Ev.val (ev_inT (ev_var rfl r) (ev_way (ev_switches T (ev_var rfl (Rl.mv _ e.g h0)))) isX_X) (congrArg V.bl (dec_t (hs p hp)))
abbrev s_bare_of : Stmt := top 27
abbrev N_bare_of : List Str := ["box", "gone", "switch"]
theorem sc_bare_of : FnScope N_bare_of ["box", "gone"] (defScope s_bare_of) := ⟨rfl, rfl, rfl, by decide +kernel, rfl, by decide +kernel, by decide +kernel⟩

inductive Φ_bare_of (K : PySem.W.Frag) (C : Addr) : List Rl → Rl → Prop
  | mk (b : Bo) (ok : BoOk b) (g : List Sw) : Φ_bare_of K C [oBox K C b, oX K g] (oBox K C (bareB b g))
theorem ok_bare_of {P : Program} {w : World} {K : PySem.W.Frag} {mg : Str → Option Value} {base : Heap} {C : Addr} (T : Tx K mg C) (Dd : Df K mg "bare_of" "bare_of" s_bare_of ["box", "gone"]) (h_Box : Ma P w K mg base 5 "Box" C ["self", "sides", "tracks", "switches"] (sp_box_init K C)) :
    Ca P w K mg base 7 "bare_of" ["box", "gone"] ((spF (Φ_bare_of K C))) := by
  refine ok_of Dd sc_bare_of (fun As R h => by cases h <;> rfl) (fun f cdv A outer s E W vs As R Q hr hΦ hA k => ?_)
  have hu := hu_any hr
  have nd := sc_bare_of.nd
  refine ⟨_, (pss_one (ps_ret (pe_mk h_Box hr rfl (pa_cons (pe_fldK (K := K) rfl (pv 0) rfl) (pa_cons (pe_fldK (K := K) rfl (pv 0) rfl) (pa_cons (pe_callTy (tupK (K := K) rfl) rfl T.n_tuple boot_tuple' (pa_cons (pe_lc (own := [("switch", 2)]) rfl nd (pi_tupK (K := K) rfl (pe_fldK (K := K) rfl (pv 0) rfl)) (blkOk_by (N := N_bare_of) (sc := defScope s_bare_of) (by decide +kernel)) (fun _ _ _ _ _ => (pg_name (i := 2) nd rfl (Or.inl rfl))) (fun _ _ _ _ _ => (pts_one (pt_cmpR (niTK (K := K) rfl (hu 65 (by decide))) (pv 2) (pv 1) (by with_unfolding_all rfl)))) (fun _ _ _ _ _ => (pv 2))) pa_nil)) pa_nil)))))), ?_⟩
  cases hΦ with
  | mk b ok g =>
    obtain ⟨v0, v1, rfl, h0, h1⟩ := two_args hA
    refine s_ret (ev_box (bare_ok ok g) (ea_cons (ev_sides T (ev_var rfl h0)) (ea_cons (ev_tracks T (ev_var rfl h0)) (ea_cons (ev_imp (ev_tupL (K := K) (ea_cons (ev_L (ev_lcF (xs := b.sw) (fun s => !decide (s ∈ g)) (fun s : Sw => oX K s) (src_way (ev_switches T (ev_var rfl h0))) (by have := ok.few; omega) (fun _ => rfl) fun s hs W1 v e r => ⟨eb_test (Ev.val (ev_niT (ev_var rfl r) (ev_way (ev_var rfl (Rl.mv _ e.g h1))) isX_X) dec_ne), fun _ => ev_var rfl r⟩)) ea_nil)) fun v H h => T_way (oU_T h)) ea_nil))) rfl) k
abbrev s_without : Stmt := top 28
abbrev N_without : List Str := ["box", "gone"]
theorem sc_without : FnScope N_without ["box", "gone"] (defScope s_without) := ⟨rfl, rfl, rfl, by decide +kernel, rfl, by decide +kernel, by decide +kernel⟩

inductive Φ_without (K : PySem.W.Frag) (C : Addr) : List Rl → Rl → Prop
  | mk (b : Bo) (ok : BoOk b) (g : List Sw) (hu : Rising g) (hs : ∀ s ∈ g, s ∈ b.sw) : Φ_without K C [oBox K C b, oX K g] (oBox K C (bareB b g))
theorem ok_without {P : Program} {w : World} {K : PySem.W.Frag} {mg : Str → Option Value} {base : Heap} {C : Addr} (T : Tx K mg C) (Dd : Df K mg "without" "without" s_without ["box", "gone"]) (h_need_box : Ca P w K mg base 1 "need_box" ["box"] ((spF (Φ_need_box K C)))) (h_is_gone : Ca P w K mg base 5 "is_gone" ["box", "thing"] ((spF (Φ_is_gone K C)))) (h_bare_of : Ca P w K mg base 7 "bare_of" ["box", "gone"] ((spF (Φ_bare_of K C)))) :
    Ca P w K mg base 8 "without" ["box", "gone"] ((spF (Φ_without K C))) := by
  refine ok_of Dd sc_without (fun As R h => by cases h <;> rfl) (fun f cdv A outer s E W vs As R Q hr hΦ hA k => ?_)
  have hu := hu_any hr
  have nd := sc_without.nd
  refine ⟨_, (pss_cons (ps_expr (pe_ca h_need_box hr rfl (pa_cons (pv 0) pa_nil)))
      (pss_cons (ps_if (pt_not (pt_val (pe_ca h_is_gone hr rfl (pa_cons (pv 0) (pa_cons (pv 1) pa_nil))))) pss_never pss_nil)
      (pss_one (ps_ret (pe_ca h_bare_of hr rfl (pa_cons (pv 0) (pa_cons (pv 1) pa_nil))))))), ?_⟩
  cases hΦ with
  | mk b ok g hup hs =>
    obtain ⟨v0, v1, rfl, h0, h1⟩ := two_args hA
    refine q_drop (ev_call (ea_cons (ev_var rfl h0) ea_nil) (Φ_need_box.mk _)) fun _ W1 e1 _ => ?_
    have h0 := Rl.mv _ e1.g h0
    have h1 := Rl.mv _ e1.g h1
    refine q_not (eb_not (a := true) (eb_B (ev_call (ea_cons (ev_var rfl h0) (ea_cons (ev_var rfl h1) ea_nil)) (Φ_is_gone.mk _ ok _ hup hs)))) fun W2 e2 => ?_
    exact s_ret (ev_call (ea_cons (ev_var rfl (Rl.mv _ e2.g h0)) (ea_cons (ev_var rfl (Rl.mv _ e2.g h1)) ea_nil)) (Φ_bare_of.mk _ ok _)) fun v W3 e3 r => k v W3 ((e1.trans e2).trans e3) r
abbrev s_switches_in : Stmt := top 45
abbrev N_switches_in : List Str := ["box", "piece", "switch"]
theorem sc_switches_in : FnScope N_switches_in ["box", "piece"] (defScope s_switches_in) := ⟨rfl, rfl, rfl, by decide +kernel, rfl, by decide +kernel, by decide +kernel⟩

inductive Φ_switches_in (K : PySem.W.Frag) (C : Addr) : List Rl → Rl → Prop
  | mk (b : Bo) (ok : BoOk b) (p : List Pin) : Φ_switches_in K C [oBox K C b, oX K p] (oM (fun s : Sw => oX K s) (swIn b p))
theorem ok_switches_in {P : Program} {w : World} {K : PySem.W.Frag} {mg : Str → Option Value} {base : Heap} {C : Addr} (T : Tx K mg C) (Dd : Df K mg "switches_in" "switches_in" s_switches_in ["box", "piece"])  :
    Ca P w K mg base 1 "switches_in" ["box", "piece"] ((spF (Φ_switches_in K C))) := by
  refine ok_of Dd sc_switches_in (fun As R h => by cases h <;> rfl) (fun f cdv A outer s E W vs As R Q hr hΦ hA k => ?_)
  have hu := hu_any hr
  have nd := sc_switches_in.nd
  refine ⟨_, (pss_one (ps_ret (pe_lc (own := [("switch", 2)]) rfl nd (pi_tupK (K := K) rfl (pe_fldK (K := K) rfl (pv 0) rfl)) (blkOk_by (N := N_switches_in) (sc := defScope s_switches_in) (by decide +kernel)) (fun _ _ _ _ _ => (pg_name (i := 2) nd rfl (Or.inl rfl))) (fun _ _ _ _ _ => (pts_one (pt_cmpR (inTK (K := K) rfl (hu 65 (by decide))) (pe_ix (ixT (K := K) rfl) (pv 2) pe_int (fun _ _ => rfl)) (pv 1) (by with_unfolding_all rfl)))) (fun _ _ _ _ _ => (pv 2))))), ?_⟩
  cases hΦ with
  | mk b ok p =>
    obtain ⟨v0, v1, rfl, h0, h1⟩ := two_args hA
    exact s_ret (ev_lcF (xs := b.sw) (fun s => decide (s.1 ∈ p)) (fun s : Sw => oX K s) (src_way (ev_switches T (ev_var rfl h0))) (by have := ok.few; omega) (fun _ => rfl) fun s hs W1 v e r => ⟨eb_test (Ev.val (ev_inT (ev_fst (ev_var rfl r) ev_c) (ev_way (ev_var rfl (Rl.mv _ e.g h1))) isX_X) dec_eq), fun _ => ev_var rfl r⟩) k
abbrev s_is_under : Stmt := top 61
abbrev N_is_under : List Str := ["load", "loads", "other"]
theorem sc_is_under : FnScope N_is_under ["load", "loads"] (defScope s_is_under) := ⟨rfl, rfl, rfl, by decide +kernel, rfl, by decide +kernel, by decide +kernel⟩

inductive Φ_is_under (K : PySem.W.Frag) (C : Addr) : List Rl → Rl → Prop
  | mk (l : List Nat) (F : List (List Nat)) (hz : l.length ≤ 1000) (hF : F.length ≤ 1000000) : Φ_is_under K C [oX K l, oL K (fun l => oX K l) F] (oB (F.any (below l)))
theorem ok_is_under {P : Program} {w : World} {K : PySem.W.Frag} {mg : Str → Option Value} {base : Heap} {C : Addr} (T : Tx K mg C) (Dd : Df K mg "is_under" "is_under" s_is_under ["load", "loads"]) (h_is_below : Ca P w K mg base 1 "is_below" ["load", "other"] ((spF (Φ_is_below K C)))) :
    Ca P w K mg base 2 "is_under" ["load", "loads"] ((spF (Φ_is_under K C))) := by
  refine ok_of Dd sc_is_under (fun As R h => by cases h <;> rfl) (fun f cdv A outer s E W vs As R Q hr hΦ hA k => ?_)
  have hu := hu_any hr
  have nd := sc_is_under.nd
  refine ⟨_, (pss_one (ps_ret (pe_callB (anyK (K := K) rfl rfl) rfl T.n_any boot_any' (pa_cons (pe_lc (own := [("other", 2)]) rfl nd (pi_listK (K := K) rfl (pv 1)) (blkOk_by (N := N_is_under) (sc := defScope s_is_under) (by decide +kernel)) (fun _ _ _ _ _ => (pg_name (i := 2) nd rfl (Or.inl rfl))) (fun _ _ _ _ _ => pts_nil) (fun _ _ _ _ _ => (pe_ca h_is_below hr rfl (pa_cons (pv 0) (pa_cons (pv 2) pa_nil))))) pa_nil)))), ?_⟩
  cases hΦ with
  | mk l F hz hF =>
    obtain ⟨v0, v1, rfl, h0, h1⟩ := two_args hA
    exact s_ret (ev_any (f := below l) (ea_cons (ev_L (ev_lcA (fun o => oB (below l o)) (src_list (ev_var rfl h1)) hF (fun _ => rfl) fun p hp W1 v e r => ev_call (ea_cons (ev_var rfl (Rl.mv _ e.g h0)) (ea_cons (ev_var rfl r) ea_nil)) (Φ_is_below.mk _ _ hz))) ea_nil)) k
theorem ev_isiLT {α : Type} {K : PySem.W.Frag} {σ : Sl} {W : Hw} {S : α → Rl} {xs : List α} {ta : TE} (ha : Ev ta σ W (oL K S xs)) : Ev (tCB (rIsiT K) (tCons ta (tCons (tTup (tCons (tC (.ty "list")) (tCons (tC (.ty "tuple")) tNil))) tNil))) σ W (oB true) :=
  ev_cb (ea_cons ha (ea_cons (ev_tup (ea_cons ev_c (ea_cons ev_c ea_nil)) (show 2 ≤ 1000000 by decide)) ea_nil)) fun vs W' _ r => by
    obtain ⟨x, y, rfl, ⟨a, us, rfl, hs, _⟩, ⟨b, cs, rfl, hb, hc⟩⟩ := two_args r
    obtain ⟨c1, c2, rfl, r1, r2⟩ := two_args hc
    have r1 : c1 = .ty "list" := r1
    have r2 : c2 = .ty "tuple" := r2
    subst r1 r2
    exact gv_one rfl fun Q q => ⟨_, b, _, .type "list", [.type "list", .type "tuple"], true, rfl, W'.le _ _ hb, .cons (.ty "list") (.cons (.ty "tuple") .nil), ty_lst (W'.le.seq hs), rfl, q⟩
theorem ev_isiLTn {K : PySem.W.Frag} {σ : Sl} {W : Hw} {ta : TE} (ha : Ev ta σ W oN) : Ev (tCB (rIsiT K) (tCons ta (tCons (tTup (tCons (tC (.ty "list")) (tCons (tC (.ty "tuple")) tNil))) tNil))) σ W (oB false) :=
  ev_cb (ea_cons ha (ea_cons (ev_tup (ea_cons ev_c (ea_cons ev_c ea_nil)) (show 2 ≤ 1000000 by decide)) ea_nil)) fun vs W' _ r => by
    obtain ⟨x, y, rfl, rx, ⟨b, cs, rfl, hb, hc⟩⟩ := two_args r
    obtain ⟨c1, c2, rfl, r1, r2⟩ := two_args hc
    have rx : x = .non := rx
    have r1 : c1 = .ty "list" := r1
    have r2 : c2 = .ty "tuple" := r2
    subst rx r1 r2
    exact gv_one rfl fun Q q => ⟨_, b, _, .type "NoneType", [.type "list", .type "tuple"], false, rfl, W'.le _ _ hb, .cons (.ty "list") (.cons (.ty "tuple") .nil), .base .non, rfl, q⟩
abbrev s_is_list_of_loads : Stmt := top 60
abbrev N_is_list_of_loads : List Str := ["box", "thing", "load"]
theorem sc_is_list_of_loads : FnScope N_is_list_of_loads ["box", "thing"] (defScope s_is_list_of_loads) := ⟨rfl, rfl, rfl, by decide +kernel, rfl, by decide +kernel, by decide +kernel⟩

inductive Φ_is_list_of_loads (K : PySem.W.Frag) (C : Addr) : List Rl → Rl → Prop
  | mk (b : Bo) (ok : BoOk b) (F : List (List Nat)) (hF : F.length ≤ 1000000) (h : ∀ l ∈ F, okLd b.n 999 l) : Φ_is_list_of_loads K C [oBox K C b, oL K (fun l => oX K l) F] (oB true)
theorem ok_is_list_of_loads {P : Program} {w : World} {K : PySem.W.Frag} {mg : Str → Option Value} {base : Heap} {C : Addr} (T : Tx K mg C) (Dd : Df K mg "is_list_of_loads" "is_list_of_loads" s_is_list_of_loads ["box", "thing"]) (h_is_load_of : Ca P w K mg base 3 "is_load_of" ["sides", "thing", "most"] ((spF (Φ_is_load_of K C)))) :
    Ca P w K mg base 4 "is_list_of_loads" ["box", "thing"] ((spF (Φ_is_list_of_loads K C))) := by
  refine ok_of Dd sc_is_list_of_loads (fun As R h => by cases h <;> rfl) (fun f cdv A outer s E W vs As R Q hr hΦ hA k => ?_)
  have hu := hu_any hr
  have nd := sc_is_list_of_loads.nd
  refine ⟨_, (pss_one (ps_ret (pe_and (pe_callB (isiTK (K := K) rfl) rfl T.n_isinstance boot_isinstance' (pa_cons (pv 1) (pa_cons (pe_tup (pa_cons (pe_bltn (v := .ty "list") rfl T.n_list boot_list' rfl) (pa_cons (pe_bltn (v := .ty "tuple") rfl T.n_tuple boot_tuple' rfl) pa_nil))) pa_nil))) (pe_one (pe_callB (allK (K := K) rfl rfl) rfl T.n_all boot_all' (pa_cons (pe_lc (own := [("load", 2)]) rfl nd (pi_listK (K := K) rfl (pv 1)) (blkOk_by (N := N_is_list_of_loads) (sc := defScope s_is_list_of_loads) (by decide +kernel)) (fun _ _ _ _ _ => (pg_name (i := 2) nd rfl (Or.inl rfl))) (fun _ _ _ _ _ => pts_nil) (fun _ _ _ _ _ => (pe_ca h_is_load_of hr rfl (pa_cons (pe_fldK (K := K) rfl (pv 0) rfl) (pa_cons (pv 2) (pa_cons (pe_gc T.c_MOST_NUMBER rfl) pa_nil)))))) pa_nil)))))), ?_⟩
  cases hΦ with
  | mk b ok F hF h =>
    obtain ⟨v0, v1, rfl, h0, h1⟩ := two_args hA
    exact s_ret (ev_and2 (a := true) (b := true) (ev_isiLT (ev_var rfl h1)) fun _ => ev_allT (xs := F) (ea_cons (ev_L (ev_lcA (fun _ => oB true) (src_list (ev_var rfl h1)) hF (fun _ => rfl) fun l hl W1 v e r => ev_call (ea_cons (ev_sides T (ev_var rfl (Rl.mv _ e.g h0))) (ea_cons (ev_var rfl r) (ea_cons (ev_c (v := .int ((999 : Nat) : Int))) ea_nil))) (Φ_is_load_of.mk _ _ _ ok.n2 (h l hl)))) ea_nil)) k
end Bx

set_option Elab.async false
set_option linter.all false
set_option maxRecDepth 100000
set_option maxHeartbeats 4000000
set_option autoImplicit false
namespace Bx
open PySem L2 StX RZ
/-! ### new lists that may yet change -/
def Evn {α : Type} (te : TE) (σ : Sl) (W : Hw) (S : α → Rl) (xs : List α) : Prop := ∀ W1, Gr W W1 → ∀ Q : VK, (∀ p W2 acc, Fl W1 W2 p acc → Al S xs acc W2.g → Q (.ref p) W2.h) → te σ W1.h Q
section
variable {α β : Type} {K : PySem.W.Frag} {σ : Sl} {W W' W0 : Hw} {A B C R : Rl} {S : α → Rl} {xs : List α} {ta tb tc te : TE} {D : Ends} {u : TS} {i j l : Nat}
theorem evn_nil : Evn (tLst tNil) σ W S [] := fun W1 e Q q => ⟨Nat.zero_le _, fun p hp => q p (W1.own p (.lst []) (Hw.free hp)) [] (Fl.start hp) trivial⟩
theorem evn_lst {ta : TA} {Rs : List Rl} (h : Ea ta σ W Rs) (e : Rs = xs.map S) (hz : xs.length ≤ 1000000) : Evn (tLst ta) σ W S xs := fun W1 e1 Q q => by
  subst e
  refine h W1 e1 _ fun vs W2 e2 r => ?_
  have hl := r.len
  rw [List.length_map] at hl
  exact ⟨by rw [hl]; exact small hz, fun p hp => q p (W2.own p (.lst vs) (Hw.free hp)) vs ((Fl.start hp).back e2) (Al.map (R := id) S r)⟩
theorem evn_list {ta : TA} (h : Ea ta σ W [oL K S xs]) : Evn (tCB (Evl.rListS K) ta) σ W S xs := fun W1 e1 Q q => h W1 e1 _ fun vs W2 e2 r => by
  obtain ⟨x, rfl, a, us, rfl, hs, hal⟩ := one_arg r
  exact ⟨a, us, rfl, .inl (W2.le.seq hs), fun p hp => q p (W2.own p (.lst us) (Hw.free hp)) us ((Fl.start hp).back e2) hal⟩
theorem evn_listT {ta : TA} (h : Ea ta σ W [oT K S xs]) : Evn (tCB (Evl.rListS K) ta) σ W S xs := fun W1 e1 Q q => h W1 e1 _ fun vs W2 e2 r => by
  obtain ⟨x, rfl, a, us, rfl, hs, hal⟩ := one_arg r
  exact ⟨a, us, rfl, .inr (same_tup W2.le hs), fun p hp => q p (W2.own p (.lst us) (Hw.free hp)) us ((Fl.start hp).back e2) hal⟩
theorem q_setn (h : Evn te σ W S xs) (k : ∀ p W' acc, Fl W W' p acc → Al S xs acc W'.g → u D (σ.set i (some (.ref p))) W'.h) : tSeq (tAsg te (gName i)) u D σ W.h := h W (Gr.refl W) _ fun p W' acc f r => k p W' acc f r
theorem q_parnn {β : Type} {T : β → Rl} {ys : List β} (h1 : Evn ta σ W S xs) (h2 : Evn tb σ W T ys) (k : ∀ p q W' acc acc', Fl W W' p acc → Fl W W' q acc' → p ≠ q → Al S xs acc W'.g → Al T ys acc' W'.g → u D ((σ.set i (some (.ref p))).set j (some (.ref q))) W'.h) :
    tSeq (tPar i j (tCons ta (tCons tb tNil))) u D σ W.h := h1 W (Gr.refl W) _ fun p W1 acc f1 r1 => h2 W1 f1.gr _ fun q W2 acc' f2 r2 =>
  ⟨_, _, rfl, k p q W2 acc acc' (f1.up f2.gr) (f2.back f1.gr) (fun e => by
    have := f1.at_
    rw [e, f2.new] at this
    cases this) (r1.up f2.gr.g) r2⟩
theorem q_par3n (h1 : Ev ta σ W A) (h2 : Evn tb σ W S xs) (h3 : Ev tc σ W C) (k : ∀ v p z W' acc, Gr W W' → Fl W W' p acc → A.is v W'.g → Al S xs acc W'.g → C.is z W'.g → u D (((σ.set i (some v)).set j (some (.ref p))).set l (some z)) W'.h) :
    tSeq (tPar3 i j l (tCons ta (tCons tb (tCons tc tNil)))) u D σ W.h := h1 W (Gr.refl W) _ fun v W1 e1 r1 => h2 W1 e1 _ fun p W2 acc f2 r2 => h3 W2 (e1.trans f2.gr) _ fun z W3 e3 r3 =>
  ⟨_, _, _, rfl, k v p z W3 acc ((e1.trans f2.gr).trans e3) ((f2.back e1).up e3) (A.up (f2.gr.trans e3).g r1) (r2.up e3.g) r3⟩
theorem s_par3n (h1 : Ev ta σ W A) (h2 : Evn tb σ W S xs) (h3 : Ev tc σ W C) (k : ∀ v p z W' acc, Gr W W' → Fl W W' p acc → A.is v W'.g → Al S xs acc W'.g → C.is z W'.g → D.nx (((σ.set i (some v)).set j (some (.ref p))).set l (some z)) W'.h) :
    tPar3 i j l (tCons ta (tCons tb (tCons tc tNil))) D σ W.h := h1 W (Gr.refl W) _ fun v W1 e1 r1 => h2 W1 e1 _ fun p W2 acc f2 r2 => h3 W2 (e1.trans f2.gr) _ fun z W3 e3 r3 =>
  ⟨_, _, _, rfl, k v p z W3 acc ((e1.trans f2.gr).trans e3) ((f2.back e1).up e3) (A.up (f2.gr.trans e3).g r1) (r2.up e3.g) r3⟩
/-! reading a list that may yet change -/
variable {p : Addr} {acc : List V}
theorem hid_len (hv : σ[i]? = some (some (.ref p))) (f : Fl W0 W p acc) : Ev (tCB (Evl.rLenS K) (tCons (tVar i) tNil)) σ W (oK acc.length) := fun W1 e Q q =>
  ⟨.ref p, hv, p, acc, rfl, .inl (SqL.of (f.up e).at_), q _ W1 (Gr.refl _) rfl⟩
theorem hid_star {tr : TA} {Rs : List Rl} (hv : σ[i]? = some (some (.ref p))) (f : Fl W0 W p acc) (r : Al S xs acc W.g) (hr : Ea tr σ W Rs) : Ea (tStar K (tVar i) tr) σ W (xs.map S ++ Rs) := fun W1 e Q q =>
  ⟨.ref p, hv, p, acc, rfl, .inr (SqL.of (f.up e).at_), hr W1 e _ fun vs W2 e2 rs => q _ W2 e2 (Al.app (Al.unmap (R := id) S (r.up (e.trans e2).g)) rs)⟩
theorem hid_ix {k : Int} {x : α} (hv : σ[i]? = some (some (.ref p))) (f : Fl W0 W p acc) (r : Al S xs acc W.g) (hb : Ev tb σ W (oI k)) (hk : atI xs k = some x) : Ev (tOp (rIxL K) (tVar i) tb) σ W (S x) := fun W1 e Q q =>
  ⟨.ref p, hv, hb W1 e _ fun y W2 e2 ry => by
    obtain ⟨j, h1, h2, h3, h4, h5⟩ := atI_get hk
    obtain ⟨u, hu, ru⟩ := (r.up (e.trans e2).g).get j h2
    have ek : atI acc k = some u := by
      unfold atI at hk ⊢
      cases q0 : ixN xs.length k with
      | none =>
        rw [q0] at hk
        cases hk
      | some m =>
        have em := (ixN_seq q0).1.symm.trans h1
        cases em
        rw [r.len, q0]
        exact hu
    exact ⟨p, acc, k, u, rfl, ry, SqL.of ((f.up e).up e2).at_, ek, q u W2 e2 ru⟩⟩
theorem hid_ne [DecidableEq α] [Dt α] (hv : σ[i]? = some (some (.ref p))) (f : Fl W0 W p acc) (r : Al S xs acc W.g) (hS : isX K S) (hz : Dt.dep α ≤ 50 := by decide) : Eb (tTest (tOp (rNeD K) (tVar i) (tLst tNil))) σ W (!decide (xs = [])) := fun W1 e Q q =>
  ⟨.ref p, hv, Nat.zero_le _, fun d hd => by
    have f1 := f.up e
    have hdp : Dp K (W1.new d (.lst [])).h (.ref p) (.list (xs.map Dt.enc)) := by
      refine .lst (SqL.of (by show upd W1.h d _ p = _; rw [upd_ne (fun z => by have := f1.at_; rw [z, hd] at this; cases this)]; exact f1.at_)) ?_
      exact dpAll_up (W1.new d (.lst [])).le _ _ (Al.dp (e := Dt.enc) ((r.up (e.trans (gr_new hd)).g).imp fun x v _ => hS x v _))
    refine ⟨_, .list [], hdp, .lst (SqL.of upd_same) .nil, shpL xs hz, by decide, _, rfl, ?_⟩
    have e1 : PyData.eqv (.list (xs.map Dt.enc)) (.list []) = decide (xs = []) := by
      have := Dt.eqv (α := Ls α) ⟨xs⟩ ⟨[]⟩
      refine Eq.trans this (decide_eq_decide.mpr ⟨fun h => congrArg Ls.items h, fun h => congrArg Ls.mk h⟩)
    rw [e1]
    exact q (W1.new d (.lst [])) (gr_new hd)⟩
end
/-! ### the greatest of loads -/
theorem below_refl (l : List Nat) : below l l = true := by
  unfold below
  induction l with
  | nil => rfl
  | cons x l ih =>
    rw [List.zip_cons_cons, List.all_cons, ih, decide_eq_true (Nat.le_refl x)]
    rfl
structure Great (L G : List (List Nat)) : Prop where
  nd : G.Nodup
  sub : ∀ g ∈ G, g ∈ L
  top : ∀ l ∈ L, ∃ g ∈ G, below l g = true
def oIL (q : Int × List Nat) : Rl := oU id [oI q.1, oLd q.2]
theorem isX_IL {K : PySem.W.Frag} : isX K oIL := fun q v H h => by
  obtain ⟨a, vs, rfl, h2, h3⟩ := h
  obtain ⟨x, y, rfl, rx, ry⟩ := two_args h3
  have rx : x = .int q.1 := rx
  subst rx
  exact .tup (SqT.of h2) (.cons (.int q.1) (.cons (ld_X ry) .nil))
theorem lift_keys {α : Type} [DecidableEq α] [Dt α] [Ky α] {L : List α} : ∀ {l : List (List Int)}, l.Nodup → (∀ k ∈ l, k ∈ L.map Ky.key) → ∃ D : List α, D.map Ky.key = l ∧ D.Nodup ∧ ∀ x ∈ D, x ∈ L
  | [], _, _ => ⟨[], rfl, List.nodup_nil, fun _ h => absurd h List.not_mem_nil⟩
  | k :: l, nd, h => by
    obtain ⟨D, h1, h2, h3⟩ := lift_keys (List.nodup_cons.mp nd).2 fun k' hk => h k' (List.mem_cons_of_mem _ hk)
    obtain ⟨x, hx, rfl⟩ := List.mem_map.mp (h k List.mem_cons_self)
    refine ⟨x :: D, by rw [List.map_cons, h1], List.nodup_cons.mpr ⟨fun z => (List.nodup_cons.mp nd).1 (by rw [← h1]; exact List.mem_map_of_mem z), h2⟩, fun y hy => ?_⟩
    rcases List.mem_cons.mp hy with rfl | hy
    · exact hx
    · exact h3 y hy
/-- few different ones -/
def FewL (L : List (List Nat)) : Prop := ∀ D : List (List Nat), D.Nodup → (∀ x ∈ D, x ∈ L) → D.length ≤ 1000 + 228
theorem FewL.few {L : List (List Nat)} (h : FewL L) {ks : List (Addr × List Int)} (e : ks.map (·.2) = L.map Ky.key) : Few ks := fun l nd sub => by
  obtain ⟨D, h1, h2, h3⟩ := lift_keys (L := L) nd fun k hk => by rw [← e]; exact sub k hk
  rw [← h1, List.length_map]
  exact h D h2 h3
abbrev s_greatest_of : Stmt := top 35
abbrev N_greatest_of : List Str := ["loads", "kept", "last", "last_total", "total", "load"]
theorem sc_greatest_of : FnScope N_greatest_of ["loads"] (defScope s_greatest_of) := ⟨rfl, rfl, rfl, by decide +kernel, rfl, by decide +kernel, by decide +kernel⟩

inductive Φ_greatest_of (K : PySem.W.Frag) (C : Addr) : List Rl → Rl → Prop
  | mk (L : List (List Nat)) (hL : ∀ l ∈ L, 1 ≤ l.length ∧ l.length ≤ 10) (hf : FewL L) (hz : L.length ≤ 1000000) : Φ_greatest_of K C [oL K oLd L] (oE (Great L) fun G => oM oLd G)
theorem ok_greatest_of {P : Program} {w : World} {K : PySem.W.Frag} {mg : Str → Option Value} {base : Heap} {C : Addr} (T : Tx K mg C) (Dd : Df K mg "greatest_of" "greatest_of" s_greatest_of ["loads"]) (h_is_of : Ca P w K mg base 2 "is_of" ["load", "frame"] ((spF (Φ_is_of K C)))) :
    Ca P w K mg base 3 "greatest_of" ["loads"] ((spF (Φ_greatest_of K C))) := by
  refine ok_of Dd sc_greatest_of (fun As R h => by cases h <;> rfl) (fun f cdv A outer s E W vs As R Q hr hΦ hA k => ?_)
  have hu := hu_any hr
  have nd := sc_greatest_of.nd
  refine ⟨_, (pss_cons (ps_par3 (i := 1) (j := 2) (l := 3) rfl nd rfl rfl rfl (by decide) (by decide) (by decide) rfl rfl rfl (pa_cons (pe_lst pa_nil) (pa_cons (pe_lst pa_nil) (pa_cons pe_non pa_nil))) (by rfl))
      (pss_cons (ps_for PassesOwn.never rfl (pi_listK (K := K) rfl (pe_callB (sortDK (K := K) rfl (hu 64 (by decide))) rfl T.n_sorted boot_sorted' (pa_cons (pe_lc (own := [("load", 5)]) rfl nd (pi_listK (K := K) rfl (pe_callB (sortSK (K := K) (P := P) (w := w) rfl rfl rfl rfl (hu 64 (by decide))) rfl T.n_sorted boot_sorted' (pa_cons (pe_callTy (setLK (K := K) (P := P) (w := w) rfl rfl rfl rfl (hu 64 (by decide))) rfl T.n_set boot_set' (pa_cons (pv 0) pa_nil)) pa_nil))) (blkOk_by (N := N_greatest_of) (sc := defScope s_greatest_of) (by decide +kernel)) (fun _ _ _ _ _ => (pg_name (i := 5) nd rfl (Or.inl rfl))) (fun _ _ _ _ _ => pts_nil) (fun _ _ _ _ _ => (pe_tup (pa_cons (pe_un un_neg (pe_callB (sumTK (K := K) rfl rfl) rfl T.n_sum boot_sum' (pa_cons (pv 5) pa_nil))) (pa_cons (pv 5) pa_nil))))) pa_nil))) (pg_tupK (K := K) (n := 2) rfl rfl (pgs_cons (pg_name (i := 4) nd rfl (Or.inl rfl)) (pgs_cons (pg_name (i := 5) nd rfl (Or.inl rfl)) pgs_nil))) (pss_cons (ps_if (pt_cmpR op_ne (pv 4) (pv 3) (nomark _)) (pss_one (ps_par3 (i := 1) (j := 2) (l := 3) rfl nd rfl rfl rfl (by decide) (by decide) (by decide) rfl rfl rfl (pa_cons (pe_lst (pa_starK (K := K) rfl (pv 1) (pa_starK (K := K) rfl (pv 2) pa_nil))) (pa_cons (pe_lst pa_nil) (pa_cons (pv 4) pa_nil))) (by rfl))) pss_nil)
      (pss_one (ps_if (pt_not (pt_val (pe_ca h_is_of hr rfl (pa_cons (pv 5) (pa_cons (pv 1) pa_nil))))) (pss_one (ps_expr (pe_bmK (K := K) rfl PySem.F.plainAttrs_list PySem.F.slot_list_append PySem.F.type_list_append mt_append (pv 2) (pa_cons (pv 5) pa_nil)))) pss_nil))))
      (pss_one (ps_ret (pe_callB (sortDK (K := K) rfl (hu 64 (by decide))) rfl T.n_sorted boot_sorted' (pa_cons (pe_lst (pa_starK (K := K) rfl (pv 1) (pa_starK (K := K) rfl (pv 2) pa_nil))) pa_nil)))))), ?_⟩
  cases hΦ with
  | mk L hL hf hz =>
    obtain ⟨v0, rfl, h0⟩ := one_arg hA
    have hSl : (srtS L).length ≤ 1228 := hf _ (nodup_srtS L) fun x hx => mem_srtS.mp hx
    refine q_par3n (A := oM oLd []) (S := oLd) (xs := []) (ev_lstM ea_nil rfl (by decide)) evn_nil ev_c fun v1 p v3 W1 acc e1 f1 r1 r2 r3 => ?_
    have hacc : acc = [] := List.eq_nil_of_length_eq_zero r2.len
    subst hacc
    have h0 := Rl.mv _ e1.g h0
    generalize hps : ((srtS L).map fun l => ((-(l.map fun n : Nat => (n : Int)).sum : Int), l)).mergeSort dle = ps
    have hperm : (ps.map (·.2)).Perm (srtS L) := by
      rw [← hps]
      refine ((List.mergeSort_perm _ _).map _).trans ?_
      rw [List.map_map, show ((fun x : Int × List Nat => x.2) ∘ fun l : List Nat => ((-(l.map fun n : Nat => (n : Int)).sum : Int), l)) = id from rfl, List.map_id]
    have hmem : ∀ l, l ∈ ps.map (·.2) ↔ l ∈ L := fun l => hperm.mem_iff.trans mem_srtS
    refine q_for (xs := ps) (S := fun q => oP K (oI q.1) (oLd q.2)) (src_list (ev_imp (ev_L (ev_sort (K := K) (S := oIL) (xs := (srtS L).map fun l => ((-(l.map fun n : Nat => (n : Int)).sum : Int), l)) (ea_cons (ev_imp (ev_L (K := K) (ev_lcA (xs := srtS L) (fun l => oIL ((-(l.map fun n : Nat => (n : Int)).sum : Int), l)) (src_list (ev_L (ev_srtS (α := List Nat) (R := oLd) (ea_cons (ev_set (K := K) (R := oLd) (ea_cons (ev_var rfl h0) ea_nil) (fun _ _ _ => ld_X) fun ks hks => hf.few hks) ea_nil) (fun _ _ _ => ld_X) fun l hl h => ?_))) (by omega) (fun _ => rfl) fun l hl W' v e r => ?_)) fun v H h => (oL_map (fun l : List Nat => ((-(l.map fun n : Nat => (n : Int)).sum : Int), l))).mpr h) ea_nil) isX_IL srt_pair)) fun v H h => oL_imp (S := fun q => oP K (oI q.1) (oLd q.2)) (R := oIL) (by rw [← hps]; exact h) fun q v _ hq => oU_T hq))
      (fun i σ' W' => ∃ (k ls : List (List Nat)) (vk : V) (p : Addr) (acc : List V) (lt : V) (x4 x5 : Option V), σ' = [some v0, some vk, some (.ref p), some lt, x4, x5] ∧ (oM oLd k).is vk W'.g ∧ Fl W W' p acc ∧ Al oLd ls acc W'.g ∧ (lt = .non ∨ ∃ i, lt = .int i) ∧
        (k ++ ls).Sublist ((ps.take i).map (·.2)) ∧ ∀ l ∈ (ps.take i).map (·.2), ∃ g ∈ k ++ ls, below l g = true) ?_ ?_ ?_
    · have := (hL l hl).1
      have h : l.map (fun n : Nat => (n : Int)) = [] := h
      rw [List.map_eq_nil_iff] at h
      rw [h] at this
      exact absurd this (by decide)
    · exact ev_imp (ev_tup (ea_cons (ev_neg (ev_sumT (K := K) (f := fun n : Nat => (n : Int)) (ea_cons (ev_imp (ev_var rfl r) fun _ _ => ld_T) ea_nil))) (ea_cons (ev_var rfl r) ea_nil)) (show 2 ≤ 1000000 by decide)) fun v H h => h
    · exact fun W2 e2 => ⟨[], [], v1, p, [], v3, none, none, rfl, Rl.mv _ e2.g r1, f1.up e2, trivial, .inl r3, .refl _, fun l hl => by simp at hl⟩
    · rintro i ⟨tot, l⟩ σ' W' W2 v D' hx ⟨k', ls, vk, p, acc, lt, x4, x5, rfl, rk, f, ra, hlt, hsub, htop⟩ e2 hg rv kn
      refine g_names rv fun y1 y2 ry1 ry2 => ?_
      have rk := Rl.mv _ e2.g rk
      have f := f.up e2
      have ra := ra.up e2.g
      have htk : (ps.take (i + 1)).map (·.2) = (ps.take i).map (·.2) ++ [l] := by
        rw [List.take_succ, hx, List.map_append]
        rfl
      have hlen : (k' ++ ls).length ≤ 1228 := by
        have h1 := hsub.length_le
        rw [List.length_map, List.length_take] at h1
        have h2 := hperm.length_eq
        rw [List.length_map] at h2
        omega
      rw [List.length_append] at hlen
      have hl10 : l ∈ L := (hmem l).mp (by rw [← List.take_append_drop (i + 1) ps, List.map_append, htk]; simp)
      -- the second half, from any state of that kind
      have tail : ∀ (k' ls : List (List Nat)) (vk : V) (p : Addr) (acc : List V) (lt : V) (W3 : Hw), Same W'.g W3.g → (oM oLd k').is vk W3.g → Fl W W3 p acc → Al oLd ls acc W3.g → (lt = .non ∨ ∃ i, lt = .int i) → (k' ++ ls).Sublist ((ps.take i).map (·.2)) →
          (∀ l ∈ (ps.take i).map (·.2), ∃ g ∈ k' ++ ls, below l g = true) → k'.length ≤ 1228 → ls.length ≤ 1228 → (oLd l).is y2 W3.g →
          tIfS (tNot (tB (tCall (spF (Φ_is_of K C)) [] E0 (tCons (tVar 5) (tCons (tVar 1) tNil))))) (tDrop (tBM K "list" rAppend (tVar 2) (tCons (tVar 5) tNil))) tNext D' [some v0, some vk, some (.ref p), some lt, some y1, some y2] W3.h := by
        intro k' ls vk p acc lt W3 g3 rk f ra hlt hsub htop hk1 hk2 ry2
        refine s_if (eb_not (eb_B (ev_call (ea_cons (ev_var rfl (ld_X ry2)) (ea_cons (ev_var rfl (oL_imp (oM_L rk) fun x v _ => ld_X)) ea_nil)) (Φ_is_of.mk l k' (Nat.le_trans (hL l hl10).2 (by decide)) (by omega))))) (fun hb W4 e4 => ?_) fun hb W4 e4 => ?_
        · have ra := ra.up e4.g
          refine s_append rfl (f.up e4) (ev_var (R := oLd l) rfl (Rl.mv _ e4.g ry2)) (by rw [ra.len]; omega) fun v W5 e5 f5 r5 => ?_
          refine kn _ _ ((g3.trans e4.g).trans e5.g) ⟨k', ls ++ [l], vk, p, acc ++ [v], lt, some y1, some y2, rfl, Rl.mv _ (e4.trans e5).g rk, f5.to _, (ra.up e5.g).snoc r5, hlt, ?_, fun x hx' => ?_⟩
          · rw [htk, ← List.append_assoc]
            exact hsub.append (List.Sublist.refl _)
          · rw [htk, List.mem_append, List.mem_singleton] at hx'
            rcases hx' with hx' | rfl
            · obtain ⟨g, hg, hb⟩ := htop x hx'
              exact ⟨g, by rw [← List.append_assoc]; exact List.mem_append_left _ hg, hb⟩
            · exact ⟨x, by simp, below_refl x⟩
        · refine kn _ _ (g3.trans e4.g) ⟨k', ls, vk, p, acc, lt, some y1, some y2, rfl, Rl.mv _ e4.g rk, f.up e4, ra.up e4.g, hlt, ?_, fun x hx' => ?_⟩
          · rw [htk]
            exact hsub.trans (List.sublist_append_left _ _)
          · rw [htk, List.mem_append, List.mem_singleton] at hx'
            rcases hx' with hx' | rfl
            · exact htop x hx'
            · rw [Bool.not_eq_false', List.any_eq_true] at hb
              obtain ⟨g, hg, hb⟩ := hb
              exact ⟨g, List.mem_append_left _ hg, hb⟩
      have rt : (oV y1).is y1 W2.g := rfl
      have rl : (oV lt).is lt W2.g := rfl
      refine q_when (b := !decide (y1 = lt)) (eb_test (ev_neV (ev_var rfl rt) (ev_var rfl rl) ?_ rfl)) (fun _ W3 e3 => ?_) fun _ W3 e3 => ?_
      · have : y1 = .int tot := ry1
        rw [this]
        rcases hlt with rfl | ⟨j, rfl⟩ <;> rfl
      · have f3 := f.up e3
        have ra3 := ra.up e3.g
        have gf := fix_g f3
        have rk3 := Rl.mv _ (e3.g.trans gf) rk
        have rl3 := f3.got ra3
        show tPar3 1 2 3 _ _ _ (W3.fix p (.lst acc) f3.at_).h
        refine s_par3n (A := oM oLd (k' ++ ls)) (S := oLd) (xs := []) (ev_lstM (ea_star (ev_var rfl (oM_L rk3)) (ea_star (ev_var rfl (oM_L rl3)) ea_nil)) (by rw [List.append_nil, List.map_append]) (by rw [List.length_append]; omega)) evn_nil (ev_var (R := oV y1) rfl rfl) fun v1' p' v3' W4 acc' e4 f4 r1' r2' r3' => ?_
        have r3' : v3' = y1 := r3'
        subst r3'
        exact tail (k' ++ ls) [] v1' p' acc' v3' W4 (((e2.g.trans e3.g).trans gf).trans e4.g) r1' (f4.back f3.fix) r2' (.inr ⟨tot, ry1⟩) (by rw [List.append_nil]; exact hsub) (fun x hx => by rw [List.append_nil]; exact htop x hx) (by rw [List.length_append]; omega) (by simp) (Rl.mv _ ((e3.g.trans gf).trans e4.g) ry2)
      · exact tail k' ls vk p acc lt W3 (e2.g.trans e3.g) (Rl.mv _ e3.g rk) (f.up e3) (ra.up e3.g) hlt hsub htop (by omega) (by omega) (Rl.mv _ e3.g ry2)
    · rintro σ' W' hg ⟨k', ls, vk, p, acc, lt, x4, x5, rfl, rk, f, ra, hlt, hsub, htop⟩
      rw [List.take_length] at hsub htop
      have hlen : (k' ++ ls).length ≤ 1228 := by
        have h1 := hsub.length_le
        rw [List.length_map] at h1
        have h2 := hperm.length_eq
        rw [List.length_map] at h2
        omega
      rw [List.length_append] at hlen
      have rk3 := Rl.mv _ (fix_g f) rk
      have rl3 := f.got ra
      show tRet _ _ _ (W'.fix p (.lst acc) f.at_).h
      refine s_ret (ev_imp (ev_sort (K := K) (S := oLd) (xs := k' ++ ls) (ea_cons (ev_L (ev_lstM (ea_star (ev_var rfl (oM_L rk3)) (ea_star (ev_var rfl (oM_L rl3)) ea_nil)) (by rw [List.append_nil, List.map_append]) (by rw [List.length_append]; omega))) ea_nil) isX_ld (srt_ne fun x hx => ?_)) fun v H h => (⟨_, ⟨?_, ?_, ?_⟩, h⟩ : (oE (Great L) fun G => oM oLd G).is v H)) fun v W4 e4 r => k v W4 (f.fix.trans e4) r
      · have := (hL x ((hmem x).mp (hsub.subset hx))).1
        rintro rfl
        exact absurd this (by decide)
      · exact (List.mergeSort_perm _ _).nodup_iff.mpr (hsub.nodup (hperm.nodup_iff.mpr (nodup_srtS L)))
      · exact fun g hg => (hmem g).mp (hsub.subset ((List.mergeSort_perm _ _).mem_iff.mp hg))
      · intro l hl
        obtain ⟨g, hg, hb⟩ := htop l ((hmem l).mpr hl)
        exact ⟨g, (List.mergeSort_perm _ _).mem_iff.mpr hg, hb⟩
end Bx

set_option Elab.async false
set_option linter.all false
set_option maxRecDepth 100000
set_option maxHeartbeats 4000000
set_option autoImplicit false
namespace Bx
open PySem L2 StX RZ
/-! ### pieces -/
def hits (s : Sw) (p : List Pin) : Bool := decide (s.1 ∈ p) || decide (s.2 ∈ p)
def stepP (found : List (List Pin)) (s : Sw) : List (List Pin) := found.filter (fun p => !hits s p) ++ [srtS ((found.filter (hits s)).flatMap (fun p => p) ++ pins s)]
def piecesL (sw : List Sw) : List (List Pin) := sw.foldl stepP []
def piecesOf (b : Bo) : List (List Pin) := (piecesL b.sw).mergeSort dle
theorem piecesL_snoc (sw : List Sw) (s : Sw) : piecesL (sw ++ [s]) = stepP (piecesL sw) s := by
  unfold piecesL
  rw [List.foldl_append]
  rfl
theorem flat_split {α : Type} (c : List α → Bool) : ∀ xs : List (List α), ((xs.filter fun p => !c p).flatMap fun p => p).length + ((xs.filter c).flatMap fun p => p).length = (xs.flatMap fun p => p).length
  | [] => rfl
  | x :: xs => by
    have ih := flat_split c xs
    cases h : c x with
    | true =>
      rw [List.filter_cons_of_neg (by rw [h]; decide), List.filter_cons_of_pos h, List.flatMap_cons, List.flatMap_cons, List.length_append, List.length_append]
      omega
    | false =>
      rw [List.filter_cons_of_pos (by rw [h]; rfl), List.filter_cons_of_neg (by rw [h]; decide), List.flatMap_cons, List.flatMap_cons, List.length_append, List.length_append]
      omega
theorem ddp_len {α : Type} [DecidableEq α] : ∀ xs : List α, (ddp xs).length ≤ xs.length
  | [] => Nat.le_refl _
  | x :: xs => by
    have := ddp_len xs
    rw [ddp]
    split
    · rw [List.length_cons]
      omega
    · rw [List.length_cons, List.length_cons]
      omega
theorem srtS_len {α : Type} [DecidableEq α] [Dt α] (xs : List α) : (srtS xs).length ≤ xs.length := by
  unfold srtS
  rw [List.length_mergeSort]
  exact ddp_len xs
theorem step_len (f : List (List Pin)) (s : Sw) : ((stepP f s).flatMap fun p => p).length ≤ (f.flatMap fun p => p).length + 2 := by
  unfold stepP
  rw [List.flatMap_append, List.length_append, List.flatMap_cons, List.flatMap_nil, List.append_nil]
  have h1 := srtS_len ((f.filter (hits s)).flatMap (fun p => p) ++ pins s)
  have h2 := flat_split (hits s) f
  rw [List.length_append] at h1
  have h3 : (pins s).length = 2 := rfl
  omega
theorem piecesL_take {sw : List Sw} {i : Nat} {s : Sw} (h : sw[i]? = some s) : piecesL (sw.take (i + 1)) = stepP (piecesL (sw.take i)) s := by
  rw [List.take_succ, h]
  exact piecesL_snoc _ _
theorem pieces_flat (sw : List Sw) : ∀ i, i ≤ sw.length → ((piecesL (sw.take i)).flatMap fun p => p).length ≤ 2 * i
  | 0, _ => by simp [piecesL]
  | i + 1, h => by
    have ih := pieces_flat sw i (by omega)
    rw [piecesL_take (List.getElem?_eq_getElem (by omega))]
    exact Nat.le_trans (step_len _ _) (by omega)
theorem pieces_len (sw : List Sw) : ∀ i, i ≤ sw.length → (piecesL (sw.take i)).length ≤ i
  | 0, _ => by simp [piecesL]
  | i + 1, h => by
    have ih := pieces_len sw i (by omega)
    rw [piecesL_take (List.getElem?_eq_getElem (by omega))]
    unfold stepP
    rw [List.length_append, List.length_singleton]
    have := List.length_filter_le (fun p => !hits sw[i] p) (piecesL (sw.take i))
    omega
theorem pieces_ne (sw : List Sw) : ∀ i, i ≤ sw.length → ∀ p ∈ piecesL (sw.take i), p ≠ []
  | 0, _, p, h => by simp [piecesL] at h
  | i + 1, h, p, hp => by
    rw [piecesL_take (List.getElem?_eq_getElem (by omega))] at hp
    unfold stepP at hp
    rw [List.mem_append, List.mem_singleton] at hp
    rcases hp with hp | rfl
    · exact pieces_ne sw i (by omega) p (List.mem_filter.mp hp).1
    · intro e
      have : sw[i].1 ∈ srtS ((piecesL (sw.take i)).filter (hits sw[i]) |>.flatMap (fun p => p) |>.append (pins sw[i])) := mem_srtS.mpr (List.mem_append_right _ List.mem_cons_self)
      rw [show ((piecesL (sw.take i)).filter (hits sw[i]) |>.flatMap (fun p => p) |>.append (pins sw[i])) = ((piecesL (sw.take i)).filter (hits sw[i])).flatMap (fun p => p) ++ pins sw[i] from rfl, e] at this
      exact absurd this List.not_mem_nil
def oPc (K : PySem.W.Frag) (p : List Pin) : Rl := oM (fun q : Pin => oX K q) p
theorem isX_Pc {K : PySem.W.Frag} : isX (α := Ls Pin) K (fun l => oPc K l.items) := fun l v H h => isX_X.list l v H (oM_L h)
theorem met_mem (f : List (List Pin)) (c : List Pin → Bool) {p : List Pin} (hp : p ∈ f) : (p ∈ f.filter c) ↔ c p = true := by
  rw [List.mem_filter]
  exact ⟨fun h => h.2, fun h => ⟨hp, h⟩⟩
abbrev s_pieces_of : Stmt := top 29
abbrev N_pieces_of : List Str := ["box", "found", "switch", "met", "piece", "grown", "pin"]
theorem sc_pieces_of : FnScope N_pieces_of ["box"] (defScope s_pieces_of) := ⟨rfl, rfl, rfl, by decide +kernel, rfl, by decide +kernel, by decide +kernel⟩

inductive Φ_pieces_of (K : PySem.W.Frag) (C : Addr) : List Rl → Rl → Prop
  | mk (b : Bo) (ok : BoOk b) : Φ_pieces_of K C [oBox K C b] (oM (fun p : List Pin => oX K p) (piecesOf b))
theorem ok_pieces_of {P : Program} {w : World} {K : PySem.W.Frag} {mg : Str → Option Value} {base : Heap} {C : Addr} (T : Tx K mg C) (Dd : Df K mg "pieces_of" "pieces_of" s_pieces_of ["box"])  :
    Ca P w K mg base 1 "pieces_of" ["box"] ((spF (Φ_pieces_of K C))) := by
  refine ok_of Dd sc_pieces_of (fun As R h => by cases h <;> rfl) (fun f cdv A outer s E W vs As R Q hr hΦ hA k => ?_)
  have hu := hu_any hr
  have nd := sc_pieces_of.nd
  refine ⟨_, (pss_cons (ps_set (i := 1) nd rfl (Or.inl rfl) (pe_lst pa_nil))
      (pss_cons (ps_for PassesOwn.never rfl (pi_tupK (K := K) rfl (pe_fldK (K := K) rfl (pv 0) rfl)) (pg_name (i := 2) nd rfl (Or.inr rfl)) (pss_cons (ps_set (i := 3) nd rfl (Or.inr rfl) (pe_lc (own := [("piece", 4)]) rfl nd (pi_listK (K := K) rfl (pv 1)) (blkOk_by (N := N_pieces_of) (sc := defScope s_pieces_of) (by decide +kernel)) (fun _ _ _ _ _ => (pg_name (i := 4) nd rfl (Or.inl rfl))) (fun _ _ _ _ _ => (pts_one (pt_orW (pt_cmpR (inDK (K := K) rfl (hu 65 (by decide))) (pe_ix (ixT (K := K) rfl) (pv 2) pe_int (fun _ _ => rfl)) (pv 4) (by with_unfolding_all rfl)) (pw_or1 (pt_cmpR (inDK (K := K) rfl (hu 65 (by decide))) (pe_ix (ixT (K := K) rfl) (pv 2) pe_int (fun _ _ => rfl)) (pv 4) (by with_unfolding_all rfl)))))) (fun _ _ _ _ _ => (pv 4))))
      (pss_cons (ps_set (i := 5) nd rfl (Or.inl rfl) (pe_callB (sortSK (K := K) (P := P) (w := w) rfl rfl rfl rfl (hu 64 (by decide))) rfl T.n_sorted boot_sorted' (pa_cons (pe_callTy (setLK (K := K) (P := P) (w := w) rfl rfl rfl rfl (hu 64 (by decide))) rfl T.n_set boot_set' (pa_cons (pe_op op_cat (pe_lc2 (own := [("piece", 4), ("pin", 6)]) (vs1 := [6]) rfl nd (pi_listK (K := K) rfl (pv 3)) (blkOk_by (N := N_pieces_of) (sc := defScope s_pieces_of) (by decide +kernel)) (by decide) (fun _ _ _ _ _ => (pg_name (i := 4) nd rfl (Or.inl rfl))) (fun _ _ _ _ _ => pts_nil) (fun _ _ _ _ _ => (pi_listK (K := K) rfl (pv 4))) (fun _ _ _ _ _ => (pg_name (i := 6) nd rfl (Or.inl rfl))) (fun _ _ _ _ _ => pts_nil) (fun _ _ _ _ _ => (pv 6))) (pe_callTy (listK (K := K) rfl) rfl T.n_list boot_list' (pa_cons (pv 2) pa_nil))) pa_nil)) pa_nil)))
      (pss_one (ps_set (i := 1) nd rfl (Or.inl rfl) (pe_op op_cat (pe_lc (own := [("piece", 4)]) rfl nd (pi_listK (K := K) rfl (pv 1)) (blkOk_by (N := N_pieces_of) (sc := defScope s_pieces_of) (by decide +kernel)) (fun _ _ _ _ _ => (pg_name (i := 4) nd rfl (Or.inl rfl))) (fun _ _ _ _ _ => (pts_one (pt_cmpR (niDK (K := K) rfl (hu 65 (by decide))) (pv 4) (pv 3) (by with_unfolding_all rfl)))) (fun _ _ _ _ _ => (pv 4))) (pe_lst (pa_cons (pv 5) pa_nil))))))))
      (pss_one (ps_ret (pe_callB (sortDK (K := K) rfl (hu 64 (by decide))) rfl T.n_sorted boot_sorted' (pa_cons (pe_lc (own := [("piece", 4)]) rfl nd (pi_listK (K := K) rfl (pv 1)) (blkOk_by (N := N_pieces_of) (sc := defScope s_pieces_of) (by decide +kernel)) (fun _ _ _ _ _ => (pg_name (i := 4) nd rfl (Or.inl rfl))) (fun _ _ _ _ _ => pts_nil) (fun _ _ _ _ _ => (pe_callTy (tupK (K := K) rfl) rfl T.n_tuple boot_tuple' (pa_cons (pv 4) pa_nil)))) pa_nil)))))), ?_⟩
  cases hΦ with
  | mk b ok =>
    obtain ⟨v0, rfl, h0⟩ := one_arg hA
    have few := ok.few
    refine q_set (ev_lstM (R := oPc K) (xs := []) ea_nil rfl (by decide)) fun v1 W1 e1 r1 => ?_
    have h0 := Rl.mv _ e1.g h0
    refine q_for (src_way (ev_switches T (ev_var rfl h0))) (fun i σ' W' => ∃ (vf : V) (x2 x3 x4 x5 x6 : Option V), σ' = [some v0, some vf, x2, x3, x4, x5, x6] ∧ Gr W W' ∧ (oM (oPc K) (piecesL (b.sw.take i))).is vf W'.g) ?_ ?_ ?_
    · exact fun W2 e2 => ⟨v1, none, none, none, none, none, rfl, e1.trans e2, Rl.mv _ e2.g r1⟩
    · rintro i s σ' W' W2 v D' hx ⟨vf, x2, x3, x4, x5, x6, rfl, eW, rf⟩ e2 hg rv kn
      have hi : i < b.sw.length := (List.getElem?_eq_some_iff.mp hx).1
      have rf := Rl.mv _ e2.g rf
      generalize hf : piecesL (b.sw.take i) = f at rf
      have hfl : f.length ≤ 20 := by
        rw [← hf]
        exact Nat.le_trans (pieces_len _ i (by omega)) (by omega)
      have hff : (f.flatMap fun p => p).length ≤ 40 := by
        rw [← hf]
        exact Nat.le_trans (pieces_flat _ i (by omega)) (by omega)
      show tSeq _ _ D' _ W2.h
      refine q_set (ev_lcF (xs := f) (hits s) (oPc K) (src_list (ev_var rfl (oM_L rf))) (by omega) (fun _ => rfl) fun p hp W3 v' e3 r3 => ⟨eb_or (a := decide (s.1 ∈ p)) (b := decide (s.2 ∈ p)) (eb_test (Ev.val (ev_inL (ev_fst (ev_var (R := oX K s) rfl (Rl.mv _ e3.g rv)) ev_c) (ev_var rfl (oM_L r3)) isX_X) dec_eq)) fun _ => eb_test (Ev.val (ev_inL (ev_snd (ev_var (R := oX K s) rfl (Rl.mv _ e3.g rv)) ev_c) (ev_var rfl (oM_L r3)) isX_X) dec_eq), fun _ => ev_var rfl r3⟩) fun vm W3 e3 rm => ?_
      have rf := Rl.mv _ e3.g rf
      have rv := Rl.mv _ e3.g rv
      have hm1 := flat_split (hits s) f
      have hm2 := List.length_filter_le (hits s) f
      refine q_set (ev_srtS (α := Pin) (R := fun p => oX K p) (xs := (f.filter (hits s)).flatMap (fun p => p) ++ pins s) (ea_cons (ev_set (K := K) (R := fun p : Pin => oX K p) (ea_cons (ev_L (ev_cat (S := fun p : Pin => oX K p) (xs := (f.filter (hits s)).flatMap (fun p => p)) (ys := pins s) (Ev.imp (ev_lc2A (xs := f.filter (hits s)) (S := oPc K) (fun p => p) (fun _ q => q) (fun _ q => oX K q) (fun q : Pin => oX K q) (src_list (ev_var rfl (oM_L rm))) ?_ (fun _ => rfl) (fun _ _ => rfl) fun p hp W4 v' e4 r4 => ⟨src_list (ev_var rfl (oM_L r4)), fun q hq W5 u e5 r5 r5' => ev_var rfl r5'⟩) ?_) (ev_lstT (ea_cons (ev_imp (ev_var rfl rv) fun _ _ => sw_T) ea_nil)) ?_)) ea_nil) (fun _ _ _ h => h) fun ks hks => few_of_len ?_) ea_nil) (fun _ _ _ h => h) fun q hq => ?_) fun vg W4 e4 rg => ?_
      · simp only [List.map_id']
        omega
      · intro v' W4 e4 h
        simp only [List.map_id'] at h
        exact h
      · have h3 : (pins s).length = 2 := rfl
        omega
      · have := congrArg List.length hks
        rw [List.length_map, List.length_map, List.length_append] at this
        have h3 : (pins s).length = 2 := rfl
        omega
      · exact fun h => by cases h
      · have rf := Rl.mv _ e4.g rf
        have rm := Rl.mv _ e4.g rm
        refine s_set (ev_cat (S := oPc K) (xs := f.filter fun p => !hits s p) (ys := [srtS ((f.filter (hits s)).flatMap (fun p => p) ++ pins s)]) (ev_lcF (xs := f) (fun p => !hits s p) (oPc K) (src_list (ev_var rfl (oM_L rf))) (by omega) (fun _ => rfl) fun p hp W5 v' e5 r5 => ⟨eb_test (Ev.val (ev_niL (α := Ls Pin) (x := ⟨p⟩) (xs := (f.filter (hits s)).map Ls.mk) (S := fun l => oPc K l.items) (ev_var rfl (isX_Pc ⟨p⟩ _ _ r5)) (ev_var rfl ((oL_map Ls.mk).mpr (oM_L (Rl.mv _ e5.g rm)))) isX_Pc) ?_), fun _ => ev_var rfl r5⟩) (ev_lstM (ea_cons (ev_var (R := oPc K (srtS ((f.filter (hits s)).flatMap (fun p => p) ++ pins s))) rfl rg) ea_nil) rfl (show 1 ≤ 1000000 by decide)) ?_) fun vf' W5 e5 r5 => ?_
        · refine congrArg V.bl (congrArg not ?_)
          cases h : hits s p with
          | true => exact dec_t (List.mem_map.mpr ⟨p, (met_mem f _ hp).mpr h, rfl⟩)
          | false =>
            refine dec_f fun z => ?_
            obtain ⟨q, hq, e⟩ := List.mem_map.mp z
            cases e
            exact absurd ((met_mem f _ hp).mp hq) (by rw [h]; decide)
        · have := List.length_filter_le (fun p => !hits s p) f
          rw [List.length_singleton]
          omega
        · refine kn _ _ (((e2.g.trans e3.g).trans e4.g).trans e5.g) ⟨vf', some v, some vm, x4, some vg, x6, rfl, (((eW.trans e2).trans e3).trans e4).trans e5, ?_⟩
          rw [piecesL_take hx, hf]
          exact r5
    · rintro σ' W' hg ⟨vf, x2, x3, x4, x5, x6, rfl, eW, rf⟩
      rw [List.take_length] at rf
      have hl : (piecesL b.sw).length ≤ 20 := by
        have := pieces_len b.sw b.sw.length (Nat.le_refl _)
        rw [List.take_length] at this
        omega
      have hne : ∀ p ∈ piecesL b.sw, p ≠ [] := by
        have := pieces_ne b.sw b.sw.length (Nat.le_refl _)
        rw [List.take_length] at this
        exact this
      exact s_ret (ev_sort (α := List Pin) (K := K) (ea_cons (ev_L (ev_lcA (xs := piecesL b.sw) (fun p : List Pin => oX K p) (src_list (ev_var rfl (oM_L rf))) (by omega) (fun _ => rfl) fun p hp W1 v e r => ev_imp (ev_tupL (K := K) (ea_cons (ev_var rfl (oM_L r)) ea_nil)) fun v H h => T_way (oU_T h))) ea_nil) isX_X (srt_ne hne)) fun v W2 e2 r => k v W2 (eW.trans e2) r
end Bx

set_option Elab.async false
set_option linter.all false
set_option maxRecDepth 100000
set_option maxHeartbeats 4000000
set_option autoImplicit false
namespace Bx
open PySem L2 StX RZ
/-! ### ways: sublists without a shared pin -/
def oWB (K : PySem.W.Frag) (q : List Sw × Nat) : Rl := oU id [oX K q.1, oK q.2]
theorem isX_WB {K : PySem.W.Frag} : isX K (oWB K) := fun q v H h => by
  obtain ⟨a, vs, rfl, h2, h3⟩ := h
  obtain ⟨x, y, rfl, rx, ry⟩ := two_args h3
  have ry : y = .int (q.2 : Int) := ry
  subst ry
  exact .tup (SqT.of h2) (.cons rx (.cons (.int _) .nil))
structure Ways (sw : List Sw) (F : List (List Sw)) : Prop where
  ok : ∀ w ∈ F, w.Sublist sw ∧ Match w
  all : ∀ w, w.Sublist sw → Match w → w ∈ F
  few : F.length ≤ 1024
theorem pins_app (w : List Sw) (s : Sw) : (w ++ [s]).flatMap pins = w.flatMap pins ++ [s.1, s.2] := by
  rw [List.flatMap_append]
  rfl
theorem match_snoc {w : List Sw} {s : Sw} : Match (w ++ [s]) ↔ Match w ∧ s.1 ∉ w.flatMap pins ∧ s.2 ∉ w.flatMap pins ∧ s.1 ≠ s.2 := by
  unfold Match
  rw [pins_app, List.nodup_append]
  constructor
  · rintro ⟨h1, h2, h3⟩
    refine ⟨h1, fun z => h3 _ z _ List.mem_cons_self rfl, fun z => h3 _ z _ (List.mem_cons_of_mem _ List.mem_cons_self) rfl, fun e => ?_⟩
    rw [List.nodup_cons] at h2
    exact h2.1 (by rw [e]; exact List.mem_singleton_self _)
  · rintro ⟨h1, h2, h3, h4⟩
    refine ⟨h1, by simp [h4], fun a ha b hb e => ?_⟩
    subst e
    rw [List.mem_cons, List.mem_singleton] at hb
    rcases hb with rfl | rfl
    · exact h2 ha
    · exact h3 ha
theorem match_app {w r : List Sw} (h : Match (w ++ r)) : Match w := by
  unfold Match at h ⊢
  rw [List.flatMap_append] at h
  exact (List.nodup_append.mp h).1
theorem sub_flat {α β : Type} {f : α → List β} {r w : List α} (h : r.Sublist w) : (r.flatMap f).Sublist (w.flatMap f) := by
  induction h with
  | slnil => exact List.Sublist.refl _
  | cons a h ih =>
    rw [List.flatMap_cons]
    exact ih.trans (List.sublist_append_right _ _)
  | cons_cons a h ih =>
    rw [List.flatMap_cons, List.flatMap_cons]
    exact (List.Sublist.refl _).append ih
theorem match_sub {w r : List Sw} (h : Match w) (hs : r.Sublist w) : Match r := by
  unfold Match at h ⊢
  exact (sub_flat hs).nodup h
theorem sub_cons {s : Sw} {r : List Sw} : ∀ {l : List Sw}, (s :: r).Sublist l → ∃ i, l[i]? = some s ∧ r.Sublist (l.drop (i + 1))
  | [], h => by cases h
  | x :: l, h => by
    cases h with
    | cons _ h =>
      obtain ⟨i, h1, h2⟩ := sub_cons h
      exact ⟨i + 1, by rw [List.getElem?_cons_succ]; exact h1, h2⟩
    | cons_cons _ h => exact ⟨0, rfl, h⟩
/-- may the a-th come behind w -/
def cand (sw : List Sw) (w : List Sw) (a : Nat) : Bool := match sw[a]? with
  | some s => !decide (s.1 ∈ w.flatMap pins) && !decide (s.2 ∈ w.flatMap pins)
  | none => false
def kid (sw : List Sw) (w : List Sw) (a : Nat) : List Sw × Nat := (w ++ (sw[a]?).toList, a + 1)
def kids (sw : List Sw) (w : List Sw) (as : List Nat) : List (List Sw × Nat) := (as.filter (cand sw w)).map (kid sw w)
def wt (n : Nat) (L : List (List Sw × Nat)) : Nat := (L.map fun q => 2 ^ (n - q.2)).sum
theorem wt_app (n : Nat) (L M : List (List Sw × Nat)) : wt n (L ++ M) = wt n L + wt n M := by
  unfold wt
  rw [List.map_append, List.sum_append]
theorem wt_ge (n : Nat) : ∀ L : List (List Sw × Nat), L.length ≤ wt n L
  | [] => Nat.le_refl _
  | q :: L => by
    have ih := wt_ge n L
    have := Nat.one_le_two_pow (n := n - q.2)
    unfold wt at ih ⊢
    rw [List.map_cons, List.sum_cons, List.length_cons]
    generalize 2 ^ (n - q.2) = z at this ⊢
    omega
theorem wt_kids (n : Nat) (sw w : List Sw) : ∀ as : List Nat, wt n (kids sw w as) ≤ (as.map fun a => 2 ^ (n - (a + 1))).sum
  | [] => Nat.le_refl _
  | a :: as => by
    have ih := wt_kids n sw w as
    unfold kids at ih ⊢
    rw [List.map_cons, List.sum_cons]
    cases h : cand sw w a with
    | true =>
      rw [List.filter_cons_of_pos h, List.map_cons]
      unfold wt at ih ⊢
      rw [List.map_cons, List.sum_cons]
      show 2 ^ (n - (a + 1)) + _ ≤ _
      omega
    | false =>
      rw [List.filter_cons_of_neg (by rw [h]; decide)]
      exact Nat.le_trans ih (Nat.le_add_left _ _)
theorem pow_rng (n : Nat) : ∀ k b, b + k = n → ((List.range' b k).map fun a => 2 ^ (n - (a + 1))).sum + 1 = 2 ^ k
  | 0, b, _ => rfl
  | k + 1, b, h => by
    have ih := pow_rng n k (b + 1) (by omega)
    rw [List.range'_succ, List.map_cons, List.sum_cons, show n - (b + 1) = k by omega, Nat.pow_succ]
    omega
theorem al_split {α : Type} {R : α → Rl} {H : Hp} {x : α} {v : V} : ∀ {xs : List α} {vs : List V}, Al R (xs ++ [x]) (vs ++ [v]) H → Al R xs vs H ∧ (R x).is v H
  | [], [], h => ⟨trivial, h.1⟩
  | [], _ :: vs, h => by
    have := h.2
    cases vs with
    | nil => exact this.elim
    | cons _ _ => exact this.elim
  | _ :: xs, [], h => by
    have := h.2
    cases xs with
    | nil => exact this.elim
    | cons _ _ => exact this.elim
  | _ :: _, _ :: _, h => ⟨⟨h.1, (al_split h.2).1⟩, (al_split h.2).2⟩
/-- what the search keeps -/
structure Srch (sw : List Sw) (F : List (List Sw)) (L : List (List Sw × Nat)) : Prop where
  okF : ∀ w ∈ F, w.Sublist sw ∧ Match w
  okL : ∀ q ∈ L, q.1.Sublist (sw.take q.2) ∧ Match q.1 ∧ q.2 ≤ sw.length
  all : ∀ M, M.Sublist sw → Match M → M ∈ F ∨ ∃ q ∈ L, ∃ r, M = q.1 ++ r ∧ r.Sublist (sw.drop q.2)
  few : F.length + wt sw.length L ≤ 2 ^ sw.length
theorem srch_start (sw : List Sw) : Srch sw [] [([], 0)] := by
  refine ⟨fun w h => absurd h List.not_mem_nil, fun q h => ?_, fun M h hm => .inr ⟨([], 0), List.mem_cons_self, M, rfl, h⟩, ?_⟩
  · rw [List.mem_singleton] at h
    subst h
    exact ⟨List.nil_sublist _, List.nodup_nil, Nat.zero_le _⟩
  · show 0 + (2 ^ (sw.length - 0) + 0) ≤ _
    rw [Nat.sub_zero]
    omega
theorem srch_turn {sw : List Sw} {F : List (List Sw)} {L : List (List Sw × Nat)} {w : List Sw} {b : Nat} (hne : ∀ s ∈ sw, s.1 ≠ s.2) (h : Srch sw F (L ++ [(w, b)])) :
    Srch sw (F ++ [w]) (L ++ kids sw w (List.range' b (sw.length - b))) ∧ wt sw.length (L ++ kids sw w (List.range' b (sw.length - b))) < wt sw.length (L ++ [(w, b)]) := by
  obtain ⟨hw1, hw2, hw3⟩ := h.okL (w, b) (List.mem_append_right _ (List.mem_singleton_self _))
  have hwt : wt sw.length (kids sw w (List.range' b (sw.length - b))) + 1 ≤ 2 ^ (sw.length - b) := by
    have h1 := wt_kids sw.length sw w (List.range' b (sw.length - b))
    have h2 := pow_rng sw.length (sw.length - b) b (by omega)
    omega
  have hone : wt sw.length [(w, b)] = 2 ^ (sw.length - b) := by
    show 2 ^ (sw.length - b) + 0 = _
    omega
  have mk : ∀ q, q ∈ kids sw w (List.range' b (sw.length - b)) ↔ ∃ a s, b ≤ a ∧ sw[a]? = some s ∧ s.1 ∉ w.flatMap pins ∧ s.2 ∉ w.flatMap pins ∧ q = (w ++ [s], a + 1) := by
    intro q
    unfold kids
    rw [List.mem_map]
    constructor
    · rintro ⟨a, ha, rfl⟩
      rw [List.mem_filter, List.mem_range'_1] at ha
      obtain ⟨⟨h1, h2⟩, h3⟩ := ha
      unfold cand at h3
      unfold kid
      cases e : sw[a]? with
      | none =>
        rw [e] at h3
        cases h3
      | some s =>
        rw [e] at h3
        simp only [Bool.and_eq_true, Bool.not_eq_true', decide_eq_false_iff_not] at h3
        exact ⟨a, s, h1, e, h3.1, h3.2, rfl⟩
    · rintro ⟨a, s, h1, h2, h3, h4, rfl⟩
      have hlt := (List.getElem?_eq_some_iff.mp h2).1
      refine ⟨a, List.mem_filter.mpr ⟨List.mem_range'_1.mpr ⟨h1, by omega⟩, ?_⟩, ?_⟩
      · unfold cand
        rw [h2]
        simp only [Bool.and_eq_true, Bool.not_eq_true', decide_eq_false_iff_not]
        exact ⟨h3, h4⟩
      · unfold kid
        rw [h2]
        rfl
  refine ⟨⟨fun v hv => ?_, fun q hq => ?_, fun M hM hm => ?_, ?_⟩, ?_⟩
  · rw [List.mem_append, List.mem_singleton] at hv
    rcases hv with hv | rfl
    · exact h.okF v hv
    · exact ⟨hw1.trans (List.take_sublist _ _), hw2⟩
  · rw [List.mem_append] at hq
    rcases hq with hq | hq
    · exact h.okL q (List.mem_append_left _ hq)
    · obtain ⟨a, s, h1, h2, h3, h4, rfl⟩ := (mk q).mp hq
      obtain ⟨hlt, e⟩ := List.getElem?_eq_some_iff.mp h2
      refine ⟨?_, match_snoc.mpr ⟨hw2, h3, h4, hne s (by rw [← e]; exact List.getElem_mem hlt)⟩, hlt⟩
      show (w ++ [s]).Sublist (sw.take (a + 1))
      rw [List.take_succ, h2]
      refine List.Sublist.append (hw1.trans ?_) (List.Sublist.refl _)
      have : sw.take b = (sw.take a).take b := by rw [List.take_take, Nat.min_eq_left h1]
      rw [this]
      exact List.take_sublist _ _
  · rcases h.all M hM hm with hF | ⟨q, hq, r, rfl, hr⟩
    · exact .inl (List.mem_append_left _ hF)
    · rw [List.mem_append, List.mem_singleton] at hq
      rcases hq with hq | rfl
      · exact .inr ⟨q, List.mem_append_left _ hq, r, rfl, hr⟩
      · cases r with
        | nil => exact .inl (List.mem_append_right _ (by rw [List.append_nil]; exact List.mem_singleton_self _))
        | cons s r =>
          obtain ⟨i, e1, e2⟩ := sub_cons hr
          rw [List.getElem?_drop] at e1
          rw [List.drop_drop] at e2
          have hms : Match (w ++ [s]) := by
            refine match_app (r := r) ?_
            rw [List.append_assoc]
            exact hm
          obtain ⟨_, m1, m2, _⟩ := match_snoc.mp hms
          refine .inr ⟨(w ++ [s], b + i + 1), List.mem_append_right _ ((mk _).mpr ⟨b + i, s, by omega, e1, m1, m2, rfl⟩), r, by simp, ?_⟩
          show r.Sublist (sw.drop (b + i + 1))
          rw [show b + i + 1 = b + (i + 1) by omega]
          exact e2
  · have hf := h.few
    rw [wt_app, hone] at hf
    rw [wt_app, List.length_append, List.length_singleton]
    omega
  · rw [wt_app, wt_app, hone]
    omega
theorem srch_end {sw : List Sw} {F : List (List Sw)} (h : Srch sw F []) (hn : sw.length ≤ 10) : Ways sw F := by
  refine ⟨h.okF, fun w hw hm => (h.all w hw hm).elim id fun ⟨q, hq, _⟩ => absurd hq List.not_mem_nil, ?_⟩
  have h1 := h.few
  have h2 : 2 ^ sw.length ≤ 2 ^ 10 := Nat.pow_le_pow_right (by decide) hn
  have h3 : (2 : Nat) ^ 10 = 1024 := by decide
  omega
abbrev s_ways_in : Stmt := top 46
abbrev N_ways_in : List Str := ["switches", "found", "left", "way", "begin", "taken", "at"]
theorem sc_ways_in : FnScope N_ways_in ["switches"] (defScope s_ways_in) := ⟨rfl, rfl, rfl, by decide +kernel, rfl, by decide +kernel, by decide +kernel⟩

inductive Φ_ways_in (K : PySem.W.Frag) (C : Addr) : List Rl → Rl → Prop
  | mk (sw : List Sw) (hne : ∀ s ∈ sw, s.1 ≠ s.2) (hn : sw.length ≤ 10) : Φ_ways_in K C [oL K (fun s : Sw => oX K s) sw] (oE (Ways sw) fun F => oM (fun w : List Sw => oX K w) F)
theorem ok_ways_in {P : Program} {w : World} {K : PySem.W.Frag} {mg : Str → Option Value} {base : Heap} {C : Addr} (T : Tx K mg C) (Dd : Df K mg "ways_in" "ways_in" s_ways_in ["switches"]) (h_pins_of : Ca P w K mg base 1 "pins_of" ["way"] ((spF (Φ_pins_of K C)))) :
    Ca P w K mg base 2 "ways_in" ["switches"] ((spF (Φ_ways_in K C))) := by
  refine ok_of Dd sc_ways_in (fun As R h => by cases h <;> rfl) (fun f cdv A outer s E W vs As R Q hr hΦ hA k => ?_)
  have hu := hu_any hr
  have nd := sc_ways_in.nd
  refine ⟨_, (pss_cons (ps_par (i := 1) (j := 2) rfl nd rfl rfl (by decide) rfl rfl (pa_cons (pe_lst pa_nil) (pa_cons (pe_lst (pa_cons (pe_tup (pa_cons (pe_tup pa_nil) (pa_cons pe_int pa_nil))) pa_nil)) pa_nil)) (by rfl))
      (pss_cons (ps_while PassesOwn.never (pt_cmpR (neDK (K := K) rfl (hu 64 (by decide))) (pv 2) (pe_lst pa_nil) (nomark _)) (pss_cons (ps_asg (pe_bm0K (K := K) rfl PySem.F.plainAttrs_list PySem.F.slot_list_pop PySem.F.type_list_pop mt_pop (pv 2)) (pg_tupK (K := K) (n := 2) rfl rfl (pgs_cons (pg_name (i := 3) nd rfl (Or.inl rfl)) (pgs_cons (pg_name (i := 4) nd rfl (Or.inl rfl)) pgs_nil))))
      (pss_cons (ps_expr (pe_bmK (K := K) rfl PySem.F.plainAttrs_list PySem.F.slot_list_append PySem.F.type_list_append mt_append (pv 1) (pa_cons (pv 3) pa_nil)))
      (pss_cons (ps_if (pt_cmpR op_gt (pe_callB (lenK (K := K) rfl) rfl T.n_len boot_len' (pa_cons (pv 1) pa_nil)) (pe_gc T.c_MOST_WAYS rfl) (nomark _)) pss_never pss_nil)
      (pss_cons (ps_set (i := 5) nd rfl (Or.inl rfl) (pe_ca h_pins_of hr rfl (pa_cons (pv 3) pa_nil)))
      (pss_one (ps_for PassesOwn.never rfl (pi_range2 rfl T.n_range (pa_cons (pv 4) (pa_cons (pe_callB (lenK (K := K) rfl) rfl T.n_len boot_len' (pa_cons (pv 0) pa_nil)) pa_nil))) (pg_name (i := 6) nd rfl (Or.inl rfl)) (pss_one (ps_if (pt_andW (pt_cmpR (niDK (K := K) rfl (hu 65 (by decide))) (pe_ix (ixT (K := K) rfl) (pe_ix (ixL (K := K) rfl) (pv 0) (pv 6) (fun _ _ => rfl)) pe_int (fun _ _ => rfl)) (pv 5) (by with_unfolding_all rfl)) (pw_and1 (pt_cmpR (niDK (K := K) rfl (hu 65 (by decide))) (pe_ix (ixT (K := K) rfl) (pe_ix (ixL (K := K) rfl) (pv 0) (pv 6) (fun _ _ => rfl)) pe_int (fun _ _ => rfl)) (pv 5) (by with_unfolding_all rfl)))) (pss_one (ps_expr (pe_bmK (K := K) rfl PySem.F.plainAttrs_list PySem.F.slot_list_append PySem.F.type_list_append mt_append (pv 2) (pa_cons (pe_tup (pa_cons (pe_tup (pa_starK (K := K) rfl (pv 3) (pa_cons (pe_ix (ixL (K := K) rfl) (pv 0) (pv 6) (fun _ _ => rfl)) pa_nil))) (pa_cons (pe_op op_add (pv 6) pe_int) pa_nil))) pa_nil)))) pss_nil)))))))))
      (pss_one (ps_ret (pv 1))))), ?_⟩
  cases hΦ with
  | mk sw hne hn =>
    obtain ⟨v0, rfl, h0⟩ := one_arg hA
    refine q_parnn (S := fun w : List Sw => oX K w) (xs := []) (T := oWB K) (ys := [([], 0)]) evn_nil (evn_lst (ea_cons (ev_tup (ea_cons (ev_imp (ev_tupM (R := fun s : Sw => oX K s) (xs := []) ea_nil rfl (by decide)) fun v H h => T_way (oU_T h)) (ea_cons (ev_c (v := .int ((0 : Nat) : Int))) ea_nil)) (show 2 ≤ 1000000 by decide)) ea_nil) rfl (show 1 ≤ 1000000 by decide)) fun p q W1 acc acc' f1 f2 hpq r1 r2 => ?_
    have h2n : 2 ^ sw.length ≤ 1024 := by
      have h2 : 2 ^ sw.length ≤ 2 ^ 10 := Nat.pow_le_pow_right (by decide) hn
      have h3 : (2 : Nat) ^ 10 = 1024 := by decide
      omega
    refine q_while (fun m σ' W' => ∃ (F : List (List Sw)) (L : List (List Sw × Nat)) (aF aL : List V) (x3 x4 x5 x6 : Option V), σ' = [some v0, some (.ref p), some (.ref q), x3, x4, x5, x6] ∧ Fl W W' p aF ∧ Fl W W' q aL ∧ Al (fun w : List Sw => oX K w) F aF W'.g ∧ Al (oWB K) L aL W'.g ∧ Srch sw F L ∧ m = wt sw.length L)
      (wt sw.length [([], 0)]) ⟨[], [([], 0)], acc, acc', none, none, none, none, rfl, f1, f2, r1, r2, srch_start sw, rfl⟩ ?_
    rintro m σ' W' ⟨F, L, aF, aL, x3, x4, x5, x6, rfl, fF, fL, rF, rL, hS, rfl⟩
    refine ⟨!decide (L = []), hid_ne rfl fL rL isX_WB, fun hb W2 D' e2 kn => ?_, fun hb W2 e2 => ?_⟩
    · have hL : L ≠ [] := fun e => by
        rw [e] at hb
        exact absurd hb (by simp)
      obtain ⟨⟨w, b⟩, hlast⟩ : ∃ x, L = L.dropLast ++ [x] := ⟨L.getLast hL, (List.dropLast_concat_getLast hL).symm⟩
      generalize L.dropLast = L0 at hlast
      subst hlast
      have fF := fF.up e2
      have fL := fL.up e2
      have rF := rF.up e2.g
      have rL := rL.up e2.g
      have h0 : (oL K (fun s : Sw => oX K s) sw).is v0 W2.g := Rl.mv _ (fF.gr.g) h0
      obtain ⟨aL0, y, rfl, rL0, ry⟩ : ∃ aL0 y, aL = aL0 ++ [y] ∧ Al (oWB K) L0 aL0 W2.g ∧ (oWB K (w, b)).is y W2.g := by
        have hl := rL.len
        have hne' : aL ≠ [] := fun e => by rw [e] at hl; simp at hl
        refine ⟨aL.dropLast, aL.getLast hne', (List.dropLast_concat_getLast hne').symm, ?_⟩
        have := rL
        rw [← List.dropLast_concat_getLast hne'] at this
        exact al_split this
      have hwb := hS.okL (w, b) (List.mem_append_right _ (List.mem_singleton_self _))
      have hwl : w.length ≤ 10 := Nat.le_trans (hwb.1.trans (List.take_sublist _ _)).length_le hn
      obtain ⟨hS', hlt⟩ := srch_turn hne hS
      show tBM0 K "list" rPop (tVar 2) _ W2.h _
      refine v_pop rfl fL ?_
      have fL3 := fL.to aL0
      have fF3 := fF.other hpq (o := .lst aL0) fL.hid fL.new
      have ry3 : (oU id [oX K w, oK b]).is y (W2.own q (.lst aL0) fL.hid).g := ry
      have rL03 : Al (oWB K) L0 aL0 (W2.own q (.lst aL0) fL.hid).g := rL0
      have rF3 : Al (fun w : List Sw => oX K w) F aF (W2.own q (.lst aL0) fL.hid).g := rF
      have h03 : (oL K (fun s : Sw => oX K s) sw).is v0 (W2.own q (.lst aL0) fL.hid).g := h0
      clear rL0 ry rF h0
      generalize W2.own q (.lst aL0) fL.hid = W3 at fL3 fF3 ry3 rL03 rF3 h03
      refine g_names (A := oX K w) (B := oK b) (oU_T ry3) fun y1 y2 ry1 ry2 => ?_
      show tSeq _ _ D' _ W3.h
      refine q_append rfl fF3 (ev_var (R := oX K w) rfl ry1) (by rw [rF3.len]; have := hS.few; omega) fun v W4 e4 f4 r4 => ?_
      have fF5 := f4.to (aF ++ [v])
      have fL5 := (fL3.up e4).other (Ne.symm hpq) (o := .lst (aF ++ [v])) f4.hid f4.new
      have rF5 : Al (fun w : List Sw => oX K w) (F ++ [w]) (aF ++ [v]) (W4.own p (.lst (aF ++ [v])) f4.hid).g := (rF3.up e4.g).snoc r4
      have rL5 : Al (oWB K) L0 aL0 (W4.own p (.lst (aF ++ [v])) f4.hid).g := rL03.up e4.g
      have h05 : (oL K (fun s : Sw => oX K s) sw).is v0 (W4.own p (.lst (aF ++ [v])) f4.hid).g := Rl.mv _ e4.g h03
      have hw5 : (oX K w).is y1 (W4.own p (.lst (aF ++ [v])) f4.hid).g := Rl.mv _ e4.g ry1
      generalize W4.own p (.lst (aF ++ [v])) f4.hid = W5 at fF5 fL5 rF5 rL5 h05 hw5
      have hfew := hS'.few
      rw [List.length_append, List.length_singleton] at hfew
      refine q_not (eb_test (Ev.val (ev_i0 (hid_len rfl fF5) ev_c) ?_)) fun W6 e6 => ?_
      · refine congrArg V.bl (dec_f ?_)
        have := rF5.len
        simp only [List.length_append, List.length_singleton] at this ⊢
        omega
      have fF6 := fF5.up e6
      have fL6 := fL5.up e6
      have rF6 := rF5.up e6.g
      have rL6 := rL5.up e6.g
      have h06 := Rl.mv _ e6.g h05
      have hw6 := Rl.mv _ e6.g hw5
      refine q_set (ev_call (ea_cons (ev_var rfl hw6) ea_nil) (Φ_pins_of.mk w (by omega))) fun vt W7 e7 rt => ?_
      have h07 := Rl.mv _ e7.g h06
      have hw7 := Rl.mv _ e7.g hw6
      have hb7 : (oK b).is y2 W7.g := ry2
      refine s_for (xs := List.range' b (sw.length - b)) (S := oK) (src_rng2 (ea_cons (ev_var rfl hb7) (ea_cons (ev_lenL (ea_cons (ev_var rfl h07) ea_nil)) ea_nil)) (by have := hwb.2.2; omega) (by omega))
        (fun i σ' W' => ∃ (aL' : List V) (x6 : Option V), σ' = [some v0, some (.ref p), some (.ref q), some y1, some y2, some vt, x6] ∧ Same W7.g W'.g ∧ Fl W W' p (aF ++ [v]) ∧ Fl W W' q aL' ∧ Al (oWB K) (L0 ++ kids sw w ((List.range' b (sw.length - b)).take i)) aL' W'.g) ?_ ?_ ?_
      · refine fun W8 e8 => ⟨aL0, x6, rfl, e8.g, (fF6.up e7).up e8, (fL6.up e7).up e8, ?_⟩
        rw [List.take_zero]
        show Al (oWB K) (L0 ++ []) aL0 W8.g
        rw [List.append_nil]
        exact rL6.up (e7.trans e8).g
      · rintro i a σ' W8 W9 va D9 hx ⟨aL', x6, rfl, g8, fF8, fL8, rL8⟩ e9 hg ra kn9
        have ha := List.mem_range'_1.mp (List.mem_of_getElem? hx)
        have hal : a < sw.length := by omega
        have hsa : sw[a]? = some sw[a] := List.getElem?_eq_getElem hal
        have g79 : Same W7.g W9.g := g8.trans e9.g
        have h09 := Rl.mv _ g79 h07
        have hw9 := Rl.mv _ g79 hw7
        have rt9 := Rl.mv _ g79 rt
        have hcand : cand sw w a = (!decide (sw[a].1 ∈ w.flatMap pins) && !decide (sw[a].2 ∈ w.flatMap pins)) := by
          unfold cand
          rw [hsa]
        have htk : kids sw w ((List.range' b (sw.length - b)).take (i + 1)) = kids sw w ((List.range' b (sw.length - b)).take i) ++ (if cand sw w a = true then [kid sw w a] else []) := by
          unfold kids
          rw [List.take_succ, hx, List.filter_append, List.map_append]
          show _ ++ List.map (kid sw w) (List.filter (cand sw w) [a]) = _
          cases hc : cand sw w a with
          | true => rw [List.filter_cons_of_pos hc]; rfl
          | false => rw [List.filter_cons_of_neg (by rw [hc]; decide)]; rfl
        show tIfS _ _ _ D9 _ W9.h
        refine s_if (b := cand sw w a) (Eb.is (eb_and (a := !decide (sw[a].1 ∈ w.flatMap pins)) (b := !decide (sw[a].2 ∈ w.flatMap pins)) (eb_test (Ev.val (ev_niL (ev_fst (ev_ixL (x := sw[a]) (ev_var rfl h09) (ev_var rfl ra) (atN hsa)) ev_c) (ev_var rfl (oM_L rt9)) isX_X) dec_ne)) fun _ => eb_test (Ev.val (ev_niL (ev_snd (ev_ixL (x := sw[a]) (ev_var rfl h09) (ev_var rfl ra) (atN hsa)) ev_c) (ev_var rfl (oM_L rt9)) isX_X) dec_ne)) hcand.symm) (fun hc W10 e10 => ?_) fun hc W10 e10 => ?_
        · have rL10 := rL8.up (e9.trans e10).g
          have hlen := rL10.len
          rw [List.length_append] at hlen
          have hk : (kids sw w ((List.range' b (sw.length - b)).take i)).length ≤ 10 := by
            unfold kids
            rw [List.length_map]
            refine Nat.le_trans (List.length_filter_le _ _) ?_
            rw [List.length_take, List.length_range']
            omega
          have hL0 : L0.length ≤ 1024 := by
            have := wt_ge sw.length L0
            have hf := hS.few
            rw [wt_app] at hf
            omega
          refine s_append rfl ((fL8.up e9).up e10) (R := oWB K (kid sw w a)) (ev_imp (ev_tup (ea_cons (ev_imp (ev_tupM (R := fun s : Sw => oX K s) (xs := w ++ [sw[a]]) (ea_starW (ev_var rfl (Rl.mv _ e10.g hw9)) (ea_cons (ev_ixL (x := sw[a]) (ev_var rfl (Rl.mv _ e10.g h09)) (ev_var rfl ra) (atN hsa)) ea_nil)) (by rw [List.map_append]; rfl) (by rw [List.length_append, List.length_singleton]; omega)) fun v H h => T_way (oU_T h)) (ea_cons (ev_i0 (i := (a : Int)) (j := 1) (ev_var rfl ra) ev_c) ea_nil)) (show 2 ≤ 1000000 by decide)) ?_) (by omega) fun z W11 e11 f11 r11 => ?_
          · intro v H h
            unfold oWB kid
            rw [hsa]
            exact h
          · refine kn9 _ (W11.own q (.lst (aL' ++ [z])) f11.hid) ((e9.g.trans e10.g).trans e11.g) ⟨aL' ++ [z], some va, rfl, (g79.trans e10.g).trans e11.g, (((fF8.up e9).up e10).up e11).other hpq f11.hid f11.new, f11.to _, ?_⟩
            rw [htk, if_pos hc, ← List.append_assoc]
            exact (rL10.up e11.g).snoc r11
        · refine kn9 _ W10 (e9.g.trans e10.g) ⟨aL', some va, rfl, g79.trans e10.g, (fF8.up e9).up e10, (fL8.up e9).up e10, ?_⟩
          rw [htk, hc, if_neg (by decide), List.append_nil]
          exact rL8.up (e9.trans e10).g
      · rintro σ' W8 hg ⟨aL', x6, rfl, g8, fF8, fL8, rL8⟩
        rw [show (List.range' b (sw.length - b)).take (List.range' b (sw.length - b)).length = List.range' b (sw.length - b) from List.take_length] at rL8
        exact kn _ _ W8 hlt ⟨F ++ [w], _, aF ++ [v], aL', _, _, _, _, rfl, fF8, fL8, (rF6.up e7.g).up g8, rL8, hS', rfl⟩
    · have hL : L = [] := by
        cases hd : decide (L = []) with
        | true => exact of_decide_eq_true hd
        | false => rw [hd] at hb; cases hb
      subst hL
      have fF := fF.up e2
      have rF := rF.up e2.g
      show tRet _ _ _ (W2.fix p (.lst aF) fF.at_).h
      exact s_ret (ev_var (R := oE (Ways sw) fun F => oM (fun w : List Sw => oX K w) F) rfl ⟨F, srch_end hS hn, fF.got rF⟩) fun v W3 e3 r => k v W3 (fF.fix.trans e3) r
end Bx

set_option Elab.async false
set_option linter.all false
set_option maxRecDepth 100000
set_option maxHeartbeats 4000000
set_option autoImplicit false
namespace Bx
open PySem L2 StX RZ
/-! ### tables: loads to ways -/
def keyOf (l : List Nat) : List Key := l.map fun n : Nat => (Sum.inl (n : Int) : Key)
theorem keyOf_kV (l : List Nat) : (keyOf l).map kV = l.map fun n : Nat => V.int (n : Int) := by
  unfold keyOf
  rw [List.map_map]
  rfl
theorem keyOf_inj {l m : List Nat} (h : keyOf l = keyOf m) : l = m := (List.map_inj_right fun a b h => by
  have : (a : Int) = (b : Int) := Sum.inl.inj h
  omega).mp h
abbrev Tab := List (List Nat × List Sw)
/-- a hidden thing -/
structure Fh (W0 W : Hw) (D : Addr) (o : HO) : Prop where
  gr : Gr W0 W
  new : W0.h D = none
  at_ : W.h D = some o
  hid : W.g D = none
theorem Fh.up {W0 W W2 : Hw} {D : Addr} {o : HO} (f : Fh W0 W D o) (ho : ∀ xs, o ≠ .tup xs) (e : Gr W W2) : Fh W0 W2 D o := ⟨f.gr.trans e, f.new, e.h _ _ f.at_, e.hid D ⟨_, f.at_, ho⟩ f.hid⟩
theorem Fh.to {W0 W : Hw} {D : Addr} {o : HO} (f : Fh W0 W D o) (o' : HO) : Fh W0 (W.own D o' f.hid) D o' := ⟨f.gr.mut f.new f.hid, f.new, upd_same, f.hid⟩
theorem Fh.start {W : Hw} {p : Addr} {o : HO} (hp : W.h p = none) : Fh W (W.own p o (Hw.free hp)) p o := ⟨gr_own hp, hp, upd_same, Hw.free (W := W) hp⟩
theorem Fh.back {W0 W1 W : Hw} {D : Addr} {o : HO} (e : Gr W0 W1) (f : Fh W1 W D o) : Fh W0 W D o := ⟨e.trans f.gr, e.h.free f.new, f.at_, f.hid⟩
theorem dT_ne {kvs : List (List Key × V)} : ∀ xs, HO.dT kvs ≠ .tup xs := fun _ z => nomatch z
/-- what stands in a dict -/
structure Tbl (K : PySem.W.Frag) (tab : Tab) (kvs : List (List Key × V)) (H : Hp) : Prop where
  keys : kvs.map (·.1) = tab.map fun e => keyOf e.1
  vals : Al (fun e : List Nat × List Sw => oX K e.2) tab (kvs.map (·.2)) H
theorem Tbl.up {K : PySem.W.Frag} {tab : Tab} {kvs : List (List Key × V)} {H H' : Hp} (e : Same H H') (h : Tbl K tab kvs H) : Tbl K tab kvs H' := ⟨h.keys, h.vals.up e⟩
def oTb (K : PySem.W.Frag) (tab : Tab) : Rl := ⟨fun v H => ∃ d od kvs, v = .ref d ∧ H d = some (.frz od (.dT kvs)) ∧ Tbl K tab kvs H, fun e ⟨d, od, kvs, h1, h2, h3⟩ => ⟨d, od, kvs, h1, e _ _ h2, h3.up e⟩⟩
section
variable {K : PySem.W.Frag} {tab : Tab} {kvs : List (List Key × V)} {H : Hp} {l : List Nat}
theorem Tbl.snoc {w : List Sw} {z : V} (h : Tbl K tab kvs H) (r : (oX K w).is z H) : Tbl K (tab ++ [(l, w)]) (kvs ++ [(keyOf l, z)]) H := by
  refine ⟨by rw [List.map_append, List.map_append, h.keys]; rfl, ?_⟩
  rw [List.map_append]
  exact Al.snoc (R := fun e : List Nat × List Sw => oX K e.2) h.vals r
theorem Tbl.none_iff (h : Tbl K tab kvs H) : valV kvs (keyOf l) = none → l ∉ tab.map (·.1) := fun e z => by
  have := valV_not e
  rw [h.keys] at this
  obtain ⟨x, hx, rfl⟩ := List.mem_map.mp z
  exact this (List.mem_map.mpr ⟨x, hx, rfl⟩)
theorem Tbl.some_mem {v : V} (h : Tbl K tab kvs H) (e : valV kvs (keyOf l) = some v) : l ∈ tab.map (·.1) := by
  have := valV_in e
  rw [h.keys] at this
  obtain ⟨x, hx, e⟩ := List.mem_map.mp this
  rw [← keyOf_inj e]
  exact List.mem_map_of_mem hx
theorem Tbl.get : ∀ {tab : Tab} {kvs : List (List Key × V)}, Tbl K tab kvs H → l ∈ tab.map (·.1) → ∃ v w, valV kvs (keyOf l) = some v ∧ (l, w) ∈ tab ∧ (oX K w).is v H
  | [], _, _, hl => absurd hl List.not_mem_nil
  | e :: tab, [], h, _ => by
    have := h.keys
    cases this
  | e :: tab, (k, v) :: kvs, h, hl => by
    have hk := h.keys
    rw [List.map_cons, List.map_cons, List.cons.injEq] at hk
    have hk1 : k = keyOf e.1 := hk.1
    by_cases c : e.1 = l
    · subst c
      exact ⟨v, e.2, valV_pos hk1, List.mem_cons_self, h.vals.1⟩
    · have hl' : l ∈ tab.map (·.1) := (List.mem_cons.mp hl).resolve_left fun z => c z.symm
      obtain ⟨v', w', h1, h2, h3⟩ := Tbl.get (tab := tab) (kvs := kvs) ⟨hk.2, h.vals.2⟩ hl'
      exact ⟨v', w', by rw [valV_neg (fun z => c (keyOf_inj (hk1.symm.trans z)))]; exact h1, List.mem_cons_of_mem _ h2, h3⟩
end
section
variable {K : PySem.W.Frag} {σ : Sl} {W W' W0 : Hw} {A B C R : Rl} {ta tb tc te : TE} {D : Ends} {u : TS} {i j : Nat} {d : Addr} {kvs : List (List Key × V)} {l : List Nat} {z : V} {tab : Tab}
theorem ld_ref {y : V} {H : Hp} (h : (oLd l).is y H) : ∃ b, y = .ref b ∧ H b = some (.tup (l.map fun n : Nat => V.int (n : Int))) := by
  obtain ⟨b, vs, rfl, h2, h3⟩ := h
  have := Al.vals (f := fun n : Nat => V.int (n : Int)) h3
  subst this
  exact ⟨b, rfl, h2⟩
theorem s_setd (hv : σ[i]? = some (some (.ref d))) (f : Fh W0 W d (.dT kvs)) (he : Ev te σ W (oLd l)) (hw : σ[j]? = some (some z)) (hl : kvs.length < 1000000)
    (k1 : ∀ W' v, Gr W W' → valV kvs (keyOf l) = some v → D.nx σ W'.h)
    (k2 : ∀ W', Gr W W' → ∀ f' : Fh W0 W' d (.dT kvs), valV kvs (keyOf l) = none → D.nx σ (W'.own d (.dT (kvs ++ [(keyOf l, z)])) f'.hid).h) : tDrop (tSetdT (tVar i) te (tVar j)) D σ W.h := by
  refine ⟨.ref d, hv, d, rfl, .inr ⟨kvs, .inl f.at_⟩, he W (Gr.refl W) _ fun y W2 e2 ry => ?_⟩
  obtain ⟨b, rfl, hb⟩ := ld_ref ry
  have f' := f.up dT_ne e2
  refine ⟨z, hw, kvs, keyOf l, b, f'.at_, rfl, by rw [keyOf_kV]; exact W2.le _ _ hb, small_lt (Nat.le_of_lt hl), fun v hv' => k1 W2 v e2 hv', fun hn => ?_⟩
  rw [putK_new _ hn]
  exact k2 W2 e2 f' hn
/-- the keys' own tuples, settled -/
theorem keys_fix : ∀ {bs : List Addr} {ks : List (List Key × V)} {ls : List (List Nat)} {W : Hw}, IsKeys W.h ks bs → ks.map (·.1) = ls.map keyOf → ∃ W', Gr W W' ∧ W'.h = W.h ∧ Al oLd ls (bs.map V.ref) W'.g
  | [], _, ls, W, h, e => by
    cases h
    cases ls with
    | nil => exact ⟨W, Gr.refl _, rfl, trivial⟩
    | cons _ _ => cases e
  | b :: bs, _, ls, W, h, e => by
    cases h with
    | cons h1 h2 =>
      cases ls with
      | nil => cases e
      | cons l ls =>
        rw [List.map_cons, List.map_cons, List.cons.injEq] at e
        rw [e.1, keyOf_kV] at h1
        have e1 := gr_tup h1
        obtain ⟨W2, e2, hh, hal⟩ := keys_fix (W := W.fix b _ h1) h2 e.2
        exact ⟨W2, e1.trans e2, hh, ⟨b, _, rfl, e2.g _ _ upd_same, Al.ofvals⟩, hal⟩
theorem ev_listD {ls : List (List Nat)} (hv : σ[i]? = some (some (.ref d))) (f : Fh W0 W d (.dT kvs)) (hk : kvs.map (·.1) = ls.map keyOf) : Ev (tCB rLstD (tCons (tVar i) tNil)) σ W (oM oLd ls) := fun W1 e1 Q q => by
  have f1 := f.up dT_ne e1
  refine ⟨.ref d, hv, d, kvs, rfl, .inl f1.at_, fun p bs hp hb => ?_⟩
  obtain ⟨W2, e2, hh, hal⟩ := keys_fix (W := W1) hb hk
  have hp2 : W2.h p = none := by
    rw [hh]
    exact hp
  have : upd W1.h p (.lst (bs.map V.ref)) = (W2.new p (.lst (bs.map V.ref))).h := by
    show _ = upd W2.h p _
    rw [hh]
  rw [this]
  exact q (.ref p) (W2.new p (.lst (bs.map V.ref))) (e2.trans (gr_new hp2)) ⟨p, _, rfl, upd_same, hal.up (same_new (Hw.free hp2))⟩
/-- walking a table -/
theorem src_keys {te : TE} (h : Ev te σ W (oTb K tab)) : Src (iKeys te) σ W (tab.map (·.1)) oLd := fun W1 e F f => h W1 e _ fun v W2 e2 ⟨d, od, kvs, hv, hd, ht⟩ => by
  have hl : kvs.length = (tab.map (·.1)).length := by
    have := congrArg List.length ht.keys
    rw [List.length_map, List.length_map] at this
    rw [List.length_map, this]
  refine ⟨d, od, hv, .inr ⟨kvs, W2.le _ _ hd, f _ W2 e2 ⟨fun i H' es hi => ⟨es _ _ hd, by omega⟩, fun H' es => ⟨es _ _ hd, by omega⟩, fun i x W3 v H'' es hx y => ?_⟩⟩⟩
  obtain ⟨rfl, k, u, q, hk, rfl, hq⟩ := y
  have ek : k = keyOf x := by
    have h1 : (kvs.map (·.1))[i]? = some k := by
      rw [List.getElem?_map, hk]
      rfl
    rw [ht.keys, show (tab.map fun e => keyOf e.1) = (tab.map (·.1)).map keyOf by rw [List.map_map]; rfl, List.getElem?_map, hx] at h1
    exact (Option.some.inj h1).symm
  rw [ek, keyOf_kV] at hq
  exact ⟨W3.fix q _ hq, gr_tup hq, rfl, q, _, rfl, upd_same, Al.ofvals⟩
/-- t[l] -/
theorem ev_tget (h1 : Ev ta σ W (oTb K tab)) (h2 : Ev tb σ W (oLd l)) (hl : l ∈ tab.map (·.1)) : Ev (tDGet ta tb) σ W (oE (fun w => (l, w) ∈ tab) fun w => oX K w) := fun W1 e1 Q q =>
  h1 W1 e1 _ fun x W2 e2 hx => h2 W2 (e1.trans e2) _ fun y W3 e3 hy => by
    obtain ⟨d, od, kvs, rfl, hd, ht⟩ := (oTb K tab).up e3.g hx
    obtain ⟨b, rfl, hb⟩ := ld_ref hy
    obtain ⟨v, w, g1, g2, g3⟩ := ht.get hl
    exact ⟨d, v, rfl, .inr ⟨kvs, keyOf l, b, .inr ⟨od, W3.le _ _ hd⟩, rfl, by rw [keyOf_kV]; exact W3.le _ _ hb, g1.symm⟩, q v W3 (e2.trans e3) ⟨w, g2, g3⟩⟩
theorem hid_tget (hv : σ[i]? = some (some (.ref d))) (f : Fh W0 W d (.dT kvs)) (ht : Tbl K tab kvs W.g) (h2 : Ev tb σ W (oLd l)) (hl : l ∈ tab.map (·.1)) : Ev (tDGet (tVar i) tb) σ W (oE (fun w => (l, w) ∈ tab) fun w => oX K w) := fun W1 e1 Q q =>
  ⟨.ref d, hv, h2 W1 e1 _ fun y W3 e3 hy => by
    obtain ⟨b, rfl, hb⟩ := ld_ref hy
    obtain ⟨v, w, g1, g2, g3⟩ := (ht.up (e1.trans e3).g).get hl
    exact ⟨d, v, rfl, .inr ⟨kvs, keyOf l, b, .inl (((f.up dT_ne e1).up dT_ne e3).at_), rfl, by rw [keyOf_kV]; exact W3.le _ _ hb, g1.symm⟩, q v W3 e3 ⟨w, g2, g3⟩⟩⟩
/-- {l: .. for l in ..}, then frozen -/
theorem ev_dcT {wi : TI} {vs : List Nat} {G : List (List Nat)} (P : List Nat → List Sw → Prop) (hsrc : Src wi σ W G oLd) (hz : G.length ≤ 1000000) (hn : G.Nodup) (hw : ∀ v, wipe ((wipe σ vs).set j (some v)) vs = wipe σ vs)
    (turn : ∀ x ∈ G, ∀ W1 v, Gr W W1 → (oLd x).is v W1.g → Ev ta ((wipe σ vs).set j (some v)) W1 (oLd x) ∧ Ev tb ((wipe σ vs).set j (some v)) W1 (oE (P x) fun w => oX K w)) :
    Ev (tFrz (tDcT wi (gName j) ta tb vs)) σ W (oE (fun tab : Tab => tab.map (·.1) = G ∧ ∀ e ∈ tab, P e.1 e.2) fun tab => oTb K tab) := fun W0 e0 Q q => by
  refine hsrc W0 e0 _ fun J W1 e1 w D hD => ?_
  refine ⟨fun i m H' => i + m = G.length ∧ ∃ (W' : Hw) (kvs : List (List Key × V)) (tab : Tab), W'.h = H' ∧ Fh W1 W' D (.dT kvs) ∧ Tbl K tab kvs W'.g ∧ tab.map (·.1) = G.take i ∧ ∀ e ∈ tab, P e.1 e.2,
    ⟨G.length, by omega, W1.own D (.dT []) (Hw.free hD), [], [], rfl, Fh.start hD, ⟨rfl, trivial⟩, rfl, fun _ h => absurd h List.not_mem_nil⟩, ?_⟩
  rintro i m _ ⟨him, W2, kvs, tab, rfl, f, ht, htab, hP⟩
  have s2 : Same W1.g W2.h := f.gr.g.trans W2.le
  have hkl : kvs.length = (G.take i).length := by
    have := congrArg List.length ht.keys
    rw [List.length_map, List.length_map] at this
    rw [this, ← htab, List.length_map]
  by_cases hi : i < G.length
  · refine .inr ⟨w.go i _ s2 hi, fun H'' => i + 1 + (m - 1) = G.length ∧ ∃ (W' : Hw) (kvs : List (List Key × V)) (tab : Tab), W'.h = H'' ∧ Fh W1 W' D (.dT kvs) ∧ Tbl K tab kvs W'.g ∧ tab.map (·.1) = G.take (i + 1) ∧ ∀ e ∈ tab, P e.1 e.2, fun H'' h => ⟨m - 1, by omega, h⟩, fun v H'' y => ?_⟩
    have hx : G[i]? = some G[i] := List.getElem?_eq_getElem hi
    obtain ⟨W3, e3, rfl, rv⟩ := w.yld i _ W2 v H'' f.gr.g hx y
    obtain ⟨h1, h2⟩ := turn _ (List.getElem_mem hi) W3 v (((e0.trans e1).trans f.gr).trans e3) rv
    refine ⟨hw v, h1 W3 (Gr.refl _) _ fun y W4 e4 ry => h2 W4 e4 _ fun z W5 e5 ⟨wz, hpz, rz⟩ => ?_⟩
    obtain ⟨b, rfl, hb⟩ := ld_ref ((oLd _).up e5.g ry)
    have f5 := ((f.up dT_ne e3).up dT_ne e4).up dT_ne e5
    have ht5 := ht.up ((e3.trans e4).trans e5).g
    have hnone : valV kvs (keyOf G[i]) = none := by
      cases hc : valV kvs (keyOf G[i]) with
      | none => rfl
      | some v' =>
        have := ht.some_mem hc
        rw [htab] at this
        obtain ⟨j, hj, ej⟩ := List.getElem_of_mem this
        rw [List.length_take] at hj
        rw [List.getElem_take] at ej
        exact absurd ej (List.pairwise_iff_getElem.mp hn j i (by omega) hi (by omega))
    refine ⟨kvs, keyOf G[i], b, rfl, by rw [keyOf_kV]; exact W5.le _ _ hb, f5.at_, small_lt (by rw [hkl, List.length_take]; omega), by omega, W5.own D (.dT (putK kvs (keyOf G[i]) z)) f5.hid, kvs ++ [(keyOf G[i], z)], tab ++ [(G[i], wz)], rfl, ?_, ht5.snoc rz, ?_, ?_⟩
    · rw [putK_new _ hnone]
      exact f5.to _
    · rw [List.map_append, htab, List.take_succ, hx]
      rfl
    · intro e he
      rw [List.mem_append, List.mem_singleton] at he
      rcases he with he | rfl
      · exact hP e he
      · exact hpz
  · have hi' : i = G.length := by omega
    subst hi'
    rw [List.take_length] at htab
    refine .inl ⟨w.stop _ s2, D, .dT kvs, rfl, f.at_, trivial, fun od => ?_⟩
    have f' := (f.back e1).to (.frz od (.dT kvs))
    exact q (.ref D) ((W2.own D (.frz od (.dT kvs)) f.hid).fix D (.frz od (.dT kvs)) upd_same) (f'.gr.fix f'.new f'.at_) ⟨tab, ⟨htab, hP⟩, D, od, kvs, rfl, upd_same, ht.up (same_new f.hid)⟩
end
theorem ev_cv {R : Rl} {v : V} {σ : Sl} {W : Hw} (h : R.is v W.g) : Ev (tC v) σ W R := fun W1 e Q q => q v W1 (Gr.refl W1) (R.up e.g h)
theorem q_newD {σ : Sl} {W : Hw} {D : Ends} {u : TS} {i : Nat} (k : ∀ d W', Fh W W' d (.dT []) → u D (σ.set i (some (.ref d))) W'.h) : tSeq (tAsg tDNewT (gName i)) u D σ W.h := fun d hd => k d (W.own d (.dT []) (Hw.free hd)) (Fh.start hd)
theorem for_val {K : PySem.W.Frag} {te : TE} {g : TG} {tb : TS} {D : Ends} {σ : Sl} {W : Hw} {R : Rl} (h : Ev te σ W R) (k : ∀ v W', Gr W W' → R.is v W'.g → tFor (iList K (tC v)) g tb D σ W'.h) : tFor (iList K te) g tb D σ W.h := h W (Gr.refl W) _ fun v W' e r => k v W' e r
theorem q_forval {K : PySem.W.Frag} {te : TE} {g : TG} {tb u : TS} {D : Ends} {σ : Sl} {W : Hw} {R : Rl} (h : Ev te σ W R) (k : ∀ v W', Gr W W' → R.is v W'.g → tSeq (tFor (iList K (tC v)) g tb) u D σ W'.h) : tSeq (tFor (iList K te) g tb) u D σ W.h := h W (Gr.refl W) _ fun v W' e r => k v W' e r
theorem ev_dcE {K : PySem.W.Frag} {te : TE} {g : TG} {tk tv : TE} {vs : List Nat} {σ : Sl} {W : Hw} {A R : Rl} (h : Ev te σ W A) (k : ∀ v W', Gr W W' → A.is v W'.g → Ev (tFrz (tDcT (iList K (tC v)) g tk tv vs)) σ W' R) : Ev (tFrz (tDcT (iList K te) g tk tv vs)) σ W R :=
  fun W1 e1 Q q => h W1 e1 _ fun v W2 e2 r => k v W2 (e1.trans e2) r W2 (Gr.refl _) Q fun v3 W3 e3 r3 => q v3 W3 (e2.trans e3) r3
/-- the table of a piece -/
structure TabOk (n : Nat) (sw : List Sw) (tab : Tab) : Prop where
  ok : ∀ e ∈ tab, e.2.Sublist sw ∧ Match e.2 ∧ loadOf n e.2 = e.1
  top : ∀ w, w.Sublist sw → Match w → ∃ e ∈ tab, below (loadOf n w) e.1 = true
  few : tab.length ≤ 1024
  nd : (tab.map (·.1)).Nodup
theorem loadOf_len (n : Nat) (w : List Sw) : (loadOf n w).length = (pairsOf n).length := List.length_map _
theorem pairs_pos {n : Nat} (h1 : 2 ≤ n) (h2 : n ≤ 5) : 1 ≤ (pairsOf n).length := by
  have : n = 2 ∨ n = 3 ∨ n = 4 ∨ n = 5 := by omega
  rcases this with rfl | rfl | rfl | rfl <;> decide
abbrev s_best_ways : Stmt := top 47
abbrev N_best_ways : List Str := ["box", "piece", "known", "way", "load"]
theorem sc_best_ways : FnScope N_best_ways ["box", "piece"] (defScope s_best_ways) := ⟨rfl, rfl, rfl, by decide +kernel, rfl, by decide +kernel, by decide +kernel⟩

inductive Φ_best_ways (K : PySem.W.Frag) (C : Addr) : List Rl → Rl → Prop
  | mk (b : Bo) (ok : BoOk b) (p : List Pin) (hp : (swIn b p).length ≤ 10) : Φ_best_ways K C [oBox K C b, oX K p] (oE (TabOk b.n (swIn b p)) fun tab => oTb K tab)
theorem ok_best_ways {P : Program} {w : World} {K : PySem.W.Frag} {mg : Str → Option Value} {base : Heap} {C : Addr} (T : Tx K mg C) (Dd : Df K mg "best_ways" "best_ways" s_best_ways ["box", "piece"]) (h_switches_in : Ca P w K mg base 1 "switches_in" ["box", "piece"] ((spF (Φ_switches_in K C)))) (h_ways_in : Ca P w K mg base 2 "ways_in" ["switches"] ((spF (Φ_ways_in K C)))) (h_load_of : Ca P w K mg base 2 "load_of" ["sides", "way"] ((spF (Φ_load_of K C)))) (h_greatest_of : Ca P w K mg base 3 "greatest_of" ["loads"] ((spF (Φ_greatest_of K C)))) :
    Ca P w K mg base 4 "best_ways" ["box", "piece"] ((spF (Φ_best_ways K C))) := by
  refine ok_of Dd sc_best_ways (fun As R h => by cases h <;> rfl) (fun f cdv A outer s E W vs As R Q hr hΦ hA k => ?_)
  have hu := hu_any hr
  have nd := sc_best_ways.nd
  refine ⟨_, (pss_cons (ps_set (i := 2) nd rfl (Or.inr rfl) pe_dnewT)
      (pss_cons (ps_for PassesOwn.never rfl (pi_listK (K := K) rfl (pe_ca h_ways_in hr rfl (pa_cons (pe_ca h_switches_in hr rfl (pa_cons (pv 0) (pa_cons (pv 1) pa_nil))) pa_nil))) (pg_name (i := 3) nd rfl (Or.inl rfl)) (pss_one (ps_expr (pe_setdT (hu 2 (by decide)) (pv 2) (pe_ca h_load_of hr rfl (pa_cons (pe_fldK (K := K) rfl (pv 0) rfl) (pa_cons (pv 3) pa_nil))) (pv 3) ⟨rfl, rfl, rfl, rfl⟩))))
      (pss_one (ps_ret (pe_frz (pe_dcT (own := [("load", 4)]) rfl (hu 1 (by decide)) nd (pi_listK (K := K) rfl (pe_ca h_greatest_of hr rfl (pa_cons (pe_callTy (listDK rfl) rfl T.n_list boot_list' (pa_cons (pv 2) pa_nil)) pa_nil))) (blkOk_by (N := N_best_ways) (sc := defScope s_best_ways) (by decide +kernel)) (fun _ _ _ _ _ => (pg_name (i := 4) nd rfl (Or.inl rfl))) (fun _ _ _ _ _ => (pv 4)) (fun _ _ _ _ _ => (pe_dget (hu 1 (by decide)) (pv 2) (pv 4) (fun _ _ => rfl))))))))), ?_⟩
  cases hΦ with
  | mk b ok p hp =>
    obtain ⟨v0, v1, rfl, h0, h1⟩ := two_args hA
    refine q_newD fun d W1 f1 => ?_
    have h0 := Rl.mv _ f1.gr.g h0
    have h1 := Rl.mv _ f1.gr.g h1
    have hpne : ∀ s ∈ swIn b p, s.1 ≠ s.2 := fun s hs e => by
      have := (ok.ok s (List.mem_filter.mp hs).1).2.2.2.2
      rw [e] at this
      omega
    refine q_forval (ev_call (ea_cons (ev_L (ev_call (ea_cons (ev_var rfl h0) (ea_cons (ev_var rfl h1) ea_nil)) (Φ_switches_in.mk b ok p))) ea_nil) (Φ_ways_in.mk (swIn b p) hpne hp)) fun vF W2 e2 ⟨F, hF, rF⟩ => ?_
    have f2 := f1.up dT_ne e2
    have h0 := Rl.mv _ e2.g h0
    refine q_for (xs := F) (S := fun w : List Sw => oX K w) (src_list (ev_cv (oM_L rF))) (fun i σ' W' => ∃ (tab : Tab) (kvs : List (List Key × V)) (x3 x4 : Option V), σ' = [some v0, some v1, some (.ref d), x3, x4] ∧ Same W2.g W'.g ∧ Fh W W' d (.dT kvs) ∧ Tbl K tab kvs W'.g ∧
      (∀ e ∈ tab, e.2 ∈ F ∧ loadOf b.n e.2 = e.1) ∧ (∀ w ∈ F.take i, loadOf b.n w ∈ tab.map (·.1)) ∧ (tab.map (·.1)).Nodup ∧ tab.length ≤ i) ?_ ?_ ?_
    · exact fun W3 e3 => ⟨[], [], none, none, rfl, e3.g, f2.up dT_ne e3, ⟨rfl, trivial⟩, fun _ h => absurd h List.not_mem_nil, fun _ h => by simp at h, List.nodup_nil, Nat.le_refl _⟩
    · rintro i w σ' W3 W4 v D4 hx ⟨tab, kvs, x3, x4, rfl, g3, f3, ht, hok, hall, hnd, hlen⟩ e4 hg rw' kn
      have hi : i < F.length := (List.getElem?_eq_some_iff.mp hx).1
      have hw := hF.ok w (List.mem_of_getElem? hx)
      have hwl : w.length ≤ 10 := Nat.le_trans hw.1.length_le hp
      have hfew := hF.few
      have htl : kvs.length = tab.length := by
        have := congrArg List.length ht.keys
        rwa [List.length_map, List.length_map] at this
      have htk : F.take (i + 1) = F.take i ++ [w] := by
        rw [List.take_succ, hx]
        rfl
      refine s_setd (l := loadOf b.n w) (kvs := kvs) rfl (f3.up dT_ne e4) (ev_call (ea_cons (ev_sides T (ev_var rfl (Rl.mv _ (g3.trans e4.g) h0))) (ea_cons (ev_var rfl rw') ea_nil)) (Φ_load_of.tup b.n ok.n2 w (by omega))) rfl (by omega) (fun W5 u e5 hs => ?_) fun W5 e5 f5 hn => ?_
      · refine kn _ W5 (e4.g.trans e5.g) ⟨tab, kvs, some v, x4, rfl, (g3.trans e4.g).trans e5.g, (f3.up dT_ne e4).up dT_ne e5, ht.up (e4.g.trans e5.g), hok, fun w' hw' => ?_, hnd, by omega⟩
        rw [htk, List.mem_append, List.mem_singleton] at hw'
        rcases hw' with hw' | rfl
        · exact hall w' hw'
        · exact ht.some_mem hs
      · refine kn _ (W5.own d (.dT (kvs ++ [(keyOf (loadOf b.n w), v)])) f5.hid) (e4.g.trans e5.g) ⟨tab ++ [(loadOf b.n w, w)], _, some v, x4, rfl, (g3.trans e4.g).trans e5.g, f5.to _, (ht.up (e4.g.trans e5.g)).snoc (Rl.mv _ e5.g rw'), fun e he => ?_, fun w' hw' => ?_, ?_, ?_⟩
        · rw [List.mem_append, List.mem_singleton] at he
          rcases he with he | rfl
          · exact hok e he
          · exact ⟨List.mem_of_getElem? hx, rfl⟩
        · rw [List.map_append, List.mem_append]
          rw [htk, List.mem_append, List.mem_singleton] at hw'
          rcases hw' with hw' | rfl
          · exact .inl (hall w' hw')
          · exact .inr (List.mem_singleton_self _)
        · rw [List.map_append, List.nodup_append]
          refine ⟨hnd, List.nodup_cons.mpr ⟨List.not_mem_nil, List.nodup_nil⟩, fun x hx' y hy e => ?_⟩
          have hy : y = loadOf b.n w := List.mem_singleton.mp hy
          rw [e, hy] at hx'
          exact ht.none_iff hn hx'
        · rw [List.length_append, List.length_singleton]
          omega
    · rintro σ' W3 hg ⟨tab, kvs, x3, x4, rfl, g3, f3, ht, hok, hall, hnd, hlen⟩
      rw [List.take_length] at hall
      have hfew := hF.few
      have hpp := pairs_pos ok.n1 ok.n2
      have hpf := pairs_few ok.n2
      refine s_ret (R := oE (TabOk b.n (swIn b p)) fun tab => oTb K tab) ?_ fun v W4 e4 r => k v W4 (f3.gr.trans e4) r
      refine ev_dcE (A := oE (Great (tab.map (·.1))) fun G => oM oLd G) (ev_call (ea_cons (ev_L (ev_listD (ls := tab.map (·.1)) rfl f3 (by rw [ht.keys, List.map_map]; rfl))) ea_nil) (Φ_greatest_of.mk (tab.map (·.1)) (fun l hl => ?_) (fun D hD hs => ?_) (by rw [List.length_map]; omega))) fun vG W4 e4 ⟨G, hG, rG⟩ => ?_
      · obtain ⟨e, he, rfl⟩ := List.mem_map.mp hl
        rw [← (hok e he).2, loadOf_len]
        omega
      · have := nodup_len hD hs
        rw [List.length_map] at this
        omega
      · have hGl : G.length ≤ 1024 := by
          have := nodup_len hG.nd hG.sub
          rw [List.length_map] at this
          omega
        refine ev_imp (ev_dcT (K := K) (G := G) (fun l w => (l, w) ∈ tab) (src_list (ev_cv (oM_L rG))) (by omega) hG.nd (fun _ => rfl) fun l hl W5 v5 e5 r5 => ⟨ev_var rfl r5, hid_tget (tab := tab) rfl ((f3.up dT_ne e4).up dT_ne e5) (ht.up (e4.trans e5).g) (ev_var rfl r5) (hG.sub l hl)⟩) fun v H ⟨tab', ⟨t1, t2⟩, r⟩ => ⟨tab', ⟨fun e he => ?_, fun w hw hm => ?_, ?_, ?_⟩, r⟩
        · have he' := t2 e he
          have h1 := hok _ he'
          exact ⟨(hF.ok _ h1.1).1, (hF.ok _ h1.1).2, h1.2⟩
        · obtain ⟨g, hg1, hg2⟩ := hG.top _ (hall w (hF.all w hw hm))
          rw [← t1] at hg1
          obtain ⟨e, he, rfl⟩ := List.mem_map.mp hg1
          exact ⟨e, he, hg2⟩
        · have := congrArg List.length t1
          rw [List.length_map] at this
          omega
        · rw [t1]
          exact hG.nd
abbrev s_all_best : Stmt := top 48
abbrev N_all_best : List Str := ["box", "piece"]
theorem sc_all_best : FnScope N_all_best ["box"] (defScope s_all_best) := ⟨rfl, rfl, rfl, by decide +kernel, rfl, by decide +kernel, by decide +kernel⟩

/-- tables, one a piece -/
def TabsOk (b : Bo) (tabs : List Tab) : Prop := tabs.length = (piecesOf b).length ∧ ∀ (i : Nat) (p : List Pin) (tab : Tab), (piecesOf b)[i]? = some p → tabs[i]? = some tab → TabOk b.n (swIn b p) tab
inductive Φ_all_best (K : PySem.W.Frag) (C : Addr) : List Rl → Rl → Prop
  | mk (b : Bo) (ok : BoOk b) (hp : ∀ p ∈ piecesOf b, (swIn b p).length ≤ 10) : Φ_all_best K C [oBox K C b] (oE (TabsOk b) fun tabs => oM (fun tab => oTb K tab) tabs)
theorem ok_all_best {P : Program} {w : World} {K : PySem.W.Frag} {mg : Str → Option Value} {base : Heap} {C : Addr} (T : Tx K mg C) (Dd : Df K mg "all_best" "all_best" s_all_best ["box"]) (h_pieces_of : Ca P w K mg base 1 "pieces_of" ["box"] ((spF (Φ_pieces_of K C)))) (h_best_ways : Ca P w K mg base 4 "best_ways" ["box", "piece"] ((spF (Φ_best_ways K C)))) :
    Ca P w K mg base 5 "all_best" ["box"] ((spF (Φ_all_best K C))) := by
  refine ok_of Dd sc_all_best (fun As R h => by cases h <;> rfl) (fun f cdv A outer s E W vs As R Q hr hΦ hA k => ?_)
  have hu := hu_any hr
  have nd := sc_all_best.nd
  refine ⟨_, (pss_one (ps_ret (pe_lc (own := [("piece", 1)]) rfl nd (pi_listK (K := K) rfl (pe_ca h_pieces_of hr rfl (pa_cons (pv 0) pa_nil))) (blkOk_by (N := N_all_best) (sc := defScope s_all_best) (by decide +kernel)) (fun _ _ _ _ _ => (pg_name (i := 1) nd rfl (Or.inl rfl))) (fun _ _ _ _ _ => pts_nil) (fun _ _ _ _ _ => (pe_ca h_best_ways hr rfl (pa_cons (pv 0) (pa_cons (pv 1) pa_nil))))))), ?_⟩
  cases hΦ with
  | mk b ok hp =>
    obtain ⟨v0, rfl, h0⟩ := one_arg hA
    have hl : (piecesOf b).length ≤ 20 := by
      unfold piecesOf
      rw [List.length_mergeSort]
      have := pieces_len b.sw b.sw.length (Nat.le_refl _)
      rw [List.take_length] at this
      have := ok.few
      omega
    refine s_ret (ev_imp (ev_lcA (xs := piecesOf b) (fun p => oE (TabOk b.n (swIn b p)) fun tab => oTb K tab) (src_list (ev_L (ev_call (ea_cons (ev_var rfl h0) ea_nil) (Φ_pieces_of.mk b ok)))) (by omega) (fun _ => rfl) fun p hp' W1 v e r => ev_call (ea_cons (ev_var rfl (Rl.mv _ e.g h0)) (ea_cons (ev_var rfl r) ea_nil)) (Φ_best_ways.mk b ok p (hp p hp'))) fun v H h => ?_) k
    obtain ⟨a, vs, rfl, h2, h3⟩ := h
    have key : ∀ (ps : List (List Pin)) (vs : List V), Al (fun p => oE (TabOk b.n (swIn b p)) fun tab => oTb K tab) ps vs H → ∃ tabs : List Tab, Al (fun tab => oTb K tab) tabs vs H ∧ tabs.length = ps.length ∧ ∀ (i : Nat) (p : List Pin) (tab : Tab), ps[i]? = some p → tabs[i]? = some tab → TabOk b.n (swIn b p) tab := by
      intro ps
      induction ps with
      | nil =>
        intro vs h
        cases vs with
        | nil => exact ⟨[], trivial, rfl, fun i p tab h => by simp at h⟩
        | cons _ _ => exact h.elim
      | cons p ps ih =>
        intro vs h
        cases vs with
        | nil => exact h.elim
        | cons v vs =>
          obtain ⟨⟨tab, ht, hv⟩, h⟩ := h
          obtain ⟨tabs, g1, g2, g3⟩ := ih vs h
          refine ⟨tab :: tabs, ⟨hv, g1⟩, by rw [List.length_cons, List.length_cons, g2], fun i p' tab' e1 e2 => ?_⟩
          cases i with
          | zero =>
            simp at e1 e2
            subst e1 e2
            exact ht
          | succ i =>
            rw [List.getElem?_cons_succ] at e1 e2
            exact g3 i p' tab' e1 e2
    obtain ⟨tabs, g1, g2, g3⟩ := key _ _ h3
    exact ⟨tabs, ⟨g2, g3⟩, a, vs, rfl, h2, g1⟩
end Bx

set_option Elab.async false
set_option linter.all false
set_option maxRecDepth 100000
set_option maxHeartbeats 4000000
set_option autoImplicit false
/-! plain laws of loads, ways and pieces -/
namespace Bx
open PySem L2
/-! ### loads -/
theorem below_trans : ∀ {a b c : List Nat}, a.length = b.length → b.length = c.length → below a b = true → below b c = true → below a c = true
  | [], [], [], _, _, _, _ => rfl
  | x :: a, y :: b, z :: c, h1, h2, h3, h4 => by
    unfold below at h3 h4 ⊢
    rw [List.zip_cons_cons, List.all_cons, Bool.and_eq_true, decide_eq_true_eq] at h3 h4 ⊢
    refine ⟨Nat.le_trans h3.1 h4.1, ?_⟩
    exact below_trans (by simpa using h1) (by simpa using h2) h3.2 h4.2
  | [], [], _ :: _, _, h, _, _ => by simp at h
  | [], _ :: _, _, h, _, _, _ => by simp at h
  | _ :: _, [], _, h, _, _, _ => by simp at h
  | _ :: _, _ :: _, [], _, h, _, _ => by simp at h
theorem addL_mono : ∀ {a b c d : List Nat}, below a c = true → below b d = true → a.length = c.length → b.length = d.length → a.length = b.length → below (addL a b) (addL c d) = true
  | [], [], [], [], _, _, _, _, _ => rfl
  | x :: a, y :: b, z :: c, u :: d, h1, h2, h3, h4, h5 => by
    unfold below at h1 h2
    rw [List.zip_cons_cons, List.all_cons, Bool.and_eq_true, decide_eq_true_eq] at h1 h2
    unfold below addL
    rw [List.zip_cons_cons, List.zip_cons_cons, List.map_cons, List.map_cons, List.zip_cons_cons, List.all_cons, Bool.and_eq_true, decide_eq_true_eq]
    exact ⟨Nat.add_le_add h1.1 h2.1, addL_mono h1.2 h2.2 (by simpa using h3) (by simpa using h4) (by simpa using h5)⟩
  | [], _ :: _, _, _, _, _, _, _, h => by simp at h
  | _ :: _, [], _, _, _, _, _, _, h => by simp at h
  | [], [], _ :: _, _, _, _, h, _, _ => by simp at h
  | [], [], [], _ :: _, _, _, _, h, _ => by simp at h
  | _ :: _, _ :: _, [], _, _, _, h, _, _ => by simp at h
  | _ :: _, _ :: _, _ :: _, [], _, _, _, h, _ => by simp at h
theorem addL_len {a b : List Nat} (h : a.length = b.length) : (addL a b).length = a.length := by
  unfold addL
  rw [List.length_map, List.length_zip]
  omega
theorem addL_comm (a b : List Nat) : addL a b = addL b a := by
  unfold addL
  induction a generalizing b with
  | nil => cases b <;> rfl
  | cons x a ih =>
    cases b with
    | nil => rfl
    | cons y b =>
      rw [List.zip_cons_cons, List.zip_cons_cons, List.map_cons, List.map_cons, ih]
      show (x + y) :: _ = (y + x) :: _
      rw [Nat.add_comm]
theorem addL_assoc (a b c : List Nat) : addL (addL a b) c = addL a (addL b c) := by
  unfold addL
  induction a generalizing b c with
  | nil => rfl
  | cons x a ih =>
    cases b with
    | nil => rfl
    | cons y b =>
      cases c with
      | nil => rfl
      | cons z c =>
        simp only [List.zip_cons_cons, List.map_cons]
        rw [ih, Nat.add_assoc]
theorem addL_map {α : Type} (f g : α → Nat) (ps : List α) : addL (ps.map f) (ps.map g) = ps.map fun p => f p + g p := by
  induction ps with
  | nil => rfl
  | cons p ps ih =>
    show addL (f p :: ps.map f) (g p :: ps.map g) = _
    unfold addL at ih ⊢
    rw [List.zip_cons_cons, List.map_cons, ih]
    rfl
theorem loadOf_app (n : Nat) (w v : List Sw) : loadOf n (w ++ v) = addL (loadOf n w) (loadOf n v) := by
  unfold loadOf
  rw [addL_map]
  apply List.map_congr_left
  intro p _
  rw [List.map_append, List.count_append]
theorem loadOf_perm {n : Nat} {w v : List Sw} (h : w.Perm v) : loadOf n w = loadOf n v := by
  unfold loadOf
  apply List.map_congr_left
  intro p _
  exact (h.map sideOf).count_eq p
theorem pairs_count {n : Nat} (h1 : 2 ≤ n) (h2 : n ≤ 5) : n * (n - 1) / 2 = (pairsOf n).length := by
  have : n = 2 ∨ n = 3 ∨ n = 4 ∨ n = 5 := by omega
  rcases this with rfl | rfl | rfl | rfl <;> decide
theorem noLoad_eq {n : Nat} (h1 : 2 ≤ n) (h2 : n ≤ 5) : noLoad n = loadOf n [] := by
  unfold noLoad loadOf
  rw [pairs_count h1 h2]
  induction pairsOf n with
  | nil => rfl
  | cons p ps ih =>
    rw [List.length_cons, List.replicate_succ, ih]
    rfl
theorem below_map {α : Type} (f g : α → Nat) : ∀ ps : List α, (below (ps.map f) (ps.map g) = true ↔ ∀ p ∈ ps, f p ≤ g p)
  | [] => ⟨fun _ p h => absurd h List.not_mem_nil, fun _ => rfl⟩
  | p :: ps => by
    have ih := below_map f g ps
    unfold below at ih ⊢
    rw [List.map_cons, List.map_cons, List.zip_cons_cons, List.all_cons, Bool.and_eq_true, ih, decide_eq_true_eq]
    constructor
    · rintro ⟨h1, h2⟩ q hq
      rcases List.mem_cons.mp hq with rfl | hq
      · exact h1
      · exact h2 q hq
    · exact fun h => ⟨h p List.mem_cons_self, fun q hq => h q (List.mem_cons_of_mem _ hq)⟩
theorem loadOf_below {n : Nat} {w v : List Sw} (h : w.Sublist v) : below (loadOf n w) (loadOf n v) = true := by
  unfold loadOf
  exact (below_map _ _ _).mpr fun p _ => (h.map sideOf).count_le p
/-! ### pieces -/
/-- both pins of a switch lie in the same pieces -/
structure PcL (sw : List Sw) (ps : List (List Pin)) : Prop where
  both : ∀ p ∈ ps, ∀ s ∈ sw, (s.1 ∈ p ↔ s.2 ∈ p)
  apart : ps.Pairwise fun p q => ∀ x ∈ p, x ∉ q
  all : ∀ s ∈ sw, ∃ p ∈ ps, s.1 ∈ p
theorem hits_iff {s : Sw} {p : List Pin} : hits s p = true ↔ s.1 ∈ p ∨ s.2 ∈ p := by
  unfold hits
  rw [Bool.or_eq_true, decide_eq_true_eq, decide_eq_true_eq]
theorem mem_grown {f : List (List Pin)} {s : Sw} {x : Pin} : x ∈ srtS ((f.filter (hits s)).flatMap (fun p => p) ++ pins s) ↔ (∃ p ∈ f, hits s p = true ∧ x ∈ p) ∨ x = s.1 ∨ x = s.2 := by
  rw [mem_srtS, List.mem_append, List.mem_flatMap]
  constructor
  · rintro (⟨p, hp, hx⟩ | hx)
    · rw [List.mem_filter] at hp
      exact .inl ⟨p, hp.1, hp.2, hx⟩
    · simp only [pins, List.mem_cons, List.not_mem_nil, or_false] at hx
      exact .inr hx
  · rintro (⟨p, h1, h2, h3⟩ | h)
    · exact .inl ⟨p, List.mem_filter.mpr ⟨h1, h2⟩, h3⟩
    · refine .inr ?_
      simp only [pins, List.mem_cons, List.not_mem_nil, or_false]
      exact h
theorem pcL_step {sw : List Sw} {f : List (List Pin)} {s : Sw} (h : PcL sw f) : PcL (sw ++ [s]) (stepP f s) := by
  have hu : ∀ p ∈ f, ∀ q ∈ f, ∀ x, x ∈ p → x ∈ q → p = q := by
    intro p hp q hq x hx hy
    obtain ⟨i, hi, rfl⟩ := List.getElem_of_mem hp
    obtain ⟨j, hj, rfl⟩ := List.getElem_of_mem hq
    rcases Nat.lt_trichotomy i j with c | c | c
    · exact absurd hy (List.pairwise_iff_getElem.mp h.apart i j hi hj c x hx)
    · subst c
      rfl
    · exact absurd hx (List.pairwise_iff_getElem.mp h.apart j i hj hi c x hy)
  unfold stepP
  refine ⟨fun p hp t ht => ?_, ?_, fun t ht => ?_⟩
  · rw [List.mem_append, List.mem_singleton] at hp ht
    rcases hp with hp | rfl
    · rw [List.mem_filter] at hp
      rcases ht with ht | rfl
      · exact h.both p hp.1 t ht
      · have hn : ¬ (t.1 ∈ p ∨ t.2 ∈ p) := fun z => by
          have := hp.2
          rw [hits_iff.mpr z] at this
          cases this
        exact ⟨fun z => absurd (.inl z) hn, fun z => absurd (.inr z) hn⟩
    · rcases ht with ht | rfl
      · rw [mem_grown, mem_grown]
        -- a pin of t lies in some old piece
        obtain ⟨p0, hp0, hx0⟩ := h.all t ht
        have hy0 := (h.both p0 hp0 t ht).mp hx0
        constructor
        · rintro (⟨p, h1, h2, h3⟩ | e)
          · exact .inl ⟨p, h1, h2, (h.both p h1 t ht).mp h3⟩
          · refine .inl ⟨p0, hp0, hits_iff.mpr ?_, hy0⟩
            rcases e with e | e <;> rw [e] at hx0
            · exact .inl hx0
            · exact .inr hx0
        · rintro (⟨p, h1, h2, h3⟩ | e)
          · exact .inl ⟨p, h1, h2, (h.both p h1 t ht).mpr h3⟩
          · refine .inl ⟨p0, hp0, hits_iff.mpr ?_, hx0⟩
            rcases e with e | e <;> rw [e] at hy0
            · exact .inl hy0
            · exact .inr hy0
      · rw [mem_grown, mem_grown]
        exact ⟨fun _ => .inr (.inr rfl), fun _ => .inr (.inl rfl)⟩
  · rw [List.pairwise_append]
    refine ⟨h.apart.filter _, List.pairwise_singleton _ _, fun p hp q hq x hx hy => ?_⟩
    rw [List.mem_singleton] at hq
    subst hq
    rw [List.mem_filter] at hp
    have hn : ¬ (s.1 ∈ p ∨ s.2 ∈ p) := fun z => by
      have := hp.2
      rw [hits_iff.mpr z] at this
      cases this
    rcases mem_grown.mp hy with ⟨q, h1, h2, h3⟩ | e | e
    · rw [hu p hp.1 q h1 x hx h3] at hn
      exact hn (hits_iff.mp h2)
    · rw [e] at hx
      exact hn (.inl hx)
    · rw [e] at hx
      exact hn (.inr hx)
  · rw [List.mem_append, List.mem_singleton] at ht
    rcases ht with ht | rfl
    · obtain ⟨p, hp, hx⟩ := h.all t ht
      cases c : hits s p with
      | true => exact ⟨_, List.mem_append_right _ (List.mem_singleton_self _), mem_grown.mpr (.inl ⟨p, hp, c, hx⟩)⟩
      | false => exact ⟨p, List.mem_append_left _ (List.mem_filter.mpr ⟨hp, by rw [c]; rfl⟩), hx⟩
    · exact ⟨_, List.mem_append_right _ (List.mem_singleton_self _), mem_grown.mpr (.inr (.inl rfl))⟩
theorem list_rev {α : Type} {P : List α → Prop} (h0 : P []) (hs : ∀ l x, P l → P (l ++ [x])) (l : List α) : P l := by
  have : ∀ l : List α, P l.reverse := fun l => by
    induction l with
    | nil => exact h0
    | cons x l ih =>
      rw [List.reverse_cons]
      exact hs _ x ih
  have := this l.reverse
  rwa [List.reverse_reverse] at this
theorem pcL_all (sw : List Sw) : PcL sw (piecesL sw) := by
  refine list_rev (P := fun sw => PcL sw (piecesL sw)) ⟨fun p hp => absurd hp List.not_mem_nil, List.Pairwise.nil, fun s hs => absurd hs List.not_mem_nil⟩ (fun sw s h => ?_) sw
  rw [piecesL_snoc]
  exact pcL_step h
theorem apart_perm {ps qs : List (List Pin)} (h : ps.Perm qs) (a : ps.Pairwise fun p q => ∀ x ∈ p, x ∉ q) : qs.Pairwise fun p q => ∀ x ∈ p, x ∉ q :=
  h.pairwise a fun {p q} hpq x hx hy => hpq x hy hx
theorem pc_ok (b : Bo) : PcL b.sw (piecesOf b) := by
  have h := pcL_all b.sw
  have pm : (piecesOf b).Perm (piecesL b.sw) := List.mergeSort_perm _ _
  exact ⟨fun p hp => h.both p (pm.mem_iff.mp hp), apart_perm pm.symm h.apart, fun s hs => by
    obtain ⟨p, hp, hx⟩ := h.all s hs
    exact ⟨p, pm.mem_iff.mpr hp, hx⟩⟩
/-- pieces keep to one kind of pins -/
theorem pieces_kind (c : Pin → Bool) : ∀ sw : List Sw, (∀ s ∈ sw, c s.1 = c s.2) → ∀ p ∈ piecesL sw, ∀ x ∈ p, ∀ y ∈ p, c x = c y := fun sw => by
  refine list_rev (P := fun sw => (∀ s ∈ sw, c s.1 = c s.2) → ∀ p ∈ piecesL sw, ∀ x ∈ p, ∀ y ∈ p, c x = c y) (fun _ p hp => absurd hp List.not_mem_nil) (fun sw s ih hc p hp => ?_) sw
  have ih := ih fun t ht => hc t (List.mem_append_left _ ht)
  have hs := hc s (List.mem_append_right _ (List.mem_singleton_self _))
  rw [piecesL_snoc] at hp
  unfold stepP at hp
  rw [List.mem_append, List.mem_singleton] at hp
  rcases hp with hp | rfl
  · exact ih p (List.mem_filter.mp hp).1
  · have key : ∀ x, x ∈ srtS (((piecesL sw).filter (hits s)).flatMap (fun p => p) ++ pins s) → c x = c s.1 := fun x hx => by
      rcases mem_grown.mp hx with ⟨p, h1, h2, h3⟩ | rfl | rfl
      · rcases hits_iff.mp h2 with h | h
        · exact ih p h1 x h3 _ h
        · rw [hs]
          exact ih p h1 x h3 _ h
      · rfl
      · exact hs.symm
    exact fun x hx y hy => (key x hx).trans (key y hy).symm
end Bx

set_option Elab.async false
set_option linter.all false
set_option maxRecDepth 100000
set_option maxHeartbeats 4000000
set_option autoImplicit false
/-! how many loads there are; sums of tables; ways cut down -/
namespace Bx
open PySem L2
/-! ### how many loads a box can carry -/
def enumL : List Pin → (Nat → Nat) → List (List Nat)
  | [], _ => [[]]
  | p :: ps, cap => (List.range (min (cap p.1) (cap p.2) + 1)).flatMap fun k => (enumL ps fun i => if i = p.1 ∨ i = p.2 then cap i - k else cap i).map (k :: ·)
def touch (i : Nat) (p : Pin) : Bool := decide (p.1 = i) || decide (p.2 = i)
def tsum (i : Nat) (c : Pin → Nat) (ps : List Pin) : Nat := ((ps.filter (touch i)).map c).sum
theorem tsum_cons (i : Nat) (c : Pin → Nat) (p : Pin) (ps : List Pin) : tsum i c (p :: ps) = (if touch i p = true then c p else 0) + tsum i c ps := by
  unfold tsum
  cases h : touch i p with
  | true => rw [List.filter_cons_of_pos h, List.map_cons, List.sum_cons, if_pos rfl]
  | false => rw [List.filter_cons_of_neg (by rw [h]; decide), if_neg (by decide), Nat.zero_add]
theorem mem_enumL (c : Pin → Nat) : ∀ (ps : List Pin) (cap : Nat → Nat), (∀ i, tsum i c ps ≤ cap i) → ps.map c ∈ enumL ps cap
  | [], _, _ => List.mem_singleton_self _
  | p :: ps, cap, h => by
    unfold enumL
    rw [List.map_cons, List.mem_flatMap]
    have h1 := h p.1
    have h2 := h p.2
    rw [tsum_cons, if_pos (by unfold touch; simp)] at h1 h2
    refine ⟨c p, List.mem_range.mpr (by omega), List.mem_map.mpr ⟨ps.map c, mem_enumL c ps _ fun i => ?_, rfl⟩⟩
    have hi := h i
    rw [tsum_cons] at hi
    by_cases e : i = p.1 ∨ i = p.2
    · rw [if_pos e]
      rw [if_pos (by unfold touch; rcases e with e | e <;> simp [e])] at hi
      omega
    · rw [if_neg e]
      omega
theorem count_sum (xs : List Pin) : ∀ ps : List Pin, ps.Nodup → (ps.map fun p => xs.count p).sum = xs.countP fun x => decide (x ∈ ps)
  | [], _ => by simp
  | p :: ps, h => by
    rw [List.nodup_cons] at h
    rw [List.map_cons, List.sum_cons, count_sum xs ps h.2, List.count]
    induction xs with
    | nil => rfl
    | cons x xs ih =>
      rw [List.countP_cons, List.countP_cons, List.countP_cons]
      by_cases e : x = p
      · subst e
        have h1 : decide (x ∈ ps) = false := decide_eq_false h.1
        have h2 : decide (x ∈ x :: ps) = true := decide_eq_true List.mem_cons_self
        simp only [h1, h2, beq_self_eq_true, if_true, if_false, Bool.false_eq_true]
        omega
      · have h1 : decide (x ∈ p :: ps) = decide (x ∈ ps) := decide_eq_decide.mpr ⟨fun z => (List.mem_cons.mp z).resolve_left e, fun z => List.mem_cons_of_mem _ z⟩
        have h2 : (x == p) = false := beq_eq_false_iff_ne.mpr e
        simp only [h1, h2, Bool.false_eq_true, if_false]
        omega
theorem pairs_nodup (n : Nat) (h : n ≤ 5) : (pairsOf n).Nodup := by
  have : n = 0 ∨ n = 1 ∨ n = 2 ∨ n = 3 ∨ n = 4 ∨ n = 5 := by omega
  rcases this with rfl | rfl | rfl | rfl | rfl | rfl <;> decide
theorem side_pins (i : Nat) : ∀ w : List Sw, (w.map sideOf).countP (touch i) ≤ ((w.flatMap pins).filter fun p => decide (p.1 = i)).length
  | [] => Nat.le_refl _
  | s :: w => by
    have ih := side_pins i w
    rw [List.map_cons, List.countP_cons, List.flatMap_cons, List.filter_append, List.length_append]
    have : (if touch i (sideOf s) = true then 1 else 0) ≤ ((pins s).filter fun p => decide (p.1 = i)).length := by
      by_cases h : touch i (sideOf s) = true
      · rw [if_pos h]
        unfold touch at h
        rw [Bool.or_eq_true, decide_eq_true_eq, decide_eq_true_eq] at h
        apply List.length_pos_of_mem (a := if s.1.1 = i then s.1 else s.2)
        rw [List.mem_filter]
        by_cases e : s.1.1 = i
        · rw [if_pos e]
          exact ⟨List.mem_cons_self, decide_eq_true e⟩
        · rw [if_neg e]
          exact ⟨List.mem_cons_of_mem _ List.mem_cons_self, decide_eq_true (h.resolve_left e)⟩
      · rw [if_neg h]
        exact Nat.zero_le _
    omega
theorem side_few {n t : Nat} {w : List Sw} (hm : Match w) (hok : ∀ s ∈ w, okSw s n t) (i : Nat) : ((w.flatMap pins).filter fun p => decide (p.1 = i)).length ≤ t := by
  have hnd : (((w.flatMap pins).filter fun p => decide (p.1 = i)).map (·.2)).Nodup := nodup_map_on (hm.filter _) fun x hx y hy e => by
    have h1 := of_decide_eq_true (List.mem_filter.mp hx).2
    have h2 := of_decide_eq_true (List.mem_filter.mp hy).2
    exact Prod.ext (h1.trans h2.symm) e
  have := nodup_len (m := List.range t) hnd fun k hk => by
    obtain ⟨p, hp, rfl⟩ := List.mem_map.mp hk
    obtain ⟨s, hs, hps⟩ := List.mem_flatMap.mp (List.mem_filter.mp hp).1
    obtain ⟨g1, g2, g3, g4, g5⟩ := hok s hs
    simp only [pins, List.mem_cons, List.not_mem_nil, or_false] at hps
    rw [List.mem_range]
    rcases hps with rfl | rfl <;> assumption
  rwa [List.length_map, List.length_range] at this
/-- the load of some way on so many sides and tracks -/
def IsLoad (n t : Nat) (l : List Nat) : Prop := ∃ w, Match w ∧ (∀ s ∈ w, okSw s n t) ∧ loadOf n w = l
theorem load_enum {n t : Nat} (hn : n ≤ 5) {l : List Nat} (h : IsLoad n t l) : l ∈ enumL (pairsOf n) fun _ => t := by
  obtain ⟨w, hm, hok, rfl⟩ := h
  refine mem_enumL (fun p => (w.map sideOf).count p) (pairsOf n) (fun _ => t) fun i => ?_
  unfold tsum
  rw [count_sum _ _ ((pairs_nodup n hn).filter _)]
  refine Nat.le_trans (List.countP_mono_left fun x _ hx => ?_) (Nat.le_trans (side_pins i w) (side_few hm hok i))
  exact (List.mem_filter.mp (of_decide_eq_true hx)).2
/-- few loads -/
def CapOk (n t : Nat) : Prop := (enumL (pairsOf n) fun _ => t).length ≤ 1000
theorem cap_few {n t : Nat} (hn : n ≤ 5) (hc : CapOk n t) {D : List (List Nat)} (nd : D.Nodup) (h : ∀ l ∈ D, IsLoad n t l) : D.length ≤ 1000 := Nat.le_trans (nodup_len nd fun l hl => load_enum hn (h l hl)) hc
theorem cap_2_2 : CapOk 2 2 := by unfold CapOk; decide +kernel
theorem cap_3_2 : CapOk 3 2 := by unfold CapOk; decide +kernel
theorem cap_3_3 : CapOk 3 3 := by unfold CapOk; decide +kernel
theorem cap_4_2 : CapOk 4 2 := by unfold CapOk; decide +kernel
theorem cap_2_3 : CapOk 2 3 := by unfold CapOk; decide +kernel
theorem cap_4_1 : CapOk 4 1 := by unfold CapOk; decide +kernel
theorem cap_5_1 : CapOk 5 1 := by unfold CapOk; decide +kernel
theorem cap_3_1 : CapOk 3 1 := by unfold CapOk; decide +kernel
theorem cap_2_4 : CapOk 2 4 := by unfold CapOk; decide +kernel
theorem cap_3_4 : CapOk 3 4 := by unfold CapOk; decide +kernel
theorem cap_4_4 : CapOk 4 4 := by unfold CapOk; decide +kernel
theorem cap_5_2 : CapOk 5 2 := by unfold CapOk; decide +kernel
/-! ### sums of tables -/
/-- a box that the search can do -/
structure BoGood (b : Bo) : Prop extends BoOk b where
  cap : CapOk b.n b.t
  pc : ∀ p ∈ piecesOf b, (swIn b p).length ≤ 10
/-- tables of the first pieces -/
structure TabsIn (b : Bo) (tabs : List Tab) : Prop where
  len : tabs.length ≤ (piecesOf b).length
  ok : ∀ (i : Nat) (p : List Pin) (tab : Tab), (piecesOf b)[i]? = some p → tabs[i]? = some tab → TabOk b.n (swIn b p) tab
structure SumsOk (b : Bo) (tabs : List Tab) (sums : List (List (List Nat))) : Prop where
  len : sums.length = tabs.length + 1
  zero : sums[0]? = some [noLoad b.n]
  step : ∀ (i : Nat) (S : List (List Nat)) (T : Tab) (S' : List (List Nat)), sums[i]? = some S → tabs[i]? = some T → sums[i + 1]? = some S' → Great (S.flatMap fun l => (T.map (·.1)).map (addL l)) S'
structure Part (b : Bo) (i : Nat) (w : List Sw) : Prop where
  mt : Match w
  sub : ∀ s ∈ w, s ∈ b.sw
  low : ∀ s ∈ w, ∃ (j : Nat) (p : List Pin), j < i ∧ (piecesOf b)[j]? = some p ∧ s.1 ∈ p
theorem Part.load {b : Bo} (ok : BoOk b) {i : Nat} {w : List Sw} (h : Part b i w) : IsLoad b.n b.t (loadOf b.n w) := ⟨w, h.mt, fun s hs => ok.ok s (h.sub s hs), rfl⟩
theorem part_app {b : Bo} {i : Nat} {p : List Pin} {w v : List Sw} (h : Part b i w) (hp : (piecesOf b)[i]? = some p) (hv : v.Sublist (swIn b p)) (hm : Match v) : Part b (i + 1) (w ++ v) := by
  have pc := pc_ok b
  have hvp : ∀ s ∈ v, s ∈ b.sw ∧ s.1 ∈ p := fun s hs => by
    have := List.mem_filter.mp (hv.subset hs)
    exact ⟨this.1, of_decide_eq_true this.2⟩
  obtain ⟨hi, ep⟩ := List.getElem?_eq_some_iff.mp hp
  refine ⟨?_, fun s hs => (List.mem_append.mp hs).elim (h.sub s) fun z => (hvp s z).1, fun s hs => ?_⟩
  · unfold Match
    rw [List.flatMap_append, List.nodup_append]
    refine ⟨h.mt, hm, fun x hx y hy e => ?_⟩
    subst e
    obtain ⟨s, hs, hxs⟩ := List.mem_flatMap.mp hx
    obtain ⟨t, ht, hxt⟩ := List.mem_flatMap.mp hy
    obtain ⟨j, q, hj, hq, hsq⟩ := h.low s hs
    obtain ⟨hj', eq⟩ := List.getElem?_eq_some_iff.mp hq
    have x1 : x ∈ q := by
      simp only [pins, List.mem_cons, List.not_mem_nil, or_false] at hxs
      rcases hxs with rfl | rfl
      · exact hsq
      · exact (pc.both q (List.mem_of_getElem? hq) s (h.sub s hs)).mp hsq
    have x2 : x ∈ p := by
      simp only [pins, List.mem_cons, List.not_mem_nil, or_false] at hxt
      rcases hxt with rfl | rfl
      · exact (hvp t ht).2
      · exact (pc.both p (List.mem_of_getElem? hp) t (hvp t ht).1).mp (hvp t ht).2
    have := List.pairwise_iff_getElem.mp pc.apart j i hj' hi hj
    rw [eq, ep] at this
    exact this x x1 x2
  · rcases List.mem_append.mp hs with hs | hs
    · obtain ⟨j, q, hj, hq, hsq⟩ := h.low s hs
      exact ⟨j, q, by omega, hq, hsq⟩
    · exact ⟨i, p, Nat.lt_succ_self i, hp, (hvp s hs).2⟩
theorem pieces_at {b : Bo} {tabs : List Tab} (ht : TabsIn b tabs) {i : Nat} {T : Tab} (h : tabs[i]? = some T) : ∃ p, (piecesOf b)[i]? = some p ∧ TabOk b.n (swIn b p) T := by
  have hi := (List.getElem?_eq_some_iff.mp h).1
  have hl := ht.len
  have hp : (piecesOf b)[i]? = some ((piecesOf b)[i]'(by omega)) := List.getElem?_eq_getElem (by omega)
  exact ⟨_, hp, ht.ok i _ T hp h⟩
/-- every sum is the load of a way -/
theorem sums_sound {b : Bo} (ok : BoOk b) {tabs : List Tab} (ht : TabsIn b tabs) {sums : List (List (List Nat))} (hs : SumsOk b tabs sums) : ∀ (i : Nat) (S : List (List Nat)), sums[i]? = some S → ∀ l ∈ S, ∃ w, Part b i w ∧ loadOf b.n w = l
  | 0, S, h, l, hl => by
    rw [hs.zero] at h
    cases h
    rw [List.mem_singleton] at hl
    subst hl
    exact ⟨[], ⟨List.nodup_nil, fun s h => absurd h List.not_mem_nil, fun s h => absurd h List.not_mem_nil⟩, (noLoad_eq ok.n1 ok.n2).symm⟩
  | i + 1, S, h, l, hl => by
    have hi := (List.getElem?_eq_some_iff.mp h).1
    have hlen := hs.len
    have h0 : sums[i]? = some (sums[i]'(by omega)) := List.getElem?_eq_getElem (by omega)
    have hT : tabs[i]? = some (tabs[i]'(by omega)) := List.getElem?_eq_getElem (by omega)
    have hg := hs.step i _ _ S h0 hT h
    obtain ⟨a, ha, hla⟩ := List.mem_flatMap.mp (hg.sub l hl)
    obtain ⟨m, hm, rfl⟩ := List.mem_map.mp hla
    obtain ⟨e, he, rfl⟩ := List.mem_map.mp hm
    obtain ⟨w, hw, rfl⟩ := sums_sound ok ht hs i _ h0 a ha
    obtain ⟨p, hp, hok⟩ := pieces_at ht hT
    obtain ⟨h1, h2, h3⟩ := hok.ok e he
    exact ⟨w ++ e.2, part_app hw hp h1 h2, by rw [loadOf_app, h3]⟩
def inP (b : Bo) (i : Nat) (s : Sw) : Bool := ((piecesOf b).take i).any fun p => decide (s.1 ∈ p)
theorem filter_or {α : Type} (p q : α → Bool) : ∀ w : List α, (∀ x ∈ w, ¬ (p x = true ∧ q x = true)) → (w.filter fun x => p x || q x).Perm (w.filter p ++ w.filter q)
  | [], _ => List.Perm.refl _
  | x :: w, h => by
    have ih := filter_or p q w fun y hy => h y (List.mem_cons_of_mem _ hy)
    have hx := h x List.mem_cons_self
    cases hp : p x with
    | true =>
      have hq : q x = false := by
        cases hq : q x with
        | false => rfl
        | true => exact absurd ⟨hp, hq⟩ hx
      rw [List.filter_cons_of_pos (by rw [hp]; rfl), List.filter_cons_of_pos hp, List.filter_cons_of_neg (by rw [hq]; decide)]
      exact ih.cons x
    | false =>
      cases hq : q x with
      | true =>
        rw [List.filter_cons_of_pos (by rw [hp, hq]; rfl), List.filter_cons_of_neg (by rw [hp]; decide), List.filter_cons_of_pos hq]
        exact (ih.cons x).trans List.perm_middle.symm
      | false =>
        rw [List.filter_cons_of_neg (by rw [hp, hq]; decide), List.filter_cons_of_neg (by rw [hp]; decide), List.filter_cons_of_neg (by rw [hq]; decide)]
        exact ih
theorem inP_succ {b : Bo} {i : Nat} {p : List Pin} (hp : (piecesOf b)[i]? = some p) (s : Sw) : inP b (i + 1) s = (inP b i s || decide (s.1 ∈ p)) := by
  unfold inP
  rw [List.take_succ, hp, List.any_append]
  simp
/-- every way lies below a sum -/
theorem sums_top {b : Bo} (ok : BoOk b) {tabs : List Tab} (ht : TabsIn b tabs) {sums : List (List (List Nat))} (hs : SumsOk b tabs sums) {w : List Sw} (hw : w.Sublist b.sw) (hm : Match w) :
    ∀ (i : Nat) (S : List (List Nat)), sums[i]? = some S → ∃ l ∈ S, below (loadOf b.n (w.filter (inP b i))) l = true
  | 0, S, h => by
    rw [hs.zero] at h
    cases h
    refine ⟨_, List.mem_singleton_self _, ?_⟩
    have : w.filter (inP b 0) = [] := List.filter_eq_nil_iff.mpr fun s _ => by simp [inP]
    rw [this, noLoad_eq ok.n1 ok.n2]
    exact below_refl _
  | i + 1, S, h => by
    have hi := (List.getElem?_eq_some_iff.mp h).1
    have hlen := hs.len
    have h0 : sums[i]? = some (sums[i]'(by omega)) := List.getElem?_eq_getElem (by omega)
    have hT : tabs[i]? = some (tabs[i]'(by omega)) := List.getElem?_eq_getElem (by omega)
    have hg := hs.step i _ _ S h0 hT h
    obtain ⟨p, hp, hok⟩ := pieces_at ht hT
    obtain ⟨hpi, ep⟩ := List.getElem?_eq_some_iff.mp hp
    obtain ⟨l, hl, hbl⟩ := sums_top ok ht hs hw hm i _ h0
    have hsub : (w.filter fun s => decide (s.1 ∈ p)).Sublist (swIn b p) := hw.filter _
    obtain ⟨e, he, hbe⟩ := hok.top _ hsub (match_sub hm List.filter_sublist)
    have hperm : (w.filter (inP b (i + 1))).Perm (w.filter (inP b i) ++ w.filter fun s => decide (s.1 ∈ p)) := by
      have e1 : w.filter (inP b (i + 1)) = w.filter fun s => inP b i s || decide (s.1 ∈ p) := List.filter_congr fun s _ => inP_succ hp s
      rw [e1]
      refine filter_or _ _ w fun s hs' ⟨h1, h2⟩ => ?_
      unfold inP at h1
      rw [List.any_eq_true] at h1
      obtain ⟨q, hq, hsq⟩ := h1
      obtain ⟨j, hj, eq⟩ := List.getElem_of_mem hq
      rw [List.length_take] at hj
      rw [List.getElem_take] at eq
      have := List.pairwise_iff_getElem.mp (pc_ok b).apart j i (by omega) hpi (by omega)
      rw [eq, ep] at this
      exact this _ (of_decide_eq_true hsq) (of_decide_eq_true h2)
    obtain ⟨wl, hwl, rfl⟩ := sums_sound ok ht hs i _ h0 l hl
    obtain ⟨_, _, he3⟩ := hok.ok e he
    have hsum : below (loadOf b.n (w.filter (inP b (i + 1)))) (addL (loadOf b.n wl) e.1) = true := by
      rw [loadOf_perm hperm, loadOf_app]
      refine addL_mono hbl hbe ?_ ?_ ?_
      · rw [loadOf_len, loadOf_len]
      · rw [← he3, loadOf_len, loadOf_len]
      · rw [loadOf_len, loadOf_len]
    obtain ⟨g, hg1, hg2⟩ := hg.top (addL (loadOf b.n wl) e.1) (List.mem_flatMap.mpr ⟨_, hl, List.mem_map.mpr ⟨e.1, List.mem_map_of_mem he, rfl⟩⟩)
    obtain ⟨wg, _, rfl⟩ := sums_sound ok ht hs (i + 1) S h g hg1
    refine ⟨_, hg1, below_trans ?_ ?_ hsum hg2⟩
    · rw [loadOf_len, addL_len (by rw [loadOf_len, ← he3, loadOf_len]), loadOf_len]
    · rw [addL_len (by rw [loadOf_len, ← he3, loadOf_len]), loadOf_len, loadOf_len]
/-- what box_frame gives -/
structure FrameOk (b : Bo) (F : List (List Nat)) : Prop where
  ok : ∀ l ∈ F, ∃ w, Match w ∧ (∀ s ∈ w, s ∈ b.sw) ∧ loadOf b.n w = l
  top : ∀ w, w.Sublist b.sw → Match w → ∃ l ∈ F, below (loadOf b.n w) l = true
  nd : F.Nodup
end Bx

set_option Elab.async false
set_option linter.all false
set_option maxRecDepth 100000
set_option maxHeartbeats 4000000
set_option autoImplicit false
namespace Bx
open PySem L2 StX RZ
theorem tab_len {b : Bo} (hb : BoGood b) {p : List Pin} {T : Tab} (h : TabOk b.n (swIn b p) T) : T.length ≤ 1000 := by
  have := cap_few hb.n2 hb.cap h.nd fun l hl => by
    obtain ⟨e, he, rfl⟩ := List.mem_map.mp hl
    obtain ⟨h1, h2, h3⟩ := h.ok e he
    exact ⟨e.2, h2, fun s hs => hb.ok s (List.mem_filter.mp (h1.subset hs)).1, h3⟩
  rwa [List.length_map] at this
theorem sums_len {b : Bo} (hb : BoGood b) {tabs : List Tab} (ht : TabsIn b tabs) {sums : List (List (List Nat))} (hs : SumsOk b tabs sums) {i : Nat} {S : List (List Nat)} (h : sums[i]? = some S) : S.length ≤ 1000 ∧ S.Nodup := by
  have nd : S.Nodup := by
    cases i with
    | zero =>
      rw [hs.zero] at h
      cases h
      exact List.nodup_cons.mpr ⟨List.not_mem_nil, List.nodup_nil⟩
    | succ i =>
      have hi := (List.getElem?_eq_some_iff.mp h).1
      have hlen := hs.len
      exact (hs.step i _ _ S (List.getElem?_eq_getElem (by omega)) (List.getElem?_eq_getElem (by omega)) h).nd
  exact ⟨cap_few hb.n2 hb.cap nd fun l hl => by
    obtain ⟨w, hw, rfl⟩ := sums_sound hb.toBoOk ht hs i S h l hl
    exact hw.load hb.toBoOk, nd⟩
/-- sums on: a member of the next product is a load -/
theorem prod_load {b : Bo} (hb : BoGood b) {tabs : List Tab} (ht : TabsIn b tabs) {i : Nat} {sums : List (List (List Nat))} {S : List (List Nat)} {T : Tab} (hs : SumsOk b (tabs.take i) sums) (hS : sums[i]? = some S) (hT : tabs[i]? = some T) :
    ∀ l ∈ S.flatMap fun l => (T.map (·.1)).map (addL l), IsLoad b.n b.t l := by
  have ht' : TabsIn b (tabs.take i) := ⟨by rw [List.length_take]; have := ht.len; omega, fun j p tab h1 h2 => by
    by_cases c : j < i
    · rw [List.getElem?_take_of_lt c] at h2
      exact ht.ok j p tab h1 h2
    · rw [List.getElem?_take_eq_none (by omega)] at h2
      cases h2⟩
  intro l hl
  obtain ⟨a, ha, hla⟩ := List.mem_flatMap.mp hl
  obtain ⟨m, hm, rfl⟩ := List.mem_map.mp hla
  obtain ⟨e, he, rfl⟩ := List.mem_map.mp hm
  obtain ⟨w, hw, rfl⟩ := sums_sound hb.toBoOk ht' hs i _ hS a ha
  obtain ⟨p, hp, hok⟩ := pieces_at ht hT
  obtain ⟨h1, h2, h3⟩ := hok.ok e he
  exact ⟨w ++ e.2, (part_app hw hp h1 h2).mt, fun s hs' => hb.ok s ((part_app hw hp h1 h2).sub s hs'), by rw [loadOf_app, h3]⟩
theorem sums_snoc {b : Bo} {tabs : List Tab} {i : Nat} {sums : List (List (List Nat))} {S G : List (List Nat)} {T : Tab} (hs : SumsOk b (tabs.take i) sums) (hS : sums[i]? = some S) (hT : tabs[i]? = some T) (hG : Great (S.flatMap fun l => (T.map (·.1)).map (addL l)) G) :
    SumsOk b (tabs.take (i + 1)) (sums ++ [G]) := by
  have hi := (List.getElem?_eq_some_iff.mp hT).1
  have hlen : sums.length = i + 1 := by
    have := hs.len
    rw [List.length_take] at this
    omega
  refine ⟨?_, ?_, fun j S1 T1 S2 h1 h2 h3 => ?_⟩
  · rw [List.length_append, hlen, List.length_take, List.length_singleton]
    omega
  · rw [List.getElem?_append_left (by omega)]
    exact hs.zero
  · have hj : j < i + 1 := by
      have := (List.getElem?_eq_some_iff.mp h2).1
      rw [List.length_take] at this
      omega
    rw [List.getElem?_append_left (by omega)] at h1
    rw [List.getElem?_take_of_lt hj] at h2
    by_cases c : j = i
    · subst c
      rw [hS] at h1
      rw [hT] at h2
      cases h1
      cases h2
      rw [List.getElem?_append_right (by omega), hlen, Nat.sub_self] at h3
      cases h3
      exact hG
    · rw [List.getElem?_append_left (by omega)] at h3
      exact hs.step j S1 T1 S2 h1 (by rw [List.getElem?_take_of_lt (by omega)]; exact h2) h3
theorem tabs_in {b : Bo} {tabs : List Tab} (h : TabsOk b tabs) : TabsIn b tabs := ⟨Nat.le_of_eq h.1, h.2⟩
theorem tabs_take {b : Bo} {tabs : List Tab} (h : TabsIn b tabs) (i : Nat) : TabsIn b (tabs.take i) := ⟨by rw [List.length_take]; have := h.len; omega, fun j p tab h1 h2 => by
  by_cases c : j < i
  · rw [List.getElem?_take_of_lt c] at h2
    exact h.ok j p tab h1 h2
  · rw [List.getElem?_take_eq_none (by omega)] at h2
    cases h2⟩
theorem pieces_20 {b : Bo} (ok : BoOk b) : (piecesOf b).length ≤ 20 := by
  unfold piecesOf
  rw [List.length_mergeSort]
  have := pieces_len b.sw b.sw.length (Nat.le_refl _)
  rw [List.take_length] at this
  have := ok.few
  omega
theorem frame_of {b : Bo} (hb : BoGood b) {tabs : List Tab} (ht : TabsOk b tabs) {sums : List (List (List Nat))} (hs : SumsOk b tabs sums) {F : List (List Nat)} (h : sums[tabs.length]? = some F) : FrameOk b F := by
  refine ⟨fun l hl => ?_, fun w hw hm => ?_, (sums_len hb (tabs_in ht) hs h).2⟩
  · obtain ⟨w, hw, e⟩ := sums_sound hb.toBoOk (tabs_in ht) hs _ F h l hl
    exact ⟨w, hw.mt, hw.sub, e⟩
  · obtain ⟨l, hl, hbl⟩ := sums_top hb.toBoOk (tabs_in ht) hs hw hm _ F h
    have : w.filter (inP b tabs.length) = w := List.filter_eq_self.mpr fun s hs' => by
      unfold inP
      rw [ht.1, List.take_length, List.any_eq_true]
      obtain ⟨p, hp, hx⟩ := (pc_ok b).all s (hw.subset hs')
      exact ⟨p, hp, decide_eq_true hx⟩
    rw [this] at hbl
    exact ⟨l, hl, hbl⟩
theorem last_at {α : Type} {xs : List α} {x : α} {n : Nat} (hl : xs.length = n + 1) (h : xs[n]? = some x) : atI xs (-1) = some x := by
  have e : xs = xs.take n ++ [x] := by
    have h1 : xs.take (n + 1) = xs := List.take_of_length_le (by omega)
    rw [List.take_succ, h] at h1
    exact h1.symm
  rw [e]
  exact atI_last _ _
theorem ev_callX {ι : Type} {Φ : List Rl → Rl → Prop} {ta : TA} {E : XK} {σ : Sl} {W : Hw} {As : List Rl} {P : ι → Prop} {As' : ι → List Rl} {Rr : ι → Rl} (h : Ea ta σ W As) (op : ∀ vs H, Al id As vs H → ∃ x, P x ∧ Al id (As' x) vs H) (hΦ : ∀ x, P x → Φ (As' x) (Rr x)) :
    Ev (tCall (spF Φ) [] E ta) σ W (oE P Rr) := fun W1 e Q q => h W1 e _ fun vs W2 e2 r => by
  obtain ⟨x, hx, r'⟩ := op vs W2.g r
  exact ⟨W2, As' x, Rr x, rfl, hΦ x hx, by rw [List.append_nil]; exact r', fun v W3 e3 rv => q v W3 (e2.trans e3) ⟨x, hx, rv⟩⟩
theorem gv_last {α : Type} {K : PySem.W.Frag} {W : Hw} {S : α → Rl} {xs : List α} {x y : V} {n : Nat} {F : α} (hx : (oM S xs).is x W.g) (hy : y = .int (-1)) (hl : xs.length = n + 1) (hF : xs[n]? = some F) : Gv (fun Q => rIxL K x y W.h Q) W (S F) := by
  obtain ⟨a, vs, rfl, h2, h3⟩ := hx
  obtain ⟨u, hu, ru⟩ := h3.get n hF
  exact gv_one ru fun Q q => ⟨a, vs, -1, u, rfl, hy, SqL.of (W.le _ _ h2), last_at (h3.len.trans hl) hu, q⟩
abbrev s_sums_by : Stmt := top 52
abbrev N_sums_by : List Str := ["box", "tables", "found", "table", "load", "more"]
theorem sc_sums_by : FnScope N_sums_by ["box", "tables"] (defScope s_sums_by) := ⟨rfl, rfl, rfl, by decide +kernel, rfl, by decide +kernel, by decide +kernel⟩

inductive Φ_sums_by (K : PySem.W.Frag) (C : Addr) : List Rl → Rl → Prop
  | mk (b : Bo) (hb : BoGood b) (tabs : List Tab) (ht : TabsOk b tabs) : Φ_sums_by K C [oBox K C b, oM (fun tab => oTb K tab) tabs] (oE (SumsOk b tabs) fun sums => oM (fun F => oM oLd F) sums)
theorem ok_sums_by {P : Program} {w : World} {K : PySem.W.Frag} {mg : Str → Option Value} {base : Heap} {C : Addr} (T : Tx K mg C) (Dd : Df K mg "sums_by" "sums_by" s_sums_by ["box", "tables"]) (h_no_wires : Ca P w K mg base 2 "no_wires" ["box"] ((spF (Φ_no_wires K C)))) (h_sum_of : Ca P w K mg base 1 "sum_of" ["load", "other"] ((spF (Φ_sum_of K C)))) (h_greatest_of : Ca P w K mg base 3 "greatest_of" ["loads"] ((spF (Φ_greatest_of K C)))) :
    Ca P w K mg base 4 "sums_by" ["box", "tables"] ((spF (Φ_sums_by K C))) := by
  refine ok_of Dd sc_sums_by (fun As R h => by cases h <;> rfl) (fun f cdv A outer s E W vs As R Q hr hΦ hA k => ?_)
  have hu := hu_any hr
  have nd := sc_sums_by.nd
  refine ⟨_, (pss_cons (ps_set (i := 2) nd rfl (Or.inl rfl) (pe_lst (pa_cons (pe_lst (pa_cons (pe_ca h_no_wires hr rfl (pa_cons (pv 0) pa_nil)) pa_nil)) pa_nil)))
      (pss_cons (ps_for PassesOwn.never rfl (pi_listK (K := K) rfl (pv 1)) (pg_name (i := 3) nd rfl (Or.inr rfl)) (pss_cons (ps_expr (pe_bmK (K := K) rfl PySem.F.plainAttrs_list PySem.F.slot_list_append PySem.F.type_list_append mt_append (pv 2) (pa_cons (pe_ca h_greatest_of hr rfl (pa_cons (pe_lc2 (own := [("load", 4), ("more", 5)]) (vs1 := [5]) rfl nd (pi_listK (K := K) rfl (pe_ix (ixL (K := K) rfl) (pv 2) (pe_un un_neg pe_int) (fun _ _ => rfl))) (blkOk_by (N := N_sums_by) (sc := defScope s_sums_by) (by decide +kernel)) (by decide) (fun _ _ _ _ _ => (pg_name (i := 4) nd rfl (Or.inl rfl))) (fun _ _ _ _ _ => pts_nil) (fun _ _ _ _ _ => (pi_keys (pv 3))) (fun _ _ _ _ _ => (pg_name (i := 5) nd rfl (Or.inl rfl))) (fun _ _ _ _ _ => pts_nil) (fun _ _ _ _ _ => (pe_ca h_sum_of hr rfl (pa_cons (pv 4) (pa_cons (pv 5) pa_nil))))) pa_nil)) pa_nil)))
      (pss_one (ps_if (pt_cmpR op_gt (pe_callB (lenK (K := K) rfl) rfl T.n_len boot_len' (pa_cons (pe_ix (ixL (K := K) rfl) (pv 2) (pe_un un_neg pe_int) (fun _ _ => rfl)) pa_nil)) (pe_gc T.c_MOST_SUMS rfl) (nomark _)) pss_never pss_nil))))
      (pss_one (ps_ret (pv 2))))), ?_⟩
  cases hΦ with
  | mk b hb tabs ht =>
    obtain ⟨v0, v1, rfl, h0, h1⟩ := two_args hA
    have hti := tabs_in ht
    have htl : tabs.length ≤ 20 := by
      rw [ht.1]
      exact pieces_20 hb.toBoOk
    refine q_setn (evn_lst (S := fun F => oM oLd F) (xs := [[noLoad b.n]]) (ea_cons (ev_lstM (R := oLd) (xs := [noLoad b.n]) (ea_cons (ev_call (ea_cons (ev_var rfl h0) ea_nil) (Φ_no_wires.mk b hb.toBoOk)) ea_nil) rfl (show 1 ≤ 1000000 by decide)) ea_nil) rfl (show 1 ≤ 1000000 by decide)) fun p W1 acc f1 r1 => ?_
    refine q_for (xs := tabs) (S := fun tab => oTb K tab) (src_list (ev_var rfl (oM_L (Rl.mv _ f1.gr.g h1)))) (fun i σ' W' => ∃ (sums : List (List (List Nat))) (acc : List V) (x3 x4 x5 : Option V), σ' = [some v0, some v1, some (.ref p), x3, x4, x5] ∧ Fl W W' p acc ∧ Al (fun F => oM oLd F) sums acc W'.g ∧ SumsOk b (tabs.take i) sums) ?_ ?_ ?_
    · refine fun W2 e2 => ⟨[[noLoad b.n]], acc, none, none, none, rfl, f1.up e2, r1.up e2.g, rfl, rfl, fun i S T S' h1 h2 => ?_⟩
      rw [List.take_zero] at h2
      cases h2
    · rintro i T σ' W' W2 v D' hx ⟨sums, acc, x3, x4, x5, rfl, f, ra, hs⟩ e2 hg rv kn
      have hi : i < tabs.length := (List.getElem?_eq_some_iff.mp hx).1
      have hsl : sums.length = i + 1 := by
        have := hs.len
        rw [List.length_take] at this
        omega
      obtain ⟨S, hS⟩ : ∃ S, sums[i]? = some S := ⟨_, List.getElem?_eq_getElem (by omega)⟩
      obtain ⟨pp, hpp, hTok⟩ := pieces_at hti hx
      have hTl := tab_len hb hTok
      have hSl := (sums_len hb (tabs_take hti i) hs hS).1
      have f := f.up e2
      have ra := ra.up e2.g
      have hload := prod_load hb hti hs hS hx
      have hpl : (S.flatMap fun l => (T.map (·.1)).map (addL l)).length ≤ 1000000 := by
        rw [List.length_flatMap]
        have : (S.map fun a => ((T.map (·.1)).map (addL a)).length) = S.map fun _ => T.length := List.map_congr_left fun a _ => by rw [List.length_map, List.length_map]
        rw [this, List.map_const', List.sum_replicate_nat]
        exact Nat.le_trans (Nat.mul_le_mul hSl hTl) (by decide)
      have hpb := pairs_pos hb.n1 hb.n2
      have hpf := pairs_few hb.n2
      have hlen : ∀ l, IsLoad b.n b.t l → l.length = (pairsOf b.n).length := fun l ⟨w, _, _, e⟩ => by rw [← e, loadOf_len]
      refine q_append rfl f (R := oE (Great (S.flatMap fun l => (T.map (·.1)).map (addL l))) fun G => oM oLd G) (ev_call (ea_cons (ev_L (ev_lc2A (xs := S) (S := oLd) (fun _ => T.map (·.1)) addL (fun _ => oLd) oLd (src_list (ev_L (hid_ix (S := fun F => oM oLd F) (k := -1) rfl f ra (ev_neg ev_c) (last_at hsl hS)))) hpl (fun _ => rfl) (fun _ _ => rfl) fun l hl W3 v3 e3 r3 => ⟨src_keys (ev_var rfl (Rl.mv _ e3.g rv)), fun m hm W4 u e4 r4 r4' => ?_⟩)) ea_nil) (Φ_greatest_of.mk _ (fun l hl => ?_) (fun D nd sub => ?_) hpl)) (by rw [ra.len]; omega) fun vG W3 e3 f3 ⟨G, hG, rG⟩ => ?_
      · refine ev_call (ea_cons (ev_imp (ev_var rfl r4) fun _ _ => ld_X) (ea_cons (ev_imp (ev_var rfl r4') fun _ _ => ld_X) ea_nil)) (Φ_sum_of.mk l m ?_)
        obtain ⟨w, _, rfl⟩ := sums_sound hb.toBoOk (tabs_take hti i) hs i S hS l hl
        rw [loadOf_len]
        omega
      · rw [hlen l (hload l hl)]
        omega
      · exact Nat.le_trans (cap_few hb.n2 hb.cap nd fun l hl => hload l (sub l hl)) (by decide)
      · have hs' := sums_snoc hs hS hx hG
        have f4 := f3.to (acc ++ [vG])
        have ra4 : Al (fun F => oM oLd F) (sums ++ [G]) (acc ++ [vG]) (W3.own p (.lst (acc ++ [vG])) f3.hid).g := (ra.up e3.g).snoc rG
        have g4 : Same W'.g (W3.own p (.lst (acc ++ [vG])) f3.hid).g := e2.g.trans e3.g
        generalize W3.own p (.lst (acc ++ [vG])) f3.hid = W4 at f4 ra4 g4
        have hGat : (sums ++ [G])[i + 1]? = some G := by
          rw [List.getElem?_append_right (by omega), hsl, Nat.sub_self]
          rfl
        have hGl := (sums_len hb (tabs_take hti (i + 1)) hs' hGat).1
        refine s_not (eb_test (Ev.val (ev_i0 (ev_lenL (K := K) (S := oLd) (xs := G) (ea_cons (ev_L (hid_ix (S := fun F => oM oLd F) (k := -1) rfl f4 ra4 (ev_neg ev_c) (last_at (n := i + 1) (by rw [List.length_append, hsl]; rfl) hGat))) ea_nil)) ev_c) (congrArg V.bl (dec_f (by omega))))) fun W5 e5 => kn _ W5 (g4.trans e5.g) ⟨_, _, some v, x4, x5, rfl, f4.up e5, ra4.up e5.g, hs'⟩
    · rintro σ' W' hg ⟨sums, acc, x3, x4, x5, rfl, f, ra, hs⟩
      rw [List.take_length] at hs
      show tRet _ _ _ (W'.fix p (.lst acc) f.at_).h
      exact s_ret (ev_var (R := oE (SumsOk b tabs) fun sums => oM (fun F => oM oLd F) sums) rfl ⟨sums, hs, f.got ra⟩) fun v W3 e3 r => k v W3 (f.fix.trans e3) r
abbrev s_box_frame : Stmt := top 53
abbrev N_box_frame : List Str := ["box"]
theorem sc_box_frame : FnScope N_box_frame ["box"] (defScope s_box_frame) := ⟨rfl, rfl, rfl, by decide +kernel, rfl, by decide +kernel, by decide +kernel⟩

inductive Φ_box_frame (K : PySem.W.Frag) (C : Addr) : List Rl → Rl → Prop
  | mk (b : Bo) (hb : BoGood b) : Φ_box_frame K C [oBox K C b] (oE (FrameOk b) fun F => oU oLd F)
theorem ok_box_frame {P : Program} {w : World} {K : PySem.W.Frag} {mg : Str → Option Value} {base : Heap} {C : Addr} (T : Tx K mg C) (Dd : Df K mg "box_frame" "box_frame" s_box_frame ["box"]) (h_need_box : Ca P w K mg base 1 "need_box" ["box"] ((spF (Φ_need_box K C)))) (h_all_best : Ca P w K mg base 5 "all_best" ["box"] ((spF (Φ_all_best K C)))) (h_sums_by : Ca P w K mg base 4 "sums_by" ["box", "tables"] ((spF (Φ_sums_by K C)))) :
    Ca P w K mg base 6 "box_frame" ["box"] ((spF (Φ_box_frame K C))) := by
  refine ok_of Dd sc_box_frame (fun As R h => by cases h <;> rfl) (fun f cdv A outer s E W vs As R Q hr hΦ hA k => ?_)
  have hu := hu_any hr
  have nd := sc_box_frame.nd
  refine ⟨_, (pss_cons (ps_expr (pe_ca h_need_box hr rfl (pa_cons (pv 0) pa_nil)))
      (pss_one (ps_ret (pe_callTy (tupK (K := K) rfl) rfl T.n_tuple boot_tuple' (pa_cons (pe_ix (ixL (K := K) rfl) (pe_ca h_sums_by hr rfl (pa_cons (pv 0) (pa_cons (pe_ca h_all_best hr rfl (pa_cons (pv 0) pa_nil)) pa_nil))) (pe_un un_neg pe_int) (fun _ _ => rfl)) pa_nil))))), ?_⟩
  cases hΦ with
  | mk b hb =>
    obtain ⟨v0, rfl, h0⟩ := one_arg hA
    refine q_drop (ev_call (ea_cons (ev_var rfl h0) ea_nil) (Φ_need_box.mk _)) fun _ W1 e1 _ => ?_
    have h0 := Rl.mv _ e1.g h0
    refine s_ret (R := oE (FrameOk b) fun F => oU oLd F) ?_ fun v W2 e2 r => k v W2 (e1.trans e2) r
    refine ev_cb (Rs := [oE (FrameOk b) fun F => oM oLd F]) (ea_cons (ev_op (A := oE (TabsOk b) fun tabs => oE (SumsOk b tabs) fun sums => oM (fun F => oM oLd F) sums) (B := oI (-1)) (ev_callX (As' := fun tabs => [oBox K C b, oM (fun tab => oTb K tab) tabs]) (ea_cons (ev_var rfl h0) (ea_cons (ev_call (ea_cons (ev_var rfl h0) ea_nil) (Φ_all_best.mk b hb.toBoOk hb.pc)) ea_nil)) (fun vs H h => ?_) fun tabs ht => Φ_sums_by.mk b hb tabs ht) (ev_neg ev_c) fun x y W' _ ⟨tabs, ht, sums, hs, hx⟩ hy => ?_) ea_nil) fun vs W' _ r => ?_
    · obtain ⟨x, y, rfl, hx, ⟨tabs, ht, hy⟩⟩ := two_args h
      exact ⟨tabs, ht, hx, hy, trivial⟩
    · have hF : sums[tabs.length]? = some (sums[tabs.length]'(by have := hs.len; omega)) := List.getElem?_eq_getElem _
      exact fun Q q => gv_last (K := K) hx hy hs.len hF Q fun v W2 e2 r => q v W2 e2 ⟨_, frame_of hb ht hs hF, r⟩
    · obtain ⟨x, rfl, F, hF, a, us, rfl, hs, hal⟩ := one_arg r
      exact gv_new (o := .tup us) (fun Q q => ⟨a, us, rfl, .inl ⟨SqL.of (W'.le _ _ hs), q⟩⟩) fun p hp => ⟨F, hF, p, _, rfl, upd_same, hal.up (same_new (Hw.free hp))⟩
end Bx

set_option Elab.async false
set_option linter.all false
set_option maxRecDepth 100000
set_option maxHeartbeats 4000000
set_option autoImplicit false
namespace Bx
open PySem L2 StX RZ
/-! ### a way cut down to a load -/
theorem exists_fn : ∀ {ps : List Pin} {l : List Nat}, ps.Nodup → l.length = ps.length → ∃ c : Pin → Nat, l = ps.map c
  | [], [], _, _ => ⟨fun _ => 0, rfl⟩
  | p :: ps, x :: l, h, e => by
    rw [List.nodup_cons] at h
    obtain ⟨c, hc⟩ := exists_fn h.2 (l := l) (by simpa using e)
    refine ⟨fun q => if q = p then x else c q, ?_⟩
    rw [List.map_cons, if_pos rfl, hc]
    congr 1
    apply List.map_congr_left
    intro q hq
    rw [if_neg (fun z : q = p => h.1 (z ▸ hq))]
  | [], _ :: _, _, e => by simp at e
  | _ :: _, [], _, e => by simp at e
structure CutAt (c : Pin → Nat) (w k : List Sw) (i : Nat) : Prop where
  sub : k.Sublist (w.take i)
  cnt : ∀ p, (k.map sideOf).count p = min (((w.take i).map sideOf).count p) (c p)
theorem cut_step {n : Nat} {c : Pin → Nat} {w k : List Sw} {i : Nat} {s : Sw} (h : CutAt c w k i) (hs : w[i]? = some s) (hp : sideOf s ∈ pairsOf n) :
    (below (loadOf n (k ++ [s])) ((pairsOf n).map c) = true → CutAt c w (k ++ [s]) (i + 1)) ∧ (below (loadOf n (k ++ [s])) ((pairsOf n).map c) = false → CutAt c w k (i + 1)) := by
  have e : w.take (i + 1) = w.take i ++ [s] := by
    rw [List.take_succ, hs]
    rfl
  have c1 : ∀ (u : List Sw) (p : Pin), ((u ++ [s]).map sideOf).count p = (u.map sideOf).count p + if sideOf s = p then 1 else 0 := fun u p => by
    rw [List.map_append, List.count_append]
    congr 1
    show List.count p [sideOf s] = _
    rw [List.count_singleton]
    by_cases q : sideOf s = p
    · rw [if_pos q, if_pos (beq_iff_eq.mpr q)]
    · rw [if_neg q, if_neg (fun z => q (beq_iff_eq.mp z))]
  refine ⟨fun hb => ⟨by rw [e]; exact h.sub.append (List.Sublist.refl _), fun p => ?_⟩, fun hb => ⟨by rw [e]; exact h.sub.trans (List.sublist_append_left _ _), fun p => ?_⟩⟩
  · rw [c1, e, c1]
    have hc := h.cnt p
    by_cases q : sideOf s = p
    · subst q
      have := (below_map _ _ _).mp (show below ((pairsOf n).map fun p => (((k ++ [s]).map sideOf).count p)) ((pairsOf n).map c) = true from hb) _ hp
      rw [c1, if_pos rfl] at this
      rw [if_pos rfl]
      omega
    · rw [if_neg q]
      omega
  · rw [e, c1]
    have hc := h.cnt p
    by_cases q : sideOf s = p
    · subst q
      rw [if_pos rfl]
      have : ¬ ((k.map sideOf).count (sideOf s) + 1 ≤ c (sideOf s)) := fun hle => by
        have : below (loadOf n (k ++ [s])) ((pairsOf n).map c) = true := (below_map _ _ _).mpr fun p hp' => by
          rw [c1]
          by_cases q : sideOf s = p
          · subst q
            rw [if_pos rfl]
            exact hle
          · rw [if_neg q]
            have := h.cnt p
            omega
        rw [this] at hb
        cases hb
      omega
    · rw [if_neg q]
      omega
theorem cut_start (c : Pin → Nat) (w : List Sw) : CutAt c w [] 0 := ⟨List.nil_sublist _, fun p => by simp⟩
theorem cut_end {n : Nat} {c : Pin → Nat} {w k : List Sw} (h : CutAt c w k w.length) (hb : below ((pairsOf n).map c) (loadOf n w) = true) : loadOf n k = (pairsOf n).map c := by
  unfold loadOf
  apply List.map_congr_left
  intro p hp
  have h1 := h.cnt p
  rw [List.take_length] at h1
  have h2 := (below_map _ _ _).mp (show below ((pairsOf n).map c) ((pairsOf n).map fun p => (w.map sideOf).count p) = true from hb) p hp
  omega
theorem pair_mem {n : Nat} {a b : Nat} (h1 : a < b) (h2 : b < n) : (a, b) ∈ pairsOf n := by
  unfold pairsOf
  rw [List.mem_flatMap]
  exact ⟨a, List.mem_range.mpr (by omega), List.mem_map.mpr ⟨b, List.mem_range'_1.mpr ⟨by omega, by omega⟩, rfl⟩⟩
theorem side_mem {n t : Nat} {s : Sw} (h : okSw s n t) : sideOf s ∈ pairsOf n := pair_mem h.2.2.2.2 h.2.2.1
section
variable {α β : Type} {K : PySem.W.Frag} {σ : Sl} {W W' W0 : Hw} {A B C R : Rl} {S : α → Rl} {xs : List α} {ta tb tc te : TE} {D : Ends} {u : TS} {i j : Nat} {p : Addr} {acc : List V}
theorem q_asgVN (h1 : Ev ta σ W A) (h2 : Evn tb σ W S xs) (k : ∀ v p W' acc, Fl W W' p acc → A.is v W'.g → Al S xs acc W'.g → u D ((σ.set i (some v)).set j (some (.ref p))) W'.h) :
    tSeq (tAsg (tTup (tCons ta (tCons tb tNil))) (gTup K 2 (gCons (gName i) (gCons (gName j) gNil)))) u D σ W.h := h1 W (Gr.refl W) _ fun v W1 e1 r1 => h2 W1 e1 _ fun p W2 acc f2 r2 => by
  refine ⟨small (show 2 ≤ 1000000 by decide), fun q hq => ⟨q, [v, .ref p], rfl, SqT.of upd_same, rfl, v, [.ref p], rfl, .ref p, [], rfl, rfl, ?_⟩⟩
  exact k v p (W2.new q (.tup [v, .ref p])) acc ((f2.back e1).up (gr_new hq)) (A.up (f2.gr.trans (gr_new hq)).g r1) (r2.up (gr_new hq).g)
theorem s_extend {P : List α → Prop} (hv : σ[i]? = some (some (.ref p))) (f : Fl W0 W p acc) (he : Ev te σ W (oE P fun ys => oT K S ys)) (hl : ∀ ys, P ys → acc.length + ys.length ≤ 1000000)
    (k : ∀ ys us W' (e : Gr W W') (f' : Fl W0 W' p acc), P ys → Al S ys us W'.g → D.nx σ (W'.own p (.lst (acc ++ us)) f'.hid).h) : tDrop (tBM K "list" (rExtT K) (tVar i) (tCons te tNil)) D σ W.h := by
  refine ⟨.ref p, hv, .inl ⟨rfl, acc, SqL.of f.at_⟩, he W (Gr.refl W) _ fun v W' e ⟨ys, hP, a, us, hv', hs, r⟩ => ?_⟩
  subst hv'
  have f' := f.up e
  exact ⟨p, a, acc, us, rfl, rfl, f'.at_, same_tup W'.le hs, by rw [r.len]; exact small (hl ys hP), k ys us W' e f' hP r⟩
/-- range(m - 1, -1, -1) -/
theorem src_down {ta : TA} {m : Nat} {z : Int} (h : Ea ta σ W [oI z, oI (-1), oI (-1)]) (hz : z = (m : Int) - 1) (hm : m ≤ 1000000) : Src (iRng3 ta) σ W (List.range m).reverse oK := fun W1 e F f => h W1 e _ fun vs W2 e2 r => by
  obtain ⟨x, y, w, rfl, rfl, rfl, rfl⟩ := three_args r
  have hc := RgC.neg (i := z) (j := -1) (by omega) (by omega) (by decide) (by decide)
  have hn : (z - -1).toNat = m := by omega
  rw [hn] at hc
  refine ⟨z, -1, -1, m, rfl, hc, f _ W2 e2 ⟨fun i H' _ hi => ?_, fun H' _ => ?_, fun i x W' v H'' _ hx y => ?_⟩⟩
  · rw [List.length_reverse, List.length_range] at hi
    exact hi
  · rw [List.length_reverse, List.length_range]
    exact Nat.le_refl m
  · obtain ⟨rfl, rfl⟩ := y
    refine ⟨W', Gr.refl _, rfl, ?_⟩
    obtain ⟨hi, hx⟩ := List.getElem?_eq_some_iff.mp hx
    rw [List.length_reverse, List.length_range] at hi
    rw [List.getElem_reverse, List.getElem_range, List.length_range] at hx
    show V.int (z + (i : Nat) * -1) = V.int (x : Int)
    congr 1
    omega
end
theorem match_nodup {w : List Sw} (h : Match w) : w.Nodup := by
  induction w with
  | nil => exact List.nodup_nil
  | cons s w ih =>
    unfold Match at h
    rw [List.flatMap_cons, List.nodup_append] at h
    refine List.nodup_cons.mpr ⟨fun hs => ?_, ih h.2.1⟩
    exact h.2.2 s.1 List.mem_cons_self s.1 (List.mem_flatMap.mpr ⟨s, hs, List.mem_cons_self⟩) rfl
theorem perm_flat {α β : Type} (f : α → List β) {w v : List α} (h : w.Perm v) : (w.flatMap f).Perm (v.flatMap f) := by
  induction h with
  | nil => exact List.Perm.refl _
  | cons x h ih =>
    rw [List.flatMap_cons, List.flatMap_cons]
    exact ih.append_left _
  | swap x y l =>
    rw [List.flatMap_cons, List.flatMap_cons, List.flatMap_cons, List.flatMap_cons, ← List.append_assoc, ← List.append_assoc]
    exact List.perm_append_comm.append_right _
  | trans h1 h2 ih1 ih2 => exact ih1.trans ih2
theorem match_perm {w v : List Sw} (h : w.Perm v) (hm : Match w) : Match v := (perm_flat pins h).nodup_iff.mp hm
abbrev s_cut_down : Stmt := top 54
abbrev N_cut_down : List Str := ["sides", "way", "load", "kept", "switch"]
theorem sc_cut_down : FnScope N_cut_down ["sides", "way", "load"] (defScope s_cut_down) := ⟨rfl, rfl, rfl, by decide +kernel, rfl, by decide +kernel, by decide +kernel⟩

inductive Φ_cut_down (K : PySem.W.Frag) (C : Addr) : List Rl → Rl → Prop
  | mk (n : Nat) (h2 : n ≤ 5) (w : List Sw) (hw : w.length ≤ 20) (hp : ∀ s ∈ w, sideOf s ∈ pairsOf n) (l : List Nat) (hl : l.length = (pairsOf n).length) (hb : below l (loadOf n w) = true) :
      Φ_cut_down K C [oK n, oM (fun s : Sw => oX K s) w, oX K l] (oE (fun k => k.Sublist w ∧ loadOf n k = l) fun k => oX K k)
theorem ok_cut_down {P : Program} {w : World} {K : PySem.W.Frag} {mg : Str → Option Value} {base : Heap} {C : Addr} (T : Tx K mg C) (Dd : Df K mg "cut_down" "cut_down" s_cut_down ["sides", "way", "load"]) (h_load_of : Ca P w K mg base 2 "load_of" ["sides", "way"] ((spF (Φ_load_of K C)))) (h_is_below : Ca P w K mg base 1 "is_below" ["load", "other"] ((spF (Φ_is_below K C)))) :
    Ca P w K mg base 3 "cut_down" ["sides", "way", "load"] ((spF (Φ_cut_down K C))) := by
  refine ok_of Dd sc_cut_down (fun As R h => by cases h <;> rfl) (fun f cdv A outer s E W vs As R Q hr hΦ hA k => ?_)
  have hu := hu_any hr
  have nd := sc_cut_down.nd
  refine ⟨_, (pss_cons (ps_set (i := 3) nd rfl (Or.inl rfl) (pe_lst pa_nil))
      (pss_cons (ps_for PassesOwn.never rfl (pi_listK (K := K) rfl (pv 1)) (pg_name (i := 4) nd rfl (Or.inl rfl)) (pss_one (ps_if (pt_val (pe_ca h_is_below hr rfl (pa_cons (pe_ca h_load_of hr rfl (pa_cons (pv 0) (pa_cons (pe_lst (pa_starK (K := K) rfl (pv 3) (pa_cons (pv 4) pa_nil))) pa_nil))) (pa_cons (pv 2) pa_nil)))) (pss_one (ps_expr (pe_bmK (K := K) rfl PySem.F.plainAttrs_list PySem.F.slot_list_append PySem.F.type_list_append mt_append (pv 3) (pa_cons (pv 4) pa_nil)))) pss_nil)))
      (pss_one (ps_ret (pe_callTy (tupK (K := K) rfl) rfl T.n_tuple boot_tuple' (pa_cons (pv 3) pa_nil)))))), ?_⟩
  cases hΦ with
  | mk n h2 w hw hp l hl hb =>
    obtain ⟨v0, v1, v2, rfl, h0, h1, h2'⟩ := three_args hA
    obtain ⟨c, rfl⟩ := exists_fn (pairs_nodup n h2) hl
    have hpf := pairs_few h2
    refine q_setn (S := fun s : Sw => oX K s) (xs := []) evn_nil fun p W1 acc f1 r1 => ?_
    have h0 := Rl.mv _ f1.gr.g h0
    have h1 := Rl.mv _ f1.gr.g h1
    have h2' := Rl.mv _ f1.gr.g h2'
    refine q_for (xs := w) (S := fun s : Sw => oX K s) (src_list (ev_var rfl (oM_L h1))) (fun i σ' W' => ∃ (k : List Sw) (acc : List V) (x4 : Option V), σ' = [some v0, some v1, some v2, some (.ref p), x4] ∧ Same W1.g W'.g ∧ Fl W W' p acc ∧ Al (fun s : Sw => oX K s) k acc W'.g ∧ CutAt c w k i) ?_ ?_ ?_
    · have hacc : acc = [] := List.eq_nil_of_length_eq_zero r1.len
      subst hacc
      exact fun W2 e2 => ⟨[], [], none, rfl, e2.g, f1.up e2, trivial, cut_start c w⟩
    · rintro i s σ' W' W2 v D' hx ⟨k', acc, x4, rfl, g1, f, ra, hc⟩ e2 hg rv kn
      have hi : i < w.length := (List.getElem?_eq_some_iff.mp hx).1
      have hs := hp s (List.mem_of_getElem? hx)
      have hkl : k'.length ≤ 20 := by
        have := hc.sub.length_le
        rw [List.length_take] at this
        omega
      have f := f.up e2
      have ra := ra.up e2.g
      have g2 := g1.trans e2.g
      obtain ⟨c1, c2⟩ := cut_step (n := n) hc hx hs
      refine s_if (eb_B (ev_call (ea_cons (ev_imp (ev_call (ea_cons (ev_var rfl (Rl.mv _ g2 h0)) (ea_cons (ev_L (K := K) (ev_lstM (R := fun s : Sw => oX K s) (xs := k' ++ [s]) (hid_star rfl f ra (ea_cons (ev_var rfl rv) ea_nil)) (by rw [List.map_append]; rfl) (by rw [List.length_append, List.length_singleton]; omega))) ea_nil)) (Φ_load_of.lst n h2 (k' ++ [s]) (by rw [List.length_append, List.length_singleton]; omega))) fun _ _ => ld_X) (ea_cons (ev_var rfl (Rl.mv _ g2 h2')) ea_nil)) (Φ_is_below.mk _ _ (by rw [loadOf_len]; omega)))) (fun hb' W3 e3 => ?_) fun hb' W3 e3 => ?_
      · refine s_append rfl (f.up e3) (ev_var (R := oX K s) rfl (Rl.mv _ e3.g rv)) (by rw [(ra.up e3.g).len]; omega) fun z W4 e4 f4 r4 => ?_
        exact kn _ (W4.own p (.lst (acc ++ [z])) f4.hid) ((e2.g.trans e3.g).trans e4.g) ⟨k' ++ [s], acc ++ [z], some v, rfl, (g2.trans e3.g).trans e4.g, f4.to _, (ra.up (e3.trans e4).g).snoc r4, c1 hb'⟩
      · exact kn _ W3 (e2.g.trans e3.g) ⟨k', acc, some v, rfl, g2.trans e3.g, f.up e3, ra.up e3.g, c2 hb'⟩
    · rintro σ' W' hg ⟨k', acc, x4, rfl, g1, f, ra, hc⟩
      show tRet _ _ _ (W'.fix p (.lst acc) f.at_).h
      exact s_ret (ev_imp (ev_tupL (K := K) (S := fun s : Sw => oX K s) (xs := k') (ea_cons (ev_var rfl (oM_L (f.got ra))) ea_nil)) fun v H h => (⟨k', ⟨hc.sub.trans (List.take_sublist _ _), cut_end hc hb⟩, T_way (oU_T h)⟩ : (oE (fun k => k.Sublist w ∧ loadOf n k = (pairsOf n).map c) fun k => oX K k).is v H)) fun v W3 e3 r => k v W3 (f.fix.trans e3) r
end Bx

set_option Elab.async false
set_option linter.all false
set_option maxRecDepth 100000
set_option maxHeartbeats 4000000
set_option autoImplicit false
namespace Bx
open PySem L2 StX RZ
structure Hi (b : Bo) (j : Nat) (w : List Sw) : Prop where
  mt : Match w
  sub : ∀ s ∈ w, s ∈ b.sw
  high : ∀ s ∈ w, ∃ (a : Nat) (p : List Pin), j ≤ a ∧ (piecesOf b)[a]? = some p ∧ s.1 ∈ p
theorem hi_app {b : Bo} {i : Nat} {p : List Pin} {w v : List Sw} (h : Hi b (i + 1) w) (hp : (piecesOf b)[i]? = some p) (hv : v.Sublist (swIn b p)) (hm : Match v) : Hi b i (w ++ v) := by
  have pc := pc_ok b
  have hvp : ∀ s ∈ v, s ∈ b.sw ∧ s.1 ∈ p := fun s hs => by
    have := List.mem_filter.mp (hv.subset hs)
    exact ⟨this.1, of_decide_eq_true this.2⟩
  obtain ⟨hi, ep⟩ := List.getElem?_eq_some_iff.mp hp
  refine ⟨?_, fun s hs => (List.mem_append.mp hs).elim (h.sub s) fun z => (hvp s z).1, fun s hs => ?_⟩
  · unfold Match
    rw [List.flatMap_append, List.nodup_append]
    refine ⟨h.mt, hm, fun x hx y hy e => ?_⟩
    subst e
    obtain ⟨s, hs, hxs⟩ := List.mem_flatMap.mp hx
    obtain ⟨t, ht, hxt⟩ := List.mem_flatMap.mp hy
    obtain ⟨j, q, hj, hq, hsq⟩ := h.high s hs
    obtain ⟨hj', eq⟩ := List.getElem?_eq_some_iff.mp hq
    have x1 : x ∈ q := by
      simp only [pins, List.mem_cons, List.not_mem_nil, or_false] at hxs
      rcases hxs with rfl | rfl
      · exact hsq
      · exact (pc.both q (List.mem_of_getElem? hq) s (h.sub s hs)).mp hsq
    have x2 : x ∈ p := by
      simp only [pins, List.mem_cons, List.not_mem_nil, or_false] at hxt
      rcases hxt with rfl | rfl
      · exact (hvp t ht).2
      · exact (pc.both p (List.mem_of_getElem? hp) t (hvp t ht).1).mp (hvp t ht).2
    have := List.pairwise_iff_getElem.mp pc.apart i j hi hj' (by omega)
    rw [eq, ep] at this
    exact this x x2 x1
  · rcases List.mem_append.mp hs with hs | hs
    · obtain ⟨j, q, hj, hq, hsq⟩ := h.high s hs
      exact ⟨j, q, by omega, hq, hsq⟩
    · exact ⟨i, p, Nat.le_refl i, hp, (hvp s hs).2⟩
theorem Hi.len {b : Bo} {j : Nat} {w : List Sw} (h : Hi b j w) : w.length ≤ b.sw.length := nodup_len (match_nodup h.mt) h.sub
theorem flat_le {α β : Type} {f : α → List β} {k : Nat} (h : ∀ a, (f a).length ≤ k) : ∀ xs : List α, (xs.flatMap f).length ≤ xs.length * k
  | [] => Nat.le_of_eq (Nat.zero_mul k).symm
  | x :: xs => by
    have ih := flat_le h xs
    have := h x
    rw [List.flatMap_cons, List.length_append, List.length_cons, Nat.succ_mul]
    omega
def oLL (q : List Nat × List Nat) : Rl := oU id [oLd q.1, oLd q.2]
theorem addL_zero {b : Bo} (ok : BoOk b) {tabs : List Tab} (ht : TabsIn b tabs) {sums : List (List (List Nat))} (hs : SumsOk b tabs sums) {i : Nat} {S : List (List Nat)} (h : sums[i]? = some S) {l : List Nat} (hl : l ∈ S) : addL l (loadOf b.n []) = l := by
  obtain ⟨w, _, rfl⟩ := sums_sound ok ht hs i S h l hl
  rw [← loadOf_app, List.append_nil]
abbrev s_parts_for : Stmt := top 55
abbrev N_parts_for : List Str := ["box", "tables", "sums", "load", "want", "way", "one", "at", "some", "ahead", "more"]
theorem sc_parts_for : FnScope N_parts_for ["box", "tables", "sums", "load"] (defScope s_parts_for) := ⟨rfl, rfl, rfl, by decide +kernel, rfl, by decide +kernel, by decide +kernel⟩

inductive Φ_parts_for (K : PySem.W.Frag) (C : Addr) : List Rl → Rl → Prop
  | mk (b : Bo) (hb : BoGood b) (tabs : List Tab) (ht : TabsOk b tabs) (sums : List (List (List Nat))) (hs : SumsOk b tabs sums) (F : List (List Nat)) (hF : sums[tabs.length]? = some F) (l : List Nat) (hl : l.length = (pairsOf b.n).length) (hb' : F.any (below l) = true) :
      Φ_parts_for K C [oBox K C b, oM (fun tab => oTb K tab) tabs, oM (fun F => oM oLd F) sums, oX K l] (oE (fun w => WayOf b w ∧ below l (loadOf b.n w) = true) fun w => oM (fun s : Sw => oX K s) w)
theorem ok_parts_for {P : Program} {w : World} {K : PySem.W.Frag} {mg : Str → Option Value} {base : Heap} {C : Addr} (T : Tx K mg C) (Dd : Df K mg "parts_for" "parts_for" s_parts_for ["box", "tables", "sums", "load"]) (h_is_below : Ca P w K mg base 1 "is_below" ["load", "other"] ((spF (Φ_is_below K C)))) (h_sum_of : Ca P w K mg base 1 "sum_of" ["load", "other"] ((spF (Φ_sum_of K C)))) :
    Ca P w K mg base 2 "parts_for" ["box", "tables", "sums", "load"] ((spF (Φ_parts_for K C))) := by
  refine ok_of Dd sc_parts_for (fun As R h => by cases h <;> rfl) (fun f cdv A outer s E W vs As R Q hr hΦ hA k => ?_)
  have hu := hu_any hr
  have nd := sc_parts_for.nd
  refine ⟨_, (pss_cons (ps_asg (pe_tup (pa_cons (pe_ix (ixL (K := K) rfl) (pe_lc (own := [("one", 6)]) rfl nd (pi_listK (K := K) rfl (pe_ix (ixL (K := K) rfl) (pv 2) (pe_un un_neg pe_int) (fun _ _ => rfl))) (blkOk_by (N := N_parts_for) (sc := defScope s_parts_for) (by decide +kernel)) (fun _ _ _ _ _ => (pg_name (i := 6) nd rfl (Or.inl rfl))) (fun _ _ _ _ _ => (pts_one (pt_val (pe_ca h_is_below hr rfl (pa_cons (pv 3) (pa_cons (pv 6) pa_nil)))))) (fun _ _ _ _ _ => (pv 6))) pe_int (fun _ _ => rfl)) (pa_cons (pe_lst pa_nil) pa_nil))) (pg_tupK (K := K) (n := 2) rfl rfl (pgs_cons (pg_name (i := 4) nd rfl (Or.inr rfl)) (pgs_cons (pg_name (i := 5) nd rfl (Or.inl rfl)) pgs_nil))))
      (pss_cons (ps_for PassesOwn.never rfl (pi_range3 rfl T.n_range (pa_cons (pe_op op_sub (pe_callB (lenK (K := K) rfl) rfl T.n_len boot_len' (pa_cons (pv 1) pa_nil)) pe_int) (pa_cons (pe_un un_neg pe_int) (pa_cons (pe_un un_neg pe_int) pa_nil)))) (pg_name (i := 7) nd rfl (Or.inr rfl)) (pss_cons (ps_setLc2 (i := 8) (own := [("ahead", 9), ("more", 10)]) (vs1 := [10]) rfl nd rfl rfl (sw_true rfl rfl rfl (by decide +kernel)) (pi_listK (K := K) rfl (pe_ix (ixL (K := K) rfl) (pv 2) (pv 7) (fun _ _ => rfl))) (blkOk_by (N := N_parts_for) (sc := defScope s_parts_for) (by decide +kernel)) (by decide) (fun _ _ _ _ _ => (pg_name (i := 9) nd rfl (Or.inl rfl))) (fun _ _ _ _ _ => pts_nil) (fun _ _ _ _ _ => (pi_keys (pe_ix (ixL (K := K) rfl) (pv 1) (pv 7) (fun _ _ => rfl)))) (fun _ _ _ _ _ => (pg_name (i := 10) nd rfl (Or.inl rfl))) (fun _ _ _ _ _ => (pts_one (pt_cmpR (eqDK (K := K) rfl (hu 64 (by decide))) (pe_ca h_sum_of hr rfl (pa_cons (pv 9) (pa_cons (pv 10) pa_nil))) (pv 4) (nomark _)))) (fun _ _ _ _ _ => (pe_tup (pa_cons (pv 9) (pa_cons (pv 10) pa_nil)))))
      (pss_cons (ps_asg (pe_ix (ixL (K := K) rfl) (pv 8) pe_int (fun _ _ => rfl)) (pg_tupK (K := K) (n := 2) rfl rfl (pgs_cons (pg_name (i := 4) nd rfl (Or.inr rfl)) (pgs_cons (pg_name (i := 10) nd rfl (Or.inl rfl)) pgs_nil))))
      (pss_one (ps_expr (pe_bmK (K := K) rfl PySem.F.plainAttrs_list PySem.F.slot_list_extend PySem.F.type_list_extend (extK (K := K) rfl) (pv 5) (pa_cons (pe_dget (hu 1 (by decide)) (pe_ix (ixL (K := K) rfl) (pv 1) (pv 7) (fun _ _ => rfl)) (pv 10) (fun _ _ => rfl)) pa_nil)))))))
      (pss_one (ps_ret (pe_callB (sortDK (K := K) rfl (hu 64 (by decide))) rfl T.n_sorted boot_sorted' (pa_cons (pv 5) pa_nil)))))), ?_⟩
  cases hΦ with
  | mk b hb tabs ht sums hs F hF l hl hb' =>
    obtain ⟨v0, v1, v2, v3, rfl, h0, h1, h2, h3⟩ := four_args hA
    have hti := tabs_in ht
    have htl : tabs.length ≤ 20 := by
      rw [ht.1]
      exact pieces_20 hb.toBoOk
    have hpf := pairs_few hb.n2
    have few := hb.few
    have hFl := (sums_len hb hti hs hF).1
    obtain ⟨x, rest, hxr⟩ : ∃ x rest, F.filter (below l) = x :: rest := by
      cases hc : F.filter (below l) with
      | nil =>
        obtain ⟨y, hy, hby⟩ := List.any_eq_true.mp hb'
        exact absurd hby (List.filter_eq_nil_iff.mp hc y hy)
      | cons x rest => exact ⟨x, rest, rfl⟩
    have hx : x ∈ F ∧ below l x = true := List.mem_filter.mp (by rw [hxr]; exact List.mem_cons_self)
    refine q_asgVN (A := oLd x) (S := fun s : Sw => oX K s) (xs := []) (ev_ixL (S := oLd) (xs := F.filter (below l)) (i := ((0 : Nat) : Int)) (ev_L (ev_lcF (xs := F) (below l) oLd (src_list (ev_L (ev_ixL (S := fun F => oM oLd F) (ev_var rfl (oM_L h2)) (ev_neg ev_c) (last_at hs.len hF)))) (by omega) (fun _ => rfl) fun y hy W1 v e r => ⟨eb_B (ev_call (ea_cons (ev_var rfl (Rl.mv _ e.g h3)) (ea_cons (ev_imp (ev_var rfl r) fun _ _ => ld_X) ea_nil)) (Φ_is_below.mk l y (by omega))), fun _ => ev_var rfl r⟩)) ev_c (atN (by rw [hxr]; rfl))) evn_nil fun vw p W1 acc f1 rw1 r1 => ?_
    have hacc : acc = [] := List.eq_nil_of_length_eq_zero r1.len
    subst hacc
    have h1 := Rl.mv _ f1.gr.g h1
    have h2 := Rl.mv _ f1.gr.g h2
    refine q_for (xs := (List.range tabs.length).reverse) (S := oK) (src_down (ea_cons (ev_i0 (ev_lenL (ea_cons (ev_var rfl (oM_L h1)) ea_nil)) ev_c) (ea_cons (ev_neg ev_c) (ea_cons (ev_neg ev_c) ea_nil))) rfl (by omega))
      (fun i σ' W' => ∃ (want : List Nat) (wy : List Sw) (vw : V) (acc : List V) (x6 x7 x8 x9 x10 : Option V), σ' = [some v0, some v1, some v2, some v3, some vw, some (.ref p), x6, x7, x8, x9, x10] ∧ Same W1.g W'.g ∧ Fl W W' p acc ∧ Al (fun s : Sw => oX K s) wy acc W'.g ∧ (oLd want).is vw W'.g ∧
        i ≤ tabs.length ∧ Hi b (tabs.length - i) wy ∧ (∃ S, sums[tabs.length - i]? = some S ∧ want ∈ S) ∧ below l (addL want (loadOf b.n wy)) = true) ?_ ?_ ?_
    · refine fun W2 e2 => ⟨x, [], vw, [], none, none, none, none, none, rfl, e2.g, f1.up e2, trivial, Rl.mv _ e2.g rw1, Nat.zero_le _, ⟨List.nodup_nil, fun s h => absurd h List.not_mem_nil, fun s h => absurd h List.not_mem_nil⟩, ⟨F, hF, hx.1⟩, ?_⟩
      rw [addL_zero hb.toBoOk hti hs hF hx.1]
      exact hx.2
    · rintro i at' σ' W' W2 v D' hx ⟨want, wy, vw, acc, x6, x7, x8, x9, x10, rfl, g1, f, ra, rwt, hi, hHi, ⟨S', hS', hwS⟩, hbl⟩ e2 hg rv kn
      obtain ⟨hix, hx⟩ := List.getElem?_eq_some_iff.mp hx
      rw [List.length_reverse, List.length_range] at hix
      rw [List.getElem_reverse, List.getElem_range, List.length_range] at hx
      have hat : at' = tabs.length - 1 - i := hx.symm
      have hat1 : tabs.length - i = at' + 1 := by omega
      have hat2 : tabs.length - (i + 1) = at' := by omega
      have hatl : at' < tabs.length := by omega
      rw [hat1] at hHi hS'
      have hT : tabs[at']? = some tabs[at'] := List.getElem?_eq_getElem hatl
      have hS : sums[at']? = some (sums[at']'(by have := hs.len; omega)) := List.getElem?_eq_getElem _
      generalize tabs[at'] = T' at hT
      generalize (sums[at']'(by have := hs.len; omega)) = S at hS
      have hg' := hs.step at' S T' S' hS hT hS'
      obtain ⟨pp, hpp, hTok⟩ := pieces_at hti hT
      have hTl := tab_len hb hTok
      have hSl := (sums_len hb hti hs hS).1
      have f := f.up e2
      have ra := ra.up e2.g
      have g2 := g1.trans e2.g
      have h1 := Rl.mv _ g2 h1
      have h2 := Rl.mv _ g2 h2
      have rwt := Rl.mv _ e2.g rwt
      have hll : ∀ a ∈ S, a.length ≤ 1000 := fun a ha => by
        obtain ⟨w, _, rfl⟩ := sums_sound hb.toBoOk hti hs at' S hS a ha
        rw [loadOf_len]
        omega
      -- the pairs that give what is wanted
      generalize hP : (S.flatMap fun a => ((T'.map (·.1)).filter fun m => decide (addL a m = want)).map fun m => (a, m)) = Ps
      have hPl : Ps.length ≤ 1000000 := by
        rw [← hP]
        exact Nat.le_trans (flat_le (k := T'.length) (fun a => by
          rw [List.length_map]
          refine Nat.le_trans (List.length_filter_le _ _) ?_
          rw [List.length_map]
          exact Nat.le_refl _) S) (Nat.le_trans (Nat.mul_le_mul hSl hTl) (by decide))
      have hPm : ∀ q, q ∈ Ps ↔ q.1 ∈ S ∧ q.2 ∈ T'.map (·.1) ∧ addL q.1 q.2 = want := fun q => by
        rw [← hP, List.mem_flatMap]
        constructor
        · rintro ⟨a, ha, h⟩
          obtain ⟨m, hm, rfl⟩ := List.mem_map.mp h
          rw [List.mem_filter] at hm
          exact ⟨ha, hm.1, of_decide_eq_true hm.2⟩
        · rintro ⟨g1, g2, g3⟩
          exact ⟨q.1, g1, List.mem_map.mpr ⟨q.2, List.mem_filter.mpr ⟨g2, decide_eq_true g3⟩, rfl⟩⟩
      obtain ⟨q, rest', hqr⟩ : ∃ q rest, Ps = q :: rest := by
        cases hc : Ps with
        | nil =>
          obtain ⟨a, ha, hla⟩ := List.mem_flatMap.mp (hg'.sub want hwS)
          obtain ⟨m, hm, e⟩ := List.mem_map.mp hla
          have := (hPm (a, m)).mpr ⟨ha, hm, e⟩
          rw [hc] at this
          exact absurd this List.not_mem_nil
        | cons q rest => exact ⟨q, rest, rfl⟩
      obtain ⟨hq1, hq2, hq3⟩ := (hPm q).mp (by rw [hqr]; exact List.mem_cons_self)
      refine q_set (R := oM oLL Ps) ?_ fun vs W3 e3 rs => ?_
      · rw [← hP]
        refine ev_imp (ev_lc2F (xs := S) (S := oLd) (fun _ => T'.map (·.1)) (fun a m => decide (addL a m = want)) (fun a m => (a, m)) (fun _ => oLd) oLL (src_list (ev_L (ev_ixL (S := fun F => oM oLd F) (ev_var rfl (oM_L h2)) (ev_var rfl rv) (atN hS)))) (by rw [hP]; exact hPl) (fun _ => rfl) (fun _ _ => rfl) fun a ha W3 u e3 r3 => ⟨src_keys (ev_ixL (S := fun tab => oTb K tab) (ev_var rfl (oM_L (Rl.mv _ e3.g h1))) (ev_var rfl rv) (atN hT)), fun m hm W4 u' e4 r4 r4' => ⟨eb_test (Ev.val (ev_eqX (ev_imp (ev_call (ea_cons (ev_imp (ev_var rfl r4) fun _ _ => ld_X) (ea_cons (ev_imp (ev_var rfl r4') fun _ _ => ld_X) ea_nil)) (Φ_sum_of.mk a m (hll a ha))) fun _ _ => ld_X) (ev_imp (ev_var rfl (Rl.mv _ e4.g rwt)) fun _ _ => ld_X)) dec_eq), fun _ => ev_tup (ea_cons (ev_var rfl r4) (ea_cons (ev_var rfl r4') ea_nil)) (show 2 ≤ 1000000 by decide)⟩⟩) fun _ _ h => h
      refine q_asg (ev_ixL (S := oLL) (xs := Ps) (i := ((0 : Nat) : Int)) (ev_var rfl (oM_L rs)) ev_c (atN (by rw [hqr]; rfl))) fun vq W4 e4 rq => ?_
      refine g_names (A := oLd q.1) (B := oLd q.2) (oU_T rq) fun y1 y2 ry1 ry2 => ?_
      have e34 := e3.trans e4
      refine s_extend (K := K) (S := fun s : Sw => oX K s) (P := fun w => (q.2, w) ∈ T') rfl ((f.up e3).up e4) (ev_imp (ev_tget (ev_ixL (S := fun tab => oTb K tab) (ev_var rfl (oM_L (Rl.mv _ e34.g h1))) (ev_var rfl rv) (atN hT)) (ev_var rfl ry2) hq2) fun v H ⟨w, hw, r⟩ => ⟨w, hw, way_T r⟩) (fun w hw => ?_) fun w us W5 e5 f5 hw rus => ?_
      · obtain ⟨g1, g2, g3⟩ := hTok.ok _ hw
        have h10 : w.length ≤ 10 := Nat.le_trans g1.length_le (hb.pc pp (List.mem_of_getElem? hpp))
        have := hHi.len
        rw [(ra.up e34.g).len]
        omega
      · obtain ⟨k1, k2, k3⟩ := hTok.ok _ hw
        refine kn _ (W5.own p (.lst (acc ++ us)) f5.hid) ((e2.g.trans e34.g).trans e5.g) ⟨q.1, wy ++ w, y1, acc ++ us, _, _, _, _, _, rfl, (g2.trans e34.g).trans e5.g, f5.to _, (ra.up (e34.trans e5).g).app rus, Rl.mv _ e5.g ry1, hix, ?_, ?_, ?_⟩
        · rw [hat2]
          exact hi_app hHi hpp k1 k2
        · rw [hat2]
          exact ⟨S, hS, hq1⟩
        · rw [loadOf_app, k3, addL_comm (loadOf b.n wy), ← addL_assoc, hq3]
          exact hbl
    · rintro σ' W' hg ⟨want, wy, vw, acc, x6, x7, x8, x9, x10, rfl, g1, f, ra, rwt, hi, hHi, ⟨S', hS', hwS⟩, hbl⟩
      rw [show tabs.length - ((List.range tabs.length).reverse).length = 0 by rw [List.length_reverse, List.length_range, Nat.sub_self]] at hHi hS'
      have hw0 : want = loadOf b.n [] := by
        rw [hs.zero] at hS'
        cases hS'
        rw [← noLoad_eq hb.n1 hb.n2]
        exact List.mem_singleton.mp hwS
      rw [hw0, ← loadOf_app, List.nil_append] at hbl
      have pm := List.mergeSort_perm wy dle
      have hwyl := hHi.len
      show tRet _ _ _ (W'.fix p (.lst acc) f.at_).h
      exact s_ret (ev_imp (ev_sort (K := K) (S := fun s : Sw => oX K s) (xs := wy) (ea_cons (ev_var rfl (oM_L (f.got ra))) ea_nil) isX_X srt_pair) fun v H h => (⟨wy.mergeSort dle, ⟨⟨fun s hs' => hHi.sub s (pm.mem_iff.mp hs'), strict_ms (match_nodup hHi.mt), match_perm pm.symm hHi.mt⟩, by rw [loadOf_perm pm]; exact hbl⟩, h⟩ : (oE (fun w => WayOf b w ∧ below l (loadOf b.n w) = true) fun w => oM (fun s : Sw => oX K s) w).is v H)) fun v W3 e3 r => k v W3 (f.fix.trans e3) r
end Bx

set_option Elab.async false
set_option linter.all false
set_option maxRecDepth 100000
set_option maxHeartbeats 4000000
set_option autoImplicit false
namespace Bx
open PySem L2 StX RZ
def Carried (b : Bo) (l : List Nat) : Prop := ∃ w, Match w ∧ (∀ s ∈ w, s ∈ b.sw) ∧ below l (loadOf b.n w) = true
theorem WayOf.sub' {b : Bo} {w k : List Sw} (h : WayOf b w) (hk : k.Sublist w) : WayOf b k := ⟨fun s hs => h.sub s (hk.subset hs), List.Pairwise.sublist hk h.up, match_sub h.mt hk⟩
/-- the switches of w in the box's own order -/
theorem own_order {b : Bo} (ok : BoOk b) {w : List Sw} (hm : Match w) (hs : ∀ s ∈ w, s ∈ b.sw) : (b.sw.filter fun s => decide (s ∈ w)).Perm w := by
  refine (List.perm_ext_iff_of_nodup (ok.up.nodup.filter _) (match_nodup hm)).mpr fun s => ?_
  rw [List.mem_filter, decide_eq_true_eq]
  exact ⟨fun h => h.2, fun h => ⟨hs s h, h⟩⟩
theorem FrameOk.top' {b : Bo} (ok : BoOk b) {F : List (List Nat)} (h : FrameOk b F) {w : List Sw} (hm : Match w) (hs : ∀ s ∈ w, s ∈ b.sw) : ∃ l ∈ F, below (loadOf b.n w) l = true := by
  have pm := own_order ok hm hs
  obtain ⟨l, hl, hb⟩ := h.top _ List.filter_sublist (match_perm pm.symm hm)
  rw [loadOf_perm pm] at hb
  exact ⟨l, hl, hb⟩
theorem carried_iff {b : Bo} (ok : BoOk b) {F : List (List Nat)} (h : FrameOk b F) {l : List Nat} (hl : l.length = (pairsOf b.n).length) : F.any (below l) = true ↔ Carried b l := by
  rw [List.any_eq_true]
  constructor
  · rintro ⟨l', hl', hb⟩
    obtain ⟨w, h1, h2, rfl⟩ := h.ok l' hl'
    exact ⟨w, h1, h2, hb⟩
  · rintro ⟨w, h1, h2, hb⟩
    obtain ⟨l', hl', hb'⟩ := h.top' ok h1 h2
    obtain ⟨w', _, _, rfl⟩ := h.ok l' hl'
    exact ⟨_, hl', below_trans (by rw [loadOf_len]; exact hl) (by rw [loadOf_len, loadOf_len]) hb hb'⟩
structure BarOk (b : Bo) (l : List Nat) (sums : List (List (List Nat))) : Prop where
  ex : ∃ tabs, TabsOk b tabs ∧ SumsOk b tabs sums
  no : ∀ F, sums[(piecesOf b).length]? = some F → F.any (below l) = false
theorem load_le {n : Nat} {w : List Sw} : ∀ x ∈ loadOf n w, x ≤ w.length := fun x hx => by
  obtain ⟨p, _, rfl⟩ := List.mem_map.mp hx
  have := List.count_le_length (a := p) (l := w.map sideOf)
  rwa [List.length_map] at this
abbrev s_way_by : Stmt := top 56
abbrev N_way_by : List Str := ["box", "tables", "sums", "load", "one"]
theorem sc_way_by : FnScope N_way_by ["box", "tables", "sums", "load"] (defScope s_way_by) := ⟨rfl, rfl, rfl, by decide +kernel, rfl, by decide +kernel, by decide +kernel⟩

inductive Φ_way_by (K : PySem.W.Frag) (C : Addr) : List Rl → Rl → Prop
  | no (b : Bo) (hb : BoGood b) (tabs : List Tab) (ht : TabsOk b tabs) (sums : List (List (List Nat))) (hs : SumsOk b tabs sums) (F : List (List Nat)) (hF : sums[tabs.length]? = some F) (l : List Nat) (hl : l.length = (pairsOf b.n).length) (hb' : F.any (below l) = false) :
      Φ_way_by K C [oBox K C b, oM (fun tab => oTb K tab) tabs, oM (fun F => oM oLd F) sums, oX K l] oN
  | yes (b : Bo) (hb : BoGood b) (tabs : List Tab) (ht : TabsOk b tabs) (sums : List (List (List Nat))) (hs : SumsOk b tabs sums) (F : List (List Nat)) (hF : sums[tabs.length]? = some F) (l : List Nat) (hl : l.length = (pairsOf b.n).length) (hb' : F.any (below l) = true) :
      Φ_way_by K C [oBox K C b, oM (fun tab => oTb K tab) tabs, oM (fun F => oM oLd F) sums, oX K l] (oE (fun w => WayOf b w ∧ loadOf b.n w = l) fun w => oX K w)
theorem ok_way_by {P : Program} {w : World} {K : PySem.W.Frag} {mg : Str → Option Value} {base : Heap} {C : Addr} (T : Tx K mg C) (Dd : Df K mg "way_by" "way_by" s_way_by ["box", "tables", "sums", "load"]) (h_is_below : Ca P w K mg base 1 "is_below" ["load", "other"] ((spF (Φ_is_below K C)))) (h_parts_for : Ca P w K mg base 2 "parts_for" ["box", "tables", "sums", "load"] ((spF (Φ_parts_for K C)))) (h_cut_down : Ca P w K mg base 3 "cut_down" ["sides", "way", "load"] ((spF (Φ_cut_down K C)))) :
    Ca P w K mg base 4 "way_by" ["box", "tables", "sums", "load"] ((spF (Φ_way_by K C))) := by
  refine ok_of Dd sc_way_by (fun As R h => by cases h <;> rfl) (fun f cdv A outer s E W vs As R Q hr hΦ hA k => ?_)
  have hu := hu_any hr
  have nd := sc_way_by.nd
  refine ⟨_, (pss_cons (ps_if (pt_not (pt_val (pe_callB (anyK (K := K) rfl rfl) rfl T.n_any boot_any' (pa_cons (pe_lc (own := [("one", 4)]) rfl nd (pi_listK (K := K) rfl (pe_ix (ixL (K := K) rfl) (pv 2) (pe_un un_neg pe_int) (fun _ _ => rfl))) (blkOk_by (N := N_way_by) (sc := defScope s_way_by) (by decide +kernel)) (fun _ _ _ _ _ => (pg_name (i := 4) nd rfl (Or.inl rfl))) (fun _ _ _ _ _ => pts_nil) (fun _ _ _ _ _ => (pe_ca h_is_below hr rfl (pa_cons (pv 3) (pa_cons (pv 4) pa_nil))))) pa_nil)))) (pss_one (ps_ret pe_non)) pss_nil)
      (pss_one (ps_ret (pe_ca h_cut_down hr rfl (pa_cons (pe_fldK (K := K) rfl (pv 0) rfl) (pa_cons (pe_ca h_parts_for hr rfl (pa_cons (pv 0) (pa_cons (pv 1) (pa_cons (pv 2) (pa_cons (pv 3) pa_nil))))) (pa_cons (pv 3) pa_nil))))))), ?_⟩
  have test : ∀ (b : Bo) (hb : BoGood b) (tabs : List Tab) (ht : TabsOk b tabs) (sums : List (List (List Nat))) (hs : SumsOk b tabs sums) (F : List (List Nat)) (hF : sums[tabs.length]? = some F) (l : List Nat) (hl : l.length = (pairsOf b.n).length) (v0 v1 v2 v3 : V) (h2 : (oM (fun F => oM oLd F) sums).is v2 W.g) (h3 : (oX K l).is v3 W.g),
      Eb (tNot (tB (tCB (rAny K) (tCons (tLc (iList K (tOp (rIxL K) (tVar 2) (tUn (rU fun i => V.int (-i)) (tC (.int 1))))) (gName 4) tYes (tCall (spF (Φ_is_below K C)) [] E0 (tCons (tVar 3) (tCons (tVar 4) tNil))) [4]) tNil)))) [some v0, some v1, some v2, some v3, none] W (!F.any (below l)) := by
    intro b hb tabs ht sums hs F hF l hl v0 v1 v2 v3 h2 h3
    have hpf := pairs_few hb.n2
    have hFl := (sums_len hb (tabs_in ht) hs hF).1
    exact eb_not (eb_B (ev_any (f := below l) (ea_cons (ev_L (ev_lcA (xs := F) (fun o => oB (below l o)) (src_list (ev_L (ev_ixL (S := fun F => oM oLd F) (ev_var rfl (oM_L h2)) (ev_neg ev_c) (last_at hs.len hF)))) (by omega) (fun _ => rfl) fun o ho W1 v e r => ev_call (ea_cons (ev_var rfl (Rl.mv _ e.g h3)) (ea_cons (ev_imp (ev_var rfl r) fun _ _ => ld_X) ea_nil)) (Φ_is_below.mk l o (by omega)))) ea_nil)))
  cases hΦ with
  | no b hb tabs ht sums hs F hF l hl hb' =>
    obtain ⟨v0, v1, v2, v3, rfl, h0, h1, h2, h3⟩ := four_args hA
    refine q_when (test b hb tabs ht sums hs F hF l hl v0 v1 v2 v3 h2 h3) (fun _ W1 e1 => s_ret ev_c fun v W2 e2 r => k v W2 (e1.trans e2) r) fun z => ?_
    rw [hb'] at z
    cases z
  | yes b hb tabs ht sums hs F hF l hl hb' =>
    obtain ⟨v0, v1, v2, v3, rfl, h0, h1, h2, h3⟩ := four_args hA
    refine q_when (test b hb tabs ht sums hs F hF l hl v0 v1 v2 v3 h2 h3) (fun z => ?_) fun _ W1 e1 => ?_
    · rw [hb'] at z
      cases z
    · have h0 := Rl.mv _ e1.g h0
      have h1 := Rl.mv _ e1.g h1
      have h2 := Rl.mv _ e1.g h2
      have h3 := Rl.mv _ e1.g h3
      refine s_ret (R := oE (fun w => WayOf b w ∧ loadOf b.n w = l) fun w => oX K w) ?_ fun v W2 e2 r => k v W2 (e1.trans e2) r
      refine ev_imp (ev_callX (P := fun w => WayOf b w ∧ below l (loadOf b.n w) = true) (As' := fun w => [oK b.n, oM (fun s : Sw => oX K s) w, oX K l]) (ea_cons (ev_sides T (ev_var rfl h0)) (ea_cons (ev_call (ea_cons (ev_var rfl h0) (ea_cons (ev_var rfl h1) (ea_cons (ev_var rfl h2) (ea_cons (ev_var rfl h3) ea_nil)))) (Φ_parts_for.mk b hb tabs ht sums hs F hF l hl hb')) (ea_cons (ev_var rfl h3) ea_nil))) (fun vs H h => ?_) fun w hw => Φ_cut_down.mk b.n hb.n2 w (Nat.le_trans hw.1.len hb.few) (fun s hs' => side_mem (hb.ok s (hw.1.sub s hs'))) l hl hw.2) fun v H ⟨w, hw, k, ⟨hk1, hk2⟩, r⟩ => ⟨k, ⟨hw.1.sub' hk1, hk2⟩, r⟩
      obtain ⟨x, y, z, rfl, hx, ⟨w, hw, hy⟩, hz⟩ := three_args h
      exact ⟨w, hw, hx, hy, hz, trivial⟩
abbrev s_way_for : Stmt := top 57
abbrev N_way_for : List Str := ["box", "load", "tables"]
theorem sc_way_for : FnScope N_way_for ["box", "load"] (defScope s_way_for) := ⟨rfl, rfl, rfl, by decide +kernel, rfl, by decide +kernel, by decide +kernel⟩

inductive Φ_way_for (K : PySem.W.Frag) (C : Addr) : List Rl → Rl → Prop
  | no (b : Bo) (hb : BoGood b) (l : List Nat) (hl : okLd b.n 99 l) (h : ¬ Carried b l) : Φ_way_for K C [oBox K C b, oX K l] oN
  | yes (b : Bo) (hb : BoGood b) (l : List Nat) (hl : okLd b.n 99 l) (h : Carried b l) : Φ_way_for K C [oBox K C b, oX K l] (oE (fun w => WayOf b w ∧ loadOf b.n w = l) fun w => oX K w)
theorem ok_way_for {P : Program} {w : World} {K : PySem.W.Frag} {mg : Str → Option Value} {base : Heap} {C : Addr} (T : Tx K mg C) (Dd : Df K mg "way_for" "way_for" s_way_for ["box", "load"]) (h_need_box : Ca P w K mg base 1 "need_box" ["box"] ((spF (Φ_need_box K C)))) (h_need_load : Ca P w K mg base 4 "need_load" ["sides", "load"] ((spF (Φ_need_load K C)))) (h_all_best : Ca P w K mg base 5 "all_best" ["box"] ((spF (Φ_all_best K C)))) (h_sums_by : Ca P w K mg base 4 "sums_by" ["box", "tables"] ((spF (Φ_sums_by K C)))) (h_way_by : Ca P w K mg base 4 "way_by" ["box", "tables", "sums", "load"] ((spF (Φ_way_by K C)))) :
    Ca P w K mg base 6 "way_for" ["box", "load"] ((spF (Φ_way_for K C))) := by
  refine ok_of Dd sc_way_for (fun As R h => by cases h <;> rfl) (fun f cdv A outer s E W vs As R Q hr hΦ hA k => ?_)
  have hu := hu_any hr
  have nd := sc_way_for.nd
  refine ⟨_, (pss_cons (ps_expr (pe_ca h_need_box hr rfl (pa_cons (pv 0) pa_nil)))
      (pss_cons (ps_expr (pe_ca h_need_load hr rfl (pa_cons (pe_fldK (K := K) rfl (pv 0) rfl) (pa_cons (pv 1) pa_nil))))
      (pss_cons (ps_set (i := 2) nd rfl (Or.inl rfl) (pe_ca h_all_best hr rfl (pa_cons (pv 0) pa_nil)))
      (pss_one (ps_ret (pe_ca h_way_by hr rfl (pa_cons (pv 0) (pa_cons (pv 2) (pa_cons (pe_ca h_sums_by hr rfl (pa_cons (pv 0) (pa_cons (pv 2) pa_nil))) (pa_cons (pv 1) pa_nil)))))))))), ?_⟩
  obtain ⟨b, l, hb, hl, v0, v1, rfl, h0, h1, hR⟩ : ∃ (b : Bo) (l : List Nat), BoGood b ∧ okLd b.n 99 l ∧ ∃ v0 v1, vs = [v0, v1] ∧ (oBox K C b).is v0 W.g ∧ (oX K l).is v1 W.g ∧ ((¬ Carried b l ∧ R = oN) ∨ (Carried b l ∧ R = oE (fun w => WayOf b w ∧ loadOf b.n w = l) fun w => oX K w)) := by
    cases hΦ with
    | no b hb l hl h =>
      obtain ⟨v0, v1, rfl, h0, h1⟩ := two_args hA
      exact ⟨b, l, hb, hl, v0, v1, rfl, h0, h1, .inl ⟨h, rfl⟩⟩
    | yes b hb l hl h =>
      obtain ⟨v0, v1, rfl, h0, h1⟩ := two_args hA
      exact ⟨b, l, hb, hl, v0, v1, rfl, h0, h1, .inr ⟨h, rfl⟩⟩
  refine q_drop (ev_call (ea_cons (ev_var rfl h0) ea_nil) (Φ_need_box.mk _)) fun _ W1 e1 _ => ?_
  have h0 := Rl.mv _ e1.g h0
  have h1 := Rl.mv _ e1.g h1
  refine q_drop (ev_call (ea_cons (ev_sides T (ev_var rfl h0)) (ea_cons (ev_var rfl h1) ea_nil)) (Φ_need_load.mk _ _ hb.n2 hl)) fun _ W2 e2 _ => ?_
  have h0 := Rl.mv _ e2.g h0
  have h1 := Rl.mv _ e2.g h1
  refine q_set (ev_call (ea_cons (ev_var rfl h0) ea_nil) (Φ_all_best.mk b hb.toBoOk hb.pc)) fun v2 W3 e3 ⟨tabs, ht, r2⟩ => ?_
  have h0 := Rl.mv _ e3.g h0
  have h1 := Rl.mv _ e3.g h1
  have hopen : ∀ (vs : List V) (H : Hp), Al id [oBox K C b, oM (fun tab => oTb K tab) tabs, oE (SumsOk b tabs) (fun sums => oM (fun F => oM oLd F) sums), oX K l] vs H → ∃ sums, SumsOk b tabs sums ∧ Al id [oBox K C b, oM (fun tab => oTb K tab) tabs, oM (fun F => oM oLd F) sums, oX K l] vs H := fun vs H h => by
    obtain ⟨x, y, z, u, rfl, hx, hy, ⟨sums, hs, hz⟩, hu'⟩ := four_args h
    exact ⟨sums, hs, hx, hy, hz, hu', trivial⟩
  have hat : ∀ sums, SumsOk b tabs sums → ∃ F, sums[tabs.length]? = some F ∧ FrameOk b F := fun sums hs => by
    have hF : sums[tabs.length]? = some (sums[tabs.length]'(by have := hs.len; omega)) := List.getElem?_eq_getElem _
    exact ⟨_, hF, frame_of hb ht hs hF⟩
  have ha := (ea_cons (ev_var (σ := (L2.start N_way_for [v0, v1]).set 2 (some v2)) (i := 0) rfl h0) (ea_cons (ev_var (i := 2) rfl r2) (ea_cons (ev_call (E := E0) (ea_cons (ev_var (i := 0) rfl h0) (ea_cons (ev_var (i := 2) rfl r2) ea_nil)) (Φ_sums_by.mk (K := K) (C := C) b hb tabs ht)) (ea_cons (ev_var (i := 1) rfl h1) ea_nil))))
  rcases hR with ⟨hc, rfl⟩ | ⟨hc, rfl⟩
  · refine s_ret (R := oN) (ev_imp (ev_callX (P := SumsOk b tabs) (Rr := fun _ => oN) ha hopen fun sums hs => ?_) fun v H ⟨_, _, r⟩ => r) fun v W4 e4 r => k v W4 (((e1.trans e2).trans e3).trans e4) r
    obtain ⟨F, hF, hfr⟩ := hat sums hs
    refine Φ_way_by.no b hb tabs ht sums hs F hF l hl.1 ?_
    cases hany : F.any (below l) with
    | false => rfl
    | true => exact absurd ((carried_iff hb.toBoOk hfr hl.1).mp hany) hc
  · refine s_ret (R := oE (fun w => WayOf b w ∧ loadOf b.n w = l) fun w => oX K w) (ev_imp (ev_callX (P := SumsOk b tabs) (Rr := fun _ => oE (fun w => WayOf b w ∧ loadOf b.n w = l) fun w => oX K w) ha hopen fun sums hs => ?_) fun v H ⟨_, _, r⟩ => r) fun v W4 e4 r => k v W4 (((e1.trans e2).trans e3).trans e4) r
    obtain ⟨F, hF, hfr⟩ := hat sums hs
    exact Φ_way_by.yes b hb tabs ht sums hs F hF l hl.1 ((carried_iff hb.toBoOk hfr hl.1).mpr hc)
abbrev s_is_way_for : Stmt := top 58
abbrev N_is_way_for : List Str := ["box", "load", "thing"]
theorem sc_is_way_for : FnScope N_is_way_for ["box", "load", "thing"] (defScope s_is_way_for) := ⟨rfl, rfl, rfl, by decide +kernel, rfl, by decide +kernel, by decide +kernel⟩

inductive Φ_is_way_for (K : PySem.W.Frag) (C : Addr) : List Rl → Rl → Prop
  | no (b : Bo) (hb : BoOk b) (l : List Nat) (hl : okLd b.n 99 l) : Φ_is_way_for K C [oBox K C b, oX K l, oN] (oB false)
  | yes (b : Bo) (hb : BoOk b) (l : List Nat) (hl : okLd b.n 99 l) (w : List Sw) (hw : WayOf b w) (e : loadOf b.n w = l) : Φ_is_way_for K C [oBox K C b, oX K l, oX K w] (oB true)
theorem ok_is_way_for {P : Program} {w : World} {K : PySem.W.Frag} {mg : Str → Option Value} {base : Heap} {C : Addr} (T : Tx K mg C) (Dd : Df K mg "is_way_for" "is_way_for" s_is_way_for ["box", "load", "thing"]) (h_need_box : Ca P w K mg base 1 "need_box" ["box"] ((spF (Φ_need_box K C)))) (h_need_load : Ca P w K mg base 4 "need_load" ["sides", "load"] ((spF (Φ_need_load K C)))) (h_is_way_of : Ca P w K mg base 5 "is_way_of" ["box", "thing"] ((spF (Φ_is_way_of K C)))) (h_load_of : Ca P w K mg base 2 "load_of" ["sides", "way"] ((spF (Φ_load_of K C)))) :
    Ca P w K mg base 6 "is_way_for" ["box", "load", "thing"] ((spF (Φ_is_way_for K C))) := by
  refine ok_of Dd sc_is_way_for (fun As R h => by cases h <;> rfl) (fun f cdv A outer s E W vs As R Q hr hΦ hA k => ?_)
  have hu := hu_any hr
  have nd := sc_is_way_for.nd
  refine ⟨_, (pss_cons (ps_expr (pe_ca h_need_box hr rfl (pa_cons (pv 0) pa_nil)))
      (pss_cons (ps_expr (pe_ca h_need_load hr rfl (pa_cons (pe_fldK (K := K) rfl (pv 0) rfl) (pa_cons (pv 1) pa_nil))))
      (pss_one (ps_ret (pe_and (pe_ca h_is_way_of hr rfl (pa_cons (pv 0) (pa_cons (pv 2) pa_nil))) (pe_one (pe_cmpR (eqDK (K := K) rfl (hu 64 (by decide))) (pe_ca h_load_of hr rfl (pa_cons (pe_fldK (K := K) rfl (pv 0) rfl) (pa_cons (pv 2) pa_nil))) (pv 1) (nomark _)))))))), ?_⟩
  cases hΦ with
  | no b hb l hl =>
    obtain ⟨v0, v1, v2, rfl, h0, h1, h2⟩ := three_args hA
    refine q_drop (ev_call (ea_cons (ev_var rfl h0) ea_nil) (Φ_need_box.mk _)) fun _ W1 e1 _ => ?_
    have h0 := Rl.mv _ e1.g h0
    have h1 := Rl.mv _ e1.g h1
    refine q_drop (ev_call (ea_cons (ev_sides T (ev_var rfl h0)) (ea_cons (ev_var rfl h1) ea_nil)) (Φ_need_load.mk _ _ hb.n2 hl)) fun _ W2 e2 _ => ?_
    exact s_ret (ev_and2 (a := false) (b := false) (ev_call (ea_cons (ev_var rfl (Rl.mv _ e2.g h0)) (ea_cons (ev_var rfl (Rl.mv _ (e1.trans e2).g h2)) ea_nil)) (Φ_is_way_of.no b)) fun z => nomatch z) fun v W3 e3 r => k v W3 ((e1.trans e2).trans e3) r
  | yes b hb l hl w hw e =>
    obtain ⟨v0, v1, v2, rfl, h0, h1, h2⟩ := three_args hA
    refine q_drop (ev_call (ea_cons (ev_var rfl h0) ea_nil) (Φ_need_box.mk _)) fun _ W1 e1 _ => ?_
    have h0 := Rl.mv _ e1.g h0
    have h1 := Rl.mv _ e1.g h1
    refine q_drop (ev_call (ea_cons (ev_sides T (ev_var rfl h0)) (ea_cons (ev_var rfl h1) ea_nil)) (Φ_need_load.mk _ _ hb.n2 hl)) fun _ W2 e2 _ => ?_
    have h0 := Rl.mv _ e2.g h0
    have h1 := Rl.mv _ e2.g h1
    have h2 := Rl.mv _ (e1.trans e2).g h2
    have hwl := hw.len
    have few := hb.few
    exact s_ret (ev_and2 (a := true) (b := true) (ev_call (ea_cons (ev_var rfl h0) (ea_cons (ev_var rfl h2) ea_nil)) (Φ_is_way_of.yes b hb w hw)) fun _ => Ev.val (ev_eqX (ev_imp (ev_call (ea_cons (ev_sides T (ev_var rfl h0)) (ea_cons (ev_var rfl h2) ea_nil)) (Φ_load_of.tup b.n hb.n2 w (by omega))) fun _ _ => ld_X) (ev_var rfl h1)) (congrArg V.bl (dec_t e))) fun v W3 e3 r => k v W3 ((e1.trans e2).trans e3) r
abbrev s_bar : Stmt := top 59
abbrev N_bar : List Str := ["box", "load", "sums", "one"]
theorem sc_bar : FnScope N_bar ["box", "load"] (defScope s_bar) := ⟨rfl, rfl, rfl, by decide +kernel, rfl, by decide +kernel, by decide +kernel⟩

inductive Φ_bar (K : PySem.W.Frag) (C : Addr) : List Rl → Rl → Prop
  | no (b : Bo) (hb : BoGood b) (l : List Nat) (hl : okLd b.n 99 l) (h : Carried b l) : Φ_bar K C [oBox K C b, oX K l] oN
  | yes (b : Bo) (hb : BoGood b) (l : List Nat) (hl : okLd b.n 99 l) (h : ¬ Carried b l) : Φ_bar K C [oBox K C b, oX K l] (oE (BarOk b l) fun sums => oM (fun F => oM oLd F) sums)
theorem ok_bar {P : Program} {w : World} {K : PySem.W.Frag} {mg : Str → Option Value} {base : Heap} {C : Addr} (T : Tx K mg C) (Dd : Df K mg "bar" "bar" s_bar ["box", "load"]) (h_need_box : Ca P w K mg base 1 "need_box" ["box"] ((spF (Φ_need_box K C)))) (h_need_load : Ca P w K mg base 4 "need_load" ["sides", "load"] ((spF (Φ_need_load K C)))) (h_all_best : Ca P w K mg base 5 "all_best" ["box"] ((spF (Φ_all_best K C)))) (h_sums_by : Ca P w K mg base 4 "sums_by" ["box", "tables"] ((spF (Φ_sums_by K C)))) (h_is_below : Ca P w K mg base 1 "is_below" ["load", "other"] ((spF (Φ_is_below K C)))) :
    Ca P w K mg base 6 "bar" ["box", "load"] ((spF (Φ_bar K C))) := by
  refine ok_of Dd sc_bar (fun As R h => by cases h <;> rfl) (fun f cdv A outer s E W vs As R Q hr hΦ hA k => ?_)
  have hu := hu_any hr
  have nd := sc_bar.nd
  refine ⟨_, (pss_cons (ps_expr (pe_ca h_need_box hr rfl (pa_cons (pv 0) pa_nil)))
      (pss_cons (ps_expr (pe_ca h_need_load hr rfl (pa_cons (pe_fldK (K := K) rfl (pv 0) rfl) (pa_cons (pv 1) pa_nil))))
      (pss_cons (ps_set (i := 2) nd rfl (Or.inl rfl) (pe_ca h_sums_by hr rfl (pa_cons (pv 0) (pa_cons (pe_ca h_all_best hr rfl (pa_cons (pv 0) pa_nil)) pa_nil))))
      (pss_one (ps_ret (pe_ifExp (pt_val (pe_callB (anyK (K := K) rfl rfl) rfl T.n_any boot_any' (pa_cons (pe_lc (own := [("one", 3)]) rfl nd (pi_listK (K := K) rfl (pe_ix (ixL (K := K) rfl) (pv 2) (pe_un un_neg pe_int) (fun _ _ => rfl))) (blkOk_by (N := N_bar) (sc := defScope s_bar) (by decide +kernel)) (fun _ _ _ _ _ => (pg_name (i := 3) nd rfl (Or.inl rfl))) (fun _ _ _ _ _ => pts_nil) (fun _ _ _ _ _ => (pe_ca h_is_below hr rfl (pa_cons (pv 1) (pa_cons (pv 3) pa_nil))))) pa_nil))) pe_non (pv 2))))))), ?_⟩
  obtain ⟨b, l, hb, hl, v0, v1, rfl, h0, h1, hR⟩ : ∃ (b : Bo) (l : List Nat), BoGood b ∧ okLd b.n 99 l ∧ ∃ v0 v1, vs = [v0, v1] ∧ (oBox K C b).is v0 W.g ∧ (oX K l).is v1 W.g ∧ ((Carried b l ∧ R = oN) ∨ (¬ Carried b l ∧ R = oE (BarOk b l) fun sums => oM (fun F => oM oLd F) sums)) := by
    cases hΦ with
    | no b hb l hl h =>
      obtain ⟨v0, v1, rfl, h0, h1⟩ := two_args hA
      exact ⟨b, l, hb, hl, v0, v1, rfl, h0, h1, .inl ⟨h, rfl⟩⟩
    | yes b hb l hl h =>
      obtain ⟨v0, v1, rfl, h0, h1⟩ := two_args hA
      exact ⟨b, l, hb, hl, v0, v1, rfl, h0, h1, .inr ⟨h, rfl⟩⟩
  refine q_drop (ev_call (ea_cons (ev_var rfl h0) ea_nil) (Φ_need_box.mk _)) fun _ W1 e1 _ => ?_
  have h0 := Rl.mv _ e1.g h0
  have h1 := Rl.mv _ e1.g h1
  refine q_drop (ev_call (ea_cons (ev_sides T (ev_var rfl h0)) (ea_cons (ev_var rfl h1) ea_nil)) (Φ_need_load.mk _ _ hb.n2 hl)) fun _ W2 e2 _ => ?_
  have h0 := Rl.mv _ e2.g h0
  have h1 := Rl.mv _ e2.g h1
  refine q_set (R := oE (fun q : List Tab × List (List (List Nat)) => TabsOk b q.1 ∧ SumsOk b q.1 q.2) fun q => oM (fun F => oM oLd F) q.2) (ev_imp (ev_callX (P := TabsOk b) (Rr := fun tabs => oE (SumsOk b tabs) fun sums => oM (fun F => oM oLd F) sums) (As' := fun tabs => [oBox K C b, oM (fun tab => oTb K tab) tabs]) (ea_cons (ev_var rfl h0) (ea_cons (ev_call (ea_cons (ev_var rfl h0) ea_nil) (Φ_all_best.mk b hb.toBoOk hb.pc)) ea_nil)) (fun vs H h => ?_) fun tabs ht => Φ_sums_by.mk b hb tabs ht) fun v H ⟨tabs, ht, sums, hs, r⟩ => ⟨(tabs, sums), ⟨ht, hs⟩, r⟩) fun v2 W3 e3 ⟨⟨tabs, sums⟩, ⟨ht, hs⟩, r2⟩ => ?_
  · obtain ⟨x, y, rfl, hx, ⟨tabs, ht, hy⟩⟩ := two_args h
    exact ⟨tabs, ht, hx, hy, trivial⟩
  have ht : TabsOk b tabs := ht
  have hs : SumsOk b tabs sums := hs
  have r2 : (oM (fun F => oM oLd F) sums).is v2 W3.g := r2
  have h0 := Rl.mv _ e3.g h0
  have h1 := Rl.mv _ e3.g h1
  obtain ⟨F, hF⟩ : ∃ F, sums[tabs.length]? = some F := ⟨_, List.getElem?_eq_getElem (by have := hs.len; omega)⟩
  have hfr := frame_of hb ht hs hF
  have hFl := (sums_len hb (tabs_in ht) hs hF).1
  have hpf := pairs_few hb.n2
  have hl1 := hl.1
  refine s_ret (R := R) (ev_if (b := F.any (below l)) (eb_B (ev_any (f := below l) (ea_cons (ev_L (ev_lcA (xs := F) (fun o => oB (below l o)) (src_list (ev_L (ev_ixL (S := fun F => oM oLd F) (ev_var rfl (oM_L r2)) (ev_neg ev_c) (last_at hs.len hF)))) (by omega) (fun _ => rfl) fun o ho W1 v e r => ev_call (ea_cons (ev_var rfl (Rl.mv _ e.g h1)) (ea_cons (ev_imp (ev_var rfl r) fun _ _ => ld_X) ea_nil)) (Φ_is_below.mk l o (by omega)))) ea_nil))) (fun hany => ?_) fun hany => ?_) fun v W4 e4 r => k v W4 (((e1.trans e2).trans e3).trans e4) r
  · rcases hR with ⟨hc, rfl⟩ | ⟨hc, rfl⟩
    · exact ev_c
    · exact absurd ((carried_iff hb.toBoOk hfr hl.1).mp hany) hc
  · rcases hR with ⟨hc, rfl⟩ | ⟨hc, rfl⟩
    · rw [(carried_iff hb.toBoOk hfr hl.1).mpr hc] at hany
      cases hany
    · refine ev_var rfl ⟨sums, ⟨⟨tabs, ht, hs⟩, fun F' hF' => ?_⟩, r2⟩
      rw [← ht.1, hF] at hF'
      cases hF'
      exact hany
abbrev s_is_bar : Stmt := top 62
abbrev N_is_bar : List Str := ["box", "load", "thing", "tables", "one", "at", "table", "more"]
theorem sc_is_bar : FnScope N_is_bar ["box", "load", "thing"] (defScope s_is_bar) := ⟨rfl, rfl, rfl, by decide +kernel, rfl, by decide +kernel, by decide +kernel⟩

inductive Φ_is_bar (K : PySem.W.Frag) (C : Addr) : List Rl → Rl → Prop
  | no (b : Bo) (hb : BoGood b) (l : List Nat) (hl : okLd b.n 99 l) : Φ_is_bar K C [oBox K C b, oX K l, oN] (oB false)
  | yes (b : Bo) (hb : BoGood b) (l : List Nat) (hl : okLd b.n 99 l) (sums : List (List (List Nat))) (h : BarOk b l sums) : Φ_is_bar K C [oBox K C b, oX K l, oM (fun F => oM oLd F) sums] (oB true)
theorem ok_is_bar {P : Program} {w : World} {K : PySem.W.Frag} {mg : Str → Option Value} {base : Heap} {C : Addr} (T : Tx K mg C) (Dd : Df K mg "is_bar" "is_bar" s_is_bar ["box", "load", "thing"]) (h_need_box : Ca P w K mg base 1 "need_box" ["box"] ((spF (Φ_need_box K C)))) (h_need_load : Ca P w K mg base 4 "need_load" ["sides", "load"] ((spF (Φ_need_load K C)))) (h_all_best : Ca P w K mg base 5 "all_best" ["box"] ((spF (Φ_all_best K C)))) (h_is_list_of_loads : Ca P w K mg base 4 "is_list_of_loads" ["box", "thing"] ((spF (Φ_is_list_of_loads K C)))) (h_no_wires : Ca P w K mg base 2 "no_wires" ["box"] ((spF (Φ_no_wires K C)))) (h_is_under : Ca P w K mg base 2 "is_under" ["load", "loads"] ((spF (Φ_is_under K C)))) (h_sum_of : Ca P w K mg base 1 "sum_of" ["load", "other"] ((spF (Φ_sum_of K C)))) :
    Ca P w K mg base 6 "is_bar" ["box", "load", "thing"] ((spF (Φ_is_bar K C))) := by
  refine ok_of Dd sc_is_bar (fun As R h => by cases h <;> rfl) (fun f cdv A outer s E W vs As R Q hr hΦ hA k => ?_)
  have hu := hu_any hr
  have nd := sc_is_bar.nd
  refine ⟨_, (pss_cons (ps_expr (pe_ca h_need_box hr rfl (pa_cons (pv 0) pa_nil)))
      (pss_cons (ps_expr (pe_ca h_need_load hr rfl (pa_cons (pe_fldK (K := K) rfl (pv 0) rfl) (pa_cons (pv 1) pa_nil))))
      (pss_cons (ps_set (i := 3) nd rfl (Or.inl rfl) (pe_ca h_all_best hr rfl (pa_cons (pv 0) pa_nil)))
      (pss_cons (ps_if (pt_orW (pt_not (pt_val (pe_callB (isiTK (K := K) rfl) rfl T.n_isinstance boot_isinstance' (pa_cons (pv 2) (pa_cons (pe_tup (pa_cons (pe_bltn (v := .ty "list") rfl T.n_list boot_list' rfl) (pa_cons (pe_bltn (v := .ty "tuple") rfl T.n_tuple boot_tuple' rfl) pa_nil))) pa_nil))))) (pw_or1 (pt_cmpR op_ne (pe_callB (lenK (K := K) rfl) rfl T.n_len boot_len' (pa_cons (pv 2) pa_nil)) (pe_op op_add (pe_callB (lenK (K := K) rfl) rfl T.n_len boot_len' (pa_cons (pv 3) pa_nil)) pe_int) (nomark _)))) (pss_one (ps_ret pe_bl)) pss_nil)
      (pss_cons (ps_if (pt_orW (pt_not (pt_val (pe_callB (allK (K := K) rfl rfl) rfl T.n_all boot_all' (pa_cons (pe_lc (own := [("one", 4)]) rfl nd (pi_listK (K := K) rfl (pv 2)) (blkOk_by (N := N_is_bar) (sc := defScope s_is_bar) (by decide +kernel)) (fun _ _ _ _ _ => (pg_name (i := 4) nd rfl (Or.inl rfl))) (fun _ _ _ _ _ => pts_nil) (fun _ _ _ _ _ => (pe_ca h_is_list_of_loads hr rfl (pa_cons (pv 0) (pa_cons (pv 4) pa_nil))))) pa_nil)))) (pw_or1 (pt_not (pt_val (pe_ca h_is_under hr rfl (pa_cons (pe_ca h_no_wires hr rfl (pa_cons (pv 0) pa_nil)) (pa_cons (pe_ix (ixL (K := K) rfl) (pv 2) pe_int (fun _ _ => rfl)) pa_nil))))))) (pss_one (ps_ret pe_bl)) pss_nil)
      (pss_cons (ps_for PassesOwn.never rfl (pi_enumK (K := K) rfl rfl T.n_enumerate (pa_cons (pv 3) pa_nil)) (pg_tupK (K := K) (n := 2) rfl rfl (pgs_cons (pg_name (i := 5) nd rfl (Or.inr rfl)) (pgs_cons (pg_name (i := 6) nd rfl (Or.inr rfl)) pgs_nil))) (pss_one (ps_if (pt_not (pt_val (pe_callB (allK (K := K) rfl rfl) rfl T.n_all boot_all' (pa_cons (pe_lc2 (own := [("one", 4), ("more", 7)]) (vs1 := [7]) rfl nd (pi_listK (K := K) rfl (pe_ix (ixL (K := K) rfl) (pv 2) (pv 5) (fun _ _ => rfl))) (blkOk_by (N := N_is_bar) (sc := defScope s_is_bar) (by decide +kernel)) (by decide) (fun _ _ _ _ _ => (pg_name (i := 4) nd rfl (Or.inl rfl))) (fun _ _ _ _ _ => pts_nil) (fun _ _ _ _ _ => (pi_keys (pv 6))) (fun _ _ _ _ _ => (pg_name (i := 7) nd rfl (Or.inl rfl))) (fun _ _ _ _ _ => pts_nil) (fun _ _ _ _ _ => (pe_ca h_is_under hr rfl (pa_cons (pe_ca h_sum_of hr rfl (pa_cons (pv 4) (pa_cons (pv 7) pa_nil))) (pa_cons (pe_ix (ixL (K := K) rfl) (pv 2) (pe_op op_add (pv 5) pe_int) (fun _ _ => rfl)) pa_nil))))) pa_nil)))) (pss_one (ps_ret pe_bl)) pss_nil)))
      (pss_one (ps_ret (pe_not (pe_ca h_is_under hr rfl (pa_cons (pv 1) (pa_cons (pe_ix (ixL (K := K) rfl) (pv 2) (pe_un un_neg pe_int) (fun _ _ => rfl)) pa_nil)))))))))))), ?_⟩
  cases hΦ with
  | no b hb l hl =>
    obtain ⟨v0, v1, v2, rfl, h0, h1, h2⟩ := three_args hA
    refine q_drop (ev_call (ea_cons (ev_var rfl h0) ea_nil) (Φ_need_box.mk _)) fun _ W1 e1 _ => ?_
    have h0 := Rl.mv _ e1.g h0
    have h1 := Rl.mv _ e1.g h1
    refine q_drop (ev_call (ea_cons (ev_sides T (ev_var rfl h0)) (ea_cons (ev_var rfl h1) ea_nil)) (Φ_need_load.mk _ _ hb.n2 hl)) fun _ W2 e2 _ => ?_
    have h0 := Rl.mv _ e2.g h0
    refine q_set (ev_call (ea_cons (ev_var rfl h0) ea_nil) (Φ_all_best.mk b hb.toBoOk hb.pc)) fun v3 W3 e3 _ => ?_
    refine q_when (b := true) (eb_or (a := true) (b := true) (eb_not (a := false) (eb_B (ev_isiLTn (ev_var rfl (Rl.mv _ ((e1.trans e2).trans e3).g h2))))) fun z => nomatch z) (fun _ W4 e4 => s_ret ev_c fun v W5 e5 r => k v W5 ((((e1.trans e2).trans e3).trans e4).trans e5) r) fun z => nomatch z
  | yes b hb l hl sums h =>
    obtain ⟨v0, v1, v2, rfl, h0, h1, h2⟩ := three_args hA
    obtain ⟨⟨tabs, ht, hs⟩, hno⟩ := h
    have hti := tabs_in ht
    have htl : tabs.length ≤ 20 := by
      rw [ht.1]
      exact pieces_20 hb.toBoOk
    have hpf := pairs_few hb.n2
    have few := hb.few
    have hl1 := hl.1
    obtain ⟨F, hF⟩ : ∃ F, sums[tabs.length]? = some F := ⟨_, List.getElem?_eq_getElem (by have := hs.len; omega)⟩
    have hFno := hno F (by rw [← ht.1]; exact hF)
    have hslen := hs.len
    refine q_drop (ev_call (ea_cons (ev_var rfl h0) ea_nil) (Φ_need_box.mk _)) fun _ W1 e1 _ => ?_
    have h0 := Rl.mv _ e1.g h0
    have h1 := Rl.mv _ e1.g h1
    refine q_drop (ev_call (ea_cons (ev_sides T (ev_var rfl h0)) (ea_cons (ev_var rfl h1) ea_nil)) (Φ_need_load.mk _ _ hb.n2 hl)) fun _ W2 e2 _ => ?_
    have h0 := Rl.mv _ e2.g h0
    refine q_set (ev_call (ea_cons (ev_var rfl h0) ea_nil) (Φ_all_best.mk b hb.toBoOk hb.pc)) fun v3 W3 e3 ⟨tabs', ht', r3⟩ => ?_
    have h0 := Rl.mv _ e3.g h0
    have h1 := Rl.mv _ (e2.trans e3).g h1
    have h2 := Rl.mv _ ((e1.trans e2).trans e3).g h2
    have hsame : tabs'.length = tabs.length := ht'.1.trans ht.1.symm
    refine q_not (eb_or (a := false) (b := false) (eb_not (a := true) (eb_B (ev_isiLT (ev_var rfl (oM_L h2))))) fun _ => eb_test (ev_neV (ev_lenL (ea_cons (ev_var rfl (oM_L h2)) ea_nil)) (ev_i0 (ev_lenL (ea_cons (ev_var rfl (oM_L r3)) ea_nil)) ev_c) rfl ?_)) fun W4 e4 => ?_
    · rw [hslen, hsame]
      rw [dec_t (show V.int ((tabs.length + 1 : Nat) : Int) = V.int ((tabs.length : Int) + 1) from rfl)]
      rfl
    have h0 := Rl.mv _ e4.g h0
    have h1 := Rl.mv _ e4.g h1
    have h2 := Rl.mv _ e4.g h2
    have r3 := Rl.mv _ e4.g r3
    have hld : ∀ (i : Nat) (S : List (List Nat)), sums[i]? = some S → ∀ o ∈ S, okLd b.n 999 o ∧ ∃ w, Part b i w ∧ loadOf b.n w = o := fun i S hS o ho => by
      obtain ⟨w, hw, rfl⟩ := sums_sound hb.toBoOk hti hs i S hS o ho
      have hwl := nodup_len (match_nodup hw.mt) hw.sub
      exact ⟨⟨loadOf_len _ _, fun x hx => by have := load_le x hx; omega⟩, w, hw, rfl⟩
    refine q_not (eb_or (a := false) (b := false) (eb_not (a := true) (eb_B (ev_allT (xs := sums) (ea_cons (ev_L (ev_lcA (fun _ => oB true) (src_list (ev_var rfl (oM_L h2))) (by omega) (fun _ => rfl) fun S hS W5 v e r => ?_)) ea_nil)))) fun _ => eb_not (a := true) (eb_B (Ev.val (ev_call (ea_cons (ev_imp (ev_call (ea_cons (ev_var rfl h0) ea_nil) (Φ_no_wires.mk b hb.toBoOk)) fun _ _ => ld_X) (ea_cons (ev_imp (ev_ixL (S := fun F => oM oLd F) (i := ((0 : Nat) : Int)) (ev_var rfl (oM_L h2)) ev_c (atN hs.zero)) fun v H h => oL_imp (oM_L h) fun x v _ => ld_X) ea_nil)) (Φ_is_under.mk _ _ ?_ (show 1 ≤ 1000000 by decide))) ?_))) fun W5 e5 => ?_
    · obtain ⟨i, hi, rfl⟩ := List.getElem_of_mem hS
      exact ev_call (ea_cons (ev_var rfl (Rl.mv _ e.g h0)) (ea_cons (ev_imp (ev_var rfl r) fun v H h => oL_imp (oM_L h) fun x v _ => ld_X) ea_nil)) (Φ_is_list_of_loads.mk b hb.toBoOk _ (by have := (sums_len hb hti hs (List.getElem?_eq_getElem hi)).1; omega) fun o ho => (hld i _ (List.getElem?_eq_getElem hi) o ho).1)
    · rw [noLoad_eq hb.n1 hb.n2, loadOf_len]
      omega
    · show V.bl ((below (noLoad b.n) (noLoad b.n)) || false) = V.bl true
      rw [below_refl]
      rfl
    have h0 := Rl.mv _ e5.g h0
    have h1 := Rl.mv _ e5.g h1
    have h2 := Rl.mv _ e5.g h2
    have r3 := Rl.mv _ e5.g r3
    have e15 := ((((e1.trans e2).trans e3).trans e4).trans e5)
    refine q_for (xs := tabs'.zipIdx) (S := fun q => oP K (oK q.2) (oTb K q.1)) (src_enum (ea_cons (ev_var rfl (oM_L r3)) ea_nil)) (fun i σ' W' => ∃ (x4 x5 x6 x7 : Option V), σ' = [some v0, some v1, some v2, some v3, x4, x5, x6, x7] ∧ Gr W W' ∧ Same W5.g W'.g) ?_ ?_ ?_
    · exact fun W6 e6 => ⟨none, none, none, none, rfl, e15.trans e6, e6.g⟩
    · rintro i ⟨T', at'⟩ σ' W' W6 v D' hx ⟨x4, x5, x6, x7, rfl, eW, g5⟩ e6 hg rv kn
      refine g_names rv fun y1 y2 ry1 ry2 => ?_
      rw [List.getElem?_zipIdx] at hx
      obtain ⟨T0, hT0, hq⟩ := Option.map_eq_some_iff.mp hx
      have hq1 : T0 = T' := congrArg Prod.fst hq
      have hq2 : 0 + i = at' := congrArg Prod.snd hq
      subst hq1
      have hai : at' = i := by omega
      subst hai
      have hil : at' < tabs'.length := (List.getElem?_eq_some_iff.mp hT0).1
      have hT : tabs[at']? = some (tabs[at']'(by omega)) := List.getElem?_eq_getElem _
      have hS : sums[at']? = some (sums[at']'(by omega)) := List.getElem?_eq_getElem _
      have hS' : sums[at' + 1]? = some (sums[at' + 1]'(by omega)) := List.getElem?_eq_getElem _
      generalize (tabs[at']'(by omega)) = T1 at hT
      generalize (sums[at']'(by omega)) = S at hS
      generalize (sums[at' + 1]'(by omega)) = S' at hS'
      have hgr := hs.step at' S T1 S' hS hT hS'
      obtain ⟨pp, hpp, hTok⟩ := pieces_at hti hT
      have hTok' := (tabs_in ht').ok at' pp T0 hpp hT0
      have hTl := tab_len hb hTok'
      have hSl := (sums_len hb hti hs hS).1
      have hS'l := (sums_len hb hti hs hS').1
      have g6 := g5.trans e6.g
      have h2 := Rl.mv _ g6 h2
      have hpl : (S.flatMap fun a => (T0.map (·.1)).map fun m => (a, m)).length ≤ 1000000 := Nat.le_trans (flat_le (k := T0.length) (fun a => by rw [List.length_map, List.length_map]; exact Nat.le_refl _) S) (Nat.le_trans (Nat.mul_le_mul hSl hTl) (by decide))
      refine s_not (eb_not (a := true) (eb_B (ev_allT (xs := S.flatMap fun a => (T0.map (·.1)).map fun m => (a, m)) (ea_cons (ev_L (ev_imp (ev_lc2A (xs := S) (S := oLd) (fun _ => T0.map (·.1)) (fun a m => (a, m)) (fun _ => oLd) (fun _ : List Nat × List Nat => oB true) (src_list (ev_L (ev_ixL (S := fun F => oM oLd F) (ev_var rfl (oM_L h2)) (ev_var rfl ry1) (atN hS)))) hpl (fun _ => rfl) (fun _ _ => rfl) fun a ha W7 u e7 r7 => ⟨src_keys (ev_var rfl (Rl.mv _ e7.g ry2)), fun m hm W8 u' e8 r8 r8' => ?_⟩) fun _ _ h => h)) ea_nil)))) fun W7 e7 => ?_
      · obtain ⟨⟨hal, _⟩, wa, hwa, rfl⟩ := hld at' S hS a ha
        obtain ⟨e, he, rfl⟩ := List.mem_map.mp hm
        obtain ⟨k1, k2, k3⟩ := hTok'.ok e he
        obtain ⟨e', he', hbe⟩ := hTok.top e.2 k1 k2
        obtain ⟨_, _, k6⟩ := hTok.ok e' he'
        obtain ⟨g, hg1, hg2⟩ := hgr.top (addL (loadOf b.n wa) e'.1) (List.mem_flatMap.mpr ⟨_, ha, List.mem_map.mpr ⟨e'.1, List.mem_map_of_mem he', rfl⟩⟩)
        obtain ⟨_, wg, _, rfl⟩ := hld _ S' hS' g hg1
        have hlen1 : (addL (loadOf b.n wa) e.1).length = (pairsOf b.n).length := by rw [addL_len (by rw [loadOf_len, ← k3, loadOf_len]), loadOf_len]
        refine Ev.val (ev_call (ea_cons (ev_imp (ev_call (ea_cons (ev_imp (ev_var rfl r8) fun _ _ => ld_X) (ea_cons (ev_imp (ev_var rfl r8') fun _ _ => ld_X) ea_nil)) (Φ_sum_of.mk (loadOf b.n wa) e.1 (by rw [loadOf_len]; omega))) fun _ _ => ld_X) (ea_cons (ev_imp (ev_ixL (S := fun F => oM oLd F) (i := ((at' + 1 : Nat) : Int)) (ev_var rfl (oM_L (Rl.mv _ e8.g h2))) (ev_i0 (i := (at' : Int)) (j := 1) (ev_var rfl ry1) ev_c) (atN hS')) fun v H h => oL_imp (oM_L h) fun x v _ => ld_X) ea_nil)) (Φ_is_under.mk _ _ (by rw [hlen1]; omega) (by omega))) (congrArg V.bl (List.any_eq_true.mpr ⟨_, hg1, below_trans ?_ ?_ (addL_mono (below_refl _) (k3 ▸ hbe) rfl ?_ ?_) hg2⟩))
        · rw [hlen1, addL_len (by rw [loadOf_len, ← k6, loadOf_len]), loadOf_len]
        · rw [addL_len (by rw [loadOf_len, ← k6, loadOf_len]), loadOf_len, loadOf_len]
        · rw [← k3, ← k6, loadOf_len, loadOf_len]
        · rw [← k3, loadOf_len, loadOf_len]
      · exact kn _ W7 (e6.g.trans e7.g) ⟨x4, some y1, some y2, x7, rfl, (eW.trans e6).trans e7, g6.trans e7.g⟩
    · rintro σ' W' hg ⟨x4, x5, x6, x7, rfl, eW, g5⟩
      refine s_ret (Ev.val (ev_notV (ev_call (ea_cons (ev_var rfl (Rl.mv _ g5 h1)) (ea_cons (ev_imp (ev_ixL (S := fun F => oM oLd F) (ev_var rfl (oM_L (Rl.mv _ g5 h2))) (ev_neg ev_c) (last_at hs.len hF)) fun v H h => oL_imp (oM_L h) fun x v _ => ld_X) ea_nil)) (Φ_is_under.mk l F (by omega) (by have := (sums_len hb hti hs hF).1; omega)))) ?_) fun v W6 e6 r => k v W6 (eW.trans e6) r
      rw [hFno]
      rfl
end Bx

set_option Elab.async false
set_option linter.all false
set_option maxRecDepth 100000
set_option maxHeartbeats 4000000
set_option autoImplicit false
namespace Bx
open PySem L2 StX RZ
abbrev s_law_pairs : Stmt := top 68
abbrev N_law_pairs : List Str := ["_law_sides_here", "_law_found", "_law_one", "_law_other"]
theorem sc_law_pairs : FnScope N_law_pairs ["_law_sides_here"] (defScope s_law_pairs) := ⟨rfl, rfl, rfl, by decide +kernel, rfl, by decide +kernel, by decide +kernel⟩

inductive Φ_law_pairs (K : PySem.W.Frag) (C : Addr) : List Rl → Rl → Prop
  | mk (n : Nat) (h : n ≤ 5) : Φ_law_pairs K C [oK n] (oM (fun p : Pin => oX K p) (pairsOf n))
theorem ok_law_pairs {P : Program} {w : World} {K : PySem.W.Frag} {mg : Str → Option Value} {base : Heap} {C : Addr} (T : Tx K mg C) (Dd : Df K mg "_law_pairs" "_law_pairs" s_law_pairs ["_law_sides_here"])  :
    Ca P w K mg base 1 "_law_pairs" ["_law_sides_here"] ((spF (Φ_law_pairs K C))) := by
  refine ok_of Dd sc_law_pairs (fun As R h => by cases h <;> rfl) (fun f cdv A outer s E W vs As R Q hr hΦ hA k => ?_)
  have hu := hu_any hr
  have nd := sc_law_pairs.nd
  refine ⟨_, (pss_cons (ps_set (i := 1) nd rfl (Or.inl rfl) (pe_lst pa_nil))
      (pss_cons (ps_for PassesOwn.never rfl (pi_range1 rfl T.n_range (pa_cons (pv 0) pa_nil)) (pg_name (i := 2) nd rfl (Or.inr rfl)) (pss_one (ps_set (i := 1) nd rfl (Or.inl rfl) (pe_op op_cat (pv 1) (pe_lc (own := [("_law_other", 3)]) rfl nd (pi_range2 rfl T.n_range (pa_cons (pe_op op_add (pv 2) pe_int) (pa_cons (pv 0) pa_nil))) (blkOk_by (N := N_law_pairs) (sc := defScope s_law_pairs) (by decide +kernel)) (fun _ _ _ _ _ => (pg_name (i := 3) nd rfl (Or.inl rfl))) (fun _ _ _ _ _ => pts_nil) (fun _ _ _ _ _ => (pe_tup (pa_cons (pv 2) (pa_cons (pv 3) pa_nil)))))))))
      (pss_one (ps_ret (pv 1))))), ?_⟩
  cases hΦ with
  | mk n h =>
    obtain ⟨v0, rfl, h0⟩ := one_arg hA
    have hpf := pairs_few h
    refine q_set (ev_lstM (R := fun p : Pin => oX K p) (xs := []) ea_nil rfl (by decide)) fun v1 W1 e1 r1 => ?_
    refine q_for (xs := List.range n) (S := oK) (src_rng1 (ea_cons (ev_var rfl (Rl.mv _ e1.g h0)) ea_nil) (by omega)) (fun i σ' W' => ∃ (v1 : V) (x2 x3 : Option V), σ' = [some v0, some v1, x2, x3] ∧ Gr W W' ∧ (oM (fun p : Pin => oX K p) (((List.range n).take i).flatMap fun a => (List.range' (a + 1) (n - (a + 1))).map fun b => (a, b))).is v1 W'.g) ?_ ?_ ?_
    · exact fun W2 e2 => ⟨v1, none, none, rfl, e1.trans e2, Rl.mv _ e2.g r1⟩
    · rintro i a σ' W' W2 v D' hx ⟨v1, x2, x3, rfl, eW, r⟩ e2 hg ra kn
      have ha := List.mem_range.mp (List.mem_of_getElem? hx)
      have hfl := flat_len (f := fun a => (List.range' (a + 1) (n - (a + 1))).map fun b => ((a, b) : Pin)) hx
      have hpl : ((List.range n).flatMap fun a => (List.range' (a + 1) (n - (a + 1))).map fun b => ((a, b) : Pin)).length ≤ 10 := hpf
      refine s_set (ev_cat (S := fun p : Pin => oX K p) (ys := (List.range' (a + 1) (n - (a + 1))).map fun b => ((a, b) : Pin)) (ev_var rfl (Rl.mv _ e2.g r)) (ev_imp (ev_lcA (xs := List.range' (a + 1) (n - (a + 1))) (fun b => oX K ((a, b) : Pin)) (src_rng2 (ea_cons (ev_i0 (ev_var rfl ra) ev_c) (ea_cons (ev_var rfl (Rl.mv _ (eW.trans e2).g h0)) ea_nil)) (by omega) (by omega)) (by rw [List.length_range']; omega) (fun _ => rfl) fun b hb W3 v e3 r3 => ev_imp (ev_tup (ea_cons (ev_var (R := oK a) rfl (Rl.mv _ e3.g ra)) (ea_cons (ev_var rfl r3) ea_nil)) (show 2 ≤ 1000000 by decide)) fun _ _ => oP_pin) fun v H h => (oM_map (fun b => ((a, b) : Pin))).mpr h) (by omega)) fun v1' W3 e3 r3 => kn _ W3 (e2.g.trans e3.g) ⟨v1', some v, x3, rfl, (eW.trans e2).trans e3, ?_⟩
      rw [take_flat hx]
      exact r3
    · rintro σ' W' hg ⟨v1, x2, x3, rfl, eW, r⟩
      rw [List.take_length] at r
      exact s_ret (ev_var (R := oM (fun p : Pin => oX K p) (pairsOf n)) rfl r) fun v W3 e3 r => k v W3 (eW.trans e3) r
def mateN (t m : Nat) : Nat := if (if t % 2 = 0 then t + 1 else t - 1) < m then (if t % 2 = 0 then t + 1 else t - 1) else t
theorem fmod_nat (a b : Nat) : (a : Int).fmod (b : Int) = ((a % b : Nat) : Int) := by
  rw [Int.fmod_eq_emod_of_nonneg _ (by omega)]
  rfl
theorem ev_int1 {σ : Sl} {W : Hw} {ta : TE} {i : Int} (h : Ev ta σ W (oI i)) : Ev (tCB rInt1 (tCons ta tNil)) σ W (oI i) := ev_cb (ea_cons h ea_nil) fun vs W' _ r => by
  obtain ⟨x, rfl, rfl⟩ := one_arg r
  exact gv_one rfl fun Q q => .inl ⟨i, rfl, q⟩
abbrev s_law_mate : Stmt := top 69
abbrev N_law_mate : List Str := ["_law_track", "_law_many", "_law_other"]
theorem sc_law_mate : FnScope N_law_mate ["_law_track", "_law_many"] (defScope s_law_mate) := ⟨rfl, rfl, rfl, by decide +kernel, rfl, by decide +kernel, by decide +kernel⟩

inductive Φ_law_mate (K : PySem.W.Frag) (C : Addr) : List Rl → Rl → Prop
  | mk (t m : Nat) : Φ_law_mate K C [oK t, oK m] (oK (mateN t m))
theorem ok_law_mate {P : Program} {w : World} {K : PySem.W.Frag} {mg : Str → Option Value} {base : Heap} {C : Addr} (T : Tx K mg C) (Dd : Df K mg "_law_mate" "_law_mate" s_law_mate ["_law_track", "_law_many"])  :
    Ca P w K mg base 1 "_law_mate" ["_law_track", "_law_many"] ((spF (Φ_law_mate K C))) := by
  refine ok_of Dd sc_law_mate (fun As R h => by cases h <;> rfl) (fun f cdv A outer s E W vs As R Q hr hΦ hA k => ?_)
  have hu := hu_any hr
  have nd := sc_law_mate.nd
  refine ⟨_, (pss_cons (ps_set (i := 2) nd rfl (Or.inl rfl) (pe_ifExp (pt_cmpR op_eq (pe_op op_modN (pe_callTy int1K rfl T.n_int boot_int' (pa_cons (pv 0) pa_nil)) pe_int) pe_int (nomark _)) (pe_op op_add (pv 0) pe_int) (pe_op op_sub (pv 0) pe_int)))
      (pss_one (ps_ret (pe_ifExp (pt_cmpR op_lt (pv 2) (pv 1) (nomark _)) (pv 2) (pv 0))))), ?_⟩
  cases hΦ with
  | mk t m =>
    obtain ⟨v0, v1, rfl, h0, h1⟩ := two_args hA
    refine q_set (R := oK (if t % 2 = 0 then t + 1 else t - 1)) (ev_if (b := decide (t % 2 = 0)) (eb_test (ev_eqV (ev_iC (i := (t : Int)) (j := ((2 : Nat) : Int)) (ev_int1 (ev_var rfl h0)) ev_c (by decide)) (ev_c (v := .int ((0 : Nat) : Int))) rfl ?_)) (fun h => ?_) fun h => ?_) fun v2 W1 e1 r2 => ?_
    · rw [fmod_nat]
      refine decide_eq_decide.mpr ⟨fun h => ?_, fun h => by rw [h]⟩
      have := V.int.inj h
      omega
    · rw [if_pos (of_decide_eq_true h)]
      exact ev_i0 (ev_var rfl h0) ev_c
    · have h := of_decide_eq_false h
      rw [if_neg h]
      refine Ev.val (ev_i0 (ev_var rfl h0) ev_c) ?_
      show V.int ((t : Int) - 1) = V.int ((t - 1 : Nat) : Int)
      congr 1
      omega
    · have h0 := Rl.mv _ e1.g h0
      have h1 := Rl.mv _ e1.g h1
      unfold mateN at k
      generalize (if t % 2 = 0 then t + 1 else t - 1) = o at r2 k
      refine s_ret (R := oK (if o < m then o else t)) (ev_if (b := decide (o < m)) (eb_test (Ev.val (ev_i0 (ev_var rfl r2) (ev_var rfl h1)) (congrArg V.bl (decide_eq_decide.mpr Int.ofNat_lt)))) (fun h => ?_) fun h => ?_) fun v W2 e2 r => k v W2 (e1.trans e2) r
      · rw [if_pos (of_decide_eq_true h)]
        exact ev_var rfl r2
      · rw [if_neg (of_decide_eq_false h)]
        exact ev_var rfl h0
inductive Fash where
  | plain
  | crossed
  | full
def Fash.str : Fash → Str
  | .plain => "plain"
  | .crossed => "crossed"
  | .full => "full"
def Fash.far (f : Fash) (m t : Nat) : List Nat := match f with
  | .plain => [t]
  | .crossed => [mateN t m]
  | .full => List.range m
def Fash.isFull : Fash → Bool
  | .full => true
  | _ => false
def Fash.isCr : Fash → Bool
  | .crossed => true
  | _ => false
def Fash.far0 (f : Fash) (m t : Nat) : List Nat := match f with
  | .full => List.range m
  | _ => [t]
theorem fash_full (f : Fash) : decide (V.str f.str = V.str "full") = f.isFull := by cases f <;> decide +kernel
theorem fash_crossed (f : Fash) : decide (V.str f.str = V.str "crossed") = f.isCr := by cases f <;> decide +kernel
def joinT (f : Fash) (m : Nat) (p : Pin) (t : Nat) : List Sw := (f.far m t).map fun e => ((p.1, t), (p.2, e))
def joinP (f : Fash) (m : Nat) (p : Pin) : List Sw := (List.range m).flatMap (joinT f m p)
def joinedL (n m : Nat) (f : Fash) : List Sw := (pairsOf n).flatMap (joinP f m)
theorem far_len (f : Fash) (m t : Nat) (h : m ≤ 6) : (f.far m t).length ≤ 6 := by
  cases f <;> simp [Fash.far] <;> omega
theorem joinP_len (f : Fash) (m : Nat) (p : Pin) (h : m ≤ 6) : (joinP f m p).length ≤ 36 := by
  have := flat_le (f := joinT f m p) (k := 6) (fun t => by unfold joinT; rw [List.length_map]; exact far_len f m t h) (List.range m)
  rw [List.length_range] at this
  unfold joinP
  omega
theorem joinedL_len (n m : Nat) (f : Fash) (hn : n ≤ 5) (h : m ≤ 6) : (joinedL n m f).length ≤ 360 := by
  have := flat_le (f := joinP f m) (k := 36) (fun p => joinP_len f m p h) (pairsOf n)
  have := pairs_few hn
  unfold joinedL
  omega
theorem ev_lrange {σ : Sl} {W : Hw} {ta : TE} {n : Nat} (h : Ev ta σ W (oK n)) (hn : n ≤ 1000) : Ev (tLstRg (tRg1 ta)) σ W (oM oK (List.range n)) := fun W1 e1 Q q => h W1 e1 _ fun v W2 e2 r => by
  have r : v = .int (n : Int) := r
  subst r
  refine ⟨n, rfl, .of_le (by omega) (by omega) (by omega) (by omega), fun p hp => ?_⟩
  refine q (.ref p) (W2.new p (.lst (rgV 0 (n : Int)))) (e2.trans (gr_new hp)) ⟨p, _, rfl, upd_same, ?_⟩
  have : rgV 0 (n : Int) = (List.range n).map fun i : Nat => V.int (i : Int) := by
    unfold rgV
    rw [show ((n : Int) - 0).toNat = n by omega]
    apply List.map_congr_left
    intro i _
    rw [Int.zero_add]
  rw [this]
  exact Al.ofvals
abbrev s_law_joined : Stmt := top 70
abbrev N_law_joined : List Str := ["_law_sides_here", "_law_many", "_law_fashion", "_law_found", "_law_one", "_law_other", "_law_track", "_law_far", "_law_end"]
theorem sc_law_joined : FnScope N_law_joined ["_law_sides_here", "_law_many", "_law_fashion"] (defScope s_law_joined) := ⟨rfl, rfl, rfl, by decide +kernel, rfl, by decide +kernel, by decide +kernel⟩

inductive Φ_law_joined (K : PySem.W.Frag) (C : Addr) : List Rl → Rl → Prop
  | mk (n m : Nat) (f : Fash) (hn : n ≤ 5) (hm : m ≤ 6) : Φ_law_joined K C [oK n, oK m, oV (.str f.str)] (oM (fun s : Sw => oX K s) ((joinedL n m f).mergeSort dle))
theorem ok_law_joined {P : Program} {w : World} {K : PySem.W.Frag} {mg : Str → Option Value} {base : Heap} {C : Addr} (T : Tx K mg C) (Dd : Df K mg "_law_joined" "_law_joined" s_law_joined ["_law_sides_here", "_law_many", "_law_fashion"]) (h_law_pairs : Ca P w K mg base 1 "_law_pairs" ["_law_sides_here"] ((spF (Φ_law_pairs K C)))) (h_law_mate : Ca P w K mg base 1 "_law_mate" ["_law_track", "_law_many"] ((spF (Φ_law_mate K C)))) :
    Ca P w K mg base 2 "_law_joined" ["_law_sides_here", "_law_many", "_law_fashion"] ((spF (Φ_law_joined K C))) := by
  refine ok_of Dd sc_law_joined (fun As R h => by cases h <;> rfl) (fun f cdv A outer s E W vs As R Q hr hΦ hA k => ?_)
  have hu := hu_any hr
  have nd := sc_law_joined.nd
  refine ⟨_, (pss_cons (ps_set (i := 3) nd rfl (Or.inl rfl) (pe_lst pa_nil))
      (pss_cons (ps_for PassesOwn.never rfl (pi_listK (K := K) rfl (pe_ca h_law_pairs hr rfl (pa_cons (pv 0) pa_nil))) (pg_tupK (K := K) (n := 2) rfl rfl (pgs_cons (pg_name (i := 4) nd rfl (Or.inr rfl)) (pgs_cons (pg_name (i := 5) nd rfl (Or.inr rfl)) pgs_nil))) (pss_one (ps_for PassesOwn.never rfl (pi_range1 rfl T.n_range (pa_cons (pv 1) pa_nil)) (pg_name (i := 6) nd rfl (Or.inr rfl)) (pss_cons (ps_set (i := 7) nd rfl (Or.inl rfl) (pe_ifExp (pt_cmpR op_eq (pv 2) pe_str (nomark _)) (pe_listRange rfl rfl T.n_list rfl T.n_range (pv 1)) (pe_lst (pa_cons (pv 6) pa_nil))))
      (pss_cons (ps_set (i := 7) nd rfl (Or.inl rfl) (pe_ifExp (pt_cmpR op_eq (pv 2) pe_str (nomark _)) (pe_lst (pa_cons (pe_ca h_law_mate hr rfl (pa_cons (pv 6) (pa_cons (pv 1) pa_nil))) pa_nil)) (pv 7)))
      (pss_one (ps_set (i := 3) nd rfl (Or.inl rfl) (pe_op op_cat (pv 3) (pe_lc (own := [("_law_end", 8)]) rfl nd (pi_listK (K := K) rfl (pv 7)) (blkOk_by (N := N_law_joined) (sc := defScope s_law_joined) (by decide +kernel)) (fun _ _ _ _ _ => (pg_name (i := 8) nd rfl (Or.inl rfl))) (fun _ _ _ _ _ => pts_nil) (fun _ _ _ _ _ => (pe_tup (pa_cons (pe_tup (pa_cons (pv 4) (pa_cons (pv 6) pa_nil))) (pa_cons (pe_tup (pa_cons (pv 5) (pa_cons (pv 8) pa_nil))) pa_nil)))))))))))))
      (pss_one (ps_ret (pe_callB (sortDK (K := K) rfl (hu 64 (by decide))) rfl T.n_sorted boot_sorted' (pa_cons (pv 3) pa_nil)))))), ?_⟩
  cases hΦ with
  | mk n m f hn hm =>
    obtain ⟨v0, v1, v2, rfl, h0, h1, h2⟩ := three_args hA
    have hpf := pairs_few hn
    have hjl := joinedL_len n m f hn hm
    refine q_set (ev_lstM (R := fun s : Sw => oX K s) (xs := []) ea_nil rfl (by decide)) fun v3 W1 e1 r3 => ?_
    refine q_for (xs := pairsOf n) (S := fun p : Pin => oX K p) (src_list (ev_L (ev_call (ea_cons (ev_var rfl (Rl.mv _ e1.g h0)) ea_nil) (Φ_law_pairs.mk n hn)))) (fun i σ' W' => ∃ (v3 : V) (x4 x5 x6 x7 x8 : Option V), σ' = [some v0, some v1, some v2, some v3, x4, x5, x6, x7, x8] ∧ Gr W W' ∧ (oM (fun s : Sw => oX K s) (((pairsOf n).take i).flatMap (joinP f m))).is v3 W'.g) ?_ ?_ ?_
    · exact fun W2 e2 => ⟨v3, none, none, none, none, none, rfl, e1.trans e2, Rl.mv _ e2.g r3⟩
    · rintro i p σ' W' W2 v D' hx ⟨v3, x4, x5, x6, x7, x8, rfl, eW, r⟩ e2 hg rp kn
      have hfl := flat_len (f := joinP f m) hx
      have hfl' : ((pairsOf n).flatMap (joinP f m)).length ≤ 360 := hjl
      refine g_names (A := oX K p.1) (B := oX K p.2) (pair_T rp) fun y4 y5 ry4 ry5 => ?_
      have ry4 := X_nat ry4
      have ry5 := X_nat ry5
      subst ry4 ry5
      have eW2 := eW.trans e2
      refine s_for (xs := List.range m) (S := oK) (src_rng1 (ea_cons (ev_var rfl (Rl.mv _ eW2.g h1)) ea_nil) (by omega)) (fun j σ' W' => ∃ (v3 : V) (x6 x7 x8 : Option V), σ' = [some v0, some v1, some v2, some v3, some (.int (p.1 : Int)), some (.int (p.2 : Int)), x6, x7, x8] ∧ Gr W2 W' ∧ (oM (fun s : Sw => oX K s) (((pairsOf n).take i).flatMap (joinP f m) ++ ((List.range m).take j).flatMap (joinT f m p))).is v3 W'.g) ?_ ?_ ?_
      · refine fun W3 e3 => ⟨v3, x6, x7, x8, rfl, e3, ?_⟩
        rw [List.take_zero, List.flatMap_nil, List.append_nil]
        exact Rl.mv _ (e2.trans e3).g r
      · rintro j t σ' W3 W4 vt D4 hxt ⟨v3, x6, x7, x8, rfl, e23, r⟩ e4 hg4 rt kn4
        have htm := List.mem_range.mp (List.mem_of_getElem? hxt)
        have hfl2 := flat_len (f := joinT f m p) hxt
        have hfl3 : ((List.range m).flatMap (joinT f m p)).length = (joinP f m p).length := rfl
        have eW4 := (eW2.trans e23).trans e4
        have hfar := far_len f m t hm
        refine q_set (R := oM oK (f.far0 m t)) (ev_if (b := f.isFull) (eb_test (ev_eqV (ev_var rfl (Rl.mv _ eW4.g h2)) (ev_c (v := .str "full")) rfl (fash_full f))) (fun h => ?_) fun h => ?_) fun v7 W5 e5 r7 => ?_
        · cases f with
          | full => exact ev_lrange (ev_var rfl (Rl.mv _ eW4.g h1)) (by omega)
          | plain => cases h
          | crossed => cases h
        · have hh : Ev (tLst (tCons (tVar 6) tNil)) ([some v0, some v1, some v2, some v3, some (V.int (p.1 : Int)), some (V.int (p.2 : Int)), some vt, x7, x8]) W4 (oM oK [t]) := ev_lstM (ea_cons (ev_var rfl rt) ea_nil) rfl (show 1 ≤ 1000000 by decide)
          cases f with
          | full => cases h
          | plain => exact hh
          | crossed => exact hh
        have eW5 := eW4.trans e5
        refine q_set (R := oM oK (f.far m t)) (ev_if (b := f.isCr) (eb_test (ev_eqV (ev_var rfl (Rl.mv _ eW5.g h2)) (ev_c (v := .str "crossed")) rfl (fash_crossed f))) (fun h => ?_) fun h => ?_) fun v7' W6 e6 r7' => ?_
        · cases f with
          | crossed => exact ev_lstM (R := oK) (xs := [mateN t m]) (ea_cons (ev_call (ea_cons (ev_var (R := oK t) rfl (Rl.mv _ e5.g rt)) (ea_cons (ev_var rfl (Rl.mv _ eW5.g h1)) ea_nil)) (Φ_law_mate.mk t m)) ea_nil) rfl (show 1 ≤ 1000000 by decide)
          | plain => cases h
          | full => cases h
        · cases f with
          | crossed => cases h
          | plain => exact ev_var rfl r7
          | full => exact ev_var rfl r7
        have r := Rl.mv _ (e4.trans (e5.trans e6)).g r
        have rt6 : (oK t).is vt W6.g := rt
        refine s_set (ev_cat (S := fun s : Sw => oX K s) (ys := joinT f m p t) (ev_var rfl r) (ev_imp (ev_lcA (xs := f.far m t) (fun e => oX K (((p.1, t), (p.2, e)) : Sw)) (src_list (ev_var rfl (oM_L r7'))) (by omega) (fun _ => rfl) fun e he W7 v8 e7 r8 => ?_) fun v H h => (oM_map (fun e => (((p.1, t), (p.2, e)) : Sw))).mpr h) ?_) fun v3' W7 e7 r3' => kn4 _ W7 (((e4.trans e5).trans e6).trans e7).g ⟨v3', some vt, some v7', x8, rfl, ((((e23.trans e4).trans e5).trans e6).trans e7), ?_⟩
        · refine ev_imp (ev_tup (ea_cons (ev_imp (ev_tup (ea_cons (ev_var (R := oK p.1) rfl rfl) (ea_cons (ev_var (R := oK t) rfl (Rl.mv _ e7.g rt6)) ea_nil)) (show 2 ≤ 1000000 by decide)) fun _ _ => oP_pin (K := K)) (ea_cons (ev_imp (ev_tup (ea_cons (ev_var (R := oK p.2) rfl rfl) (ea_cons (ev_var rfl r8) ea_nil)) (show 2 ≤ 1000000 by decide)) fun _ _ => oP_pin (K := K)) ea_nil)) (show 2 ≤ 1000000 by decide)) fun v H h => ?_
          obtain ⟨a, us, rfl, g2, g3⟩ := h
          obtain ⟨x, y, rfl, rx, ry⟩ := two_args g3
          exact .tup (SqT.of g2) (.cons rx (.cons ry .nil))
        · rw [List.length_append]
          omega
        · rw [take_flat hxt, ← List.append_assoc]
          exact r3'
      · rintro σ' W3 hg3 ⟨v3, x6, x7, x8, rfl, e23, r⟩
        refine kn _ W3 (e2.g.trans e23.g) ⟨v3, _, _, x6, x7, x8, rfl, eW2.trans e23, ?_⟩
        rw [List.take_length] at r
        rw [take_flat hx]
        exact r
    · rintro σ' W' hg ⟨v3, x4, x5, x6, x7, x8, rfl, eW, r⟩
      rw [List.take_length] at r
      exact s_ret (ev_sort (K := K) (S := fun s : Sw => oX K s) (xs := joinedL n m f) (ea_cons (ev_var rfl (oM_L r)) ea_nil) isX_X srt_pair) fun v W2 e2 r => k v W2 (eW.trans e2) r
theorem below_filter (l o : List Nat) : decide ((Ls.mk (((l.zip o).filter fun p => decide (p.2 < p.1)).map fun _ => 1) : Ls Nat) = ⟨[]⟩) = below l o := by
  unfold below
  cases h : (l.zip o).all fun p => decide (p.1 ≤ p.2) with
  | true =>
    refine decide_eq_true (congrArg Ls.mk ?_)
    rw [List.map_eq_nil_iff, List.filter_eq_nil_iff]
    intro p hp
    have := of_decide_eq_true (List.all_eq_true.mp h p hp)
    rw [decide_eq_true_eq]
    omega
  | false =>
    refine decide_eq_false fun e => ?_
    have e := congrArg Ls.items e
    have e : ((l.zip o).filter fun p => decide (p.2 < p.1)).map (fun _ => 1) = ([] : List Nat) := e
    rw [List.map_eq_nil_iff, List.filter_eq_nil_iff] at e
    have : (l.zip o).all (fun p => decide (p.1 ≤ p.2)) = true := List.all_eq_true.mpr fun p hp => by
      have := e p hp
      rw [decide_eq_true_eq] at this ⊢
      omega
    rw [this] at h
    cases h
abbrev s_law_under : Stmt := top 74
abbrev N_law_under : List Str := ["_law_load", "_law_other", "_law_item", "_law_more"]
theorem sc_law_under : FnScope N_law_under ["_law_load", "_law_other"] (defScope s_law_under) := ⟨rfl, rfl, rfl, by decide +kernel, rfl, by decide +kernel, by decide +kernel⟩

inductive Φ_law_under (K : PySem.W.Frag) (C : Addr) : List Rl → Rl → Prop
  | mk (l o : List Nat) (hz : l.length ≤ 1000) : Φ_law_under K C [oX K l, oX K o] (oB (below l o))
theorem ok_law_under {P : Program} {w : World} {K : PySem.W.Frag} {mg : Str → Option Value} {base : Heap} {C : Addr} (T : Tx K mg C) (Dd : Df K mg "_law_under" "_law_under" s_law_under ["_law_load", "_law_other"])  :
    Ca P w K mg base 1 "_law_under" ["_law_load", "_law_other"] ((spF (Φ_law_under K C))) := by
  refine ok_of Dd sc_law_under (fun As R h => by cases h <;> rfl) (fun f cdv A outer s E W vs As R Q hr hΦ hA k => ?_)
  have hu := hu_any hr
  have nd := sc_law_under.nd
  refine ⟨_, (pss_one (ps_ret (pe_cmpR (eqDK (K := K) rfl (hu 64 (by decide))) (pe_lc (own := [("_law_item", 2), ("_law_more", 3)]) rfl nd (pi_zipK (K := K) rfl rfl T.n_zip (pa_cons (pv 0) (pa_cons (pv 1) pa_nil))) (blkOk_by (N := N_law_under) (sc := defScope s_law_under) (by decide +kernel)) (fun _ _ _ _ _ => (pg_tupK (K := K) (n := 2) rfl rfl (pgs_cons (pg_name (i := 2) nd rfl (Or.inl rfl)) (pgs_cons (pg_name (i := 3) nd rfl (Or.inl rfl)) pgs_nil)))) (fun _ _ _ _ _ => (pts_one (pt_cmpR op_gt (pv 2) (pv 3) (nomark _)))) (fun _ _ _ _ _ => pe_int)) (pe_lst pa_nil) (nomark _)))), ?_⟩
  cases hΦ with
  | mk l o hz =>
    obtain ⟨v0, v1, rfl, h0, h1⟩ := two_args hA
    refine s_ret (Ev.val (ev_eqX (α := Ls Nat) (x := ⟨((l.zip o).filter fun p => decide (p.2 < p.1)).map fun _ => 1⟩) (y := ⟨[]⟩) (ev_imp (ev_lcP (xs := l.zip o) (fun p : Nat × Nat => decide (p.2 < p.1)) (fun _ => oK 1) (src_zipT (ea_cons (ev_imp (ev_var rfl h0) fun _ _ => X_ldT) (ea_cons (ev_imp (ev_var rfl h1) fun _ _ => X_ldT) ea_nil))) ?_ (fun _ _ => rfl) fun p hp W1 v u e r1 r2 => ⟨eb_test (Ev.val (ev_i0 (ev_var rfl r1) (ev_var rfl r2)) (congrArg V.bl (decide_eq_decide.mpr Int.ofNat_lt))), fun _ => ev_c⟩) fun v H h => ?_) (ev_imp (ev_lst ea_nil (by decide)) fun v H h => ?_)) (congrArg V.bl ((decide_eq_decide.mpr Iff.rfl).trans (below_filter l o)))) k
    · rw [List.length_zip]
      omega
    · have h' := oM_L (K := K) ((oM_map (R := fun n : Nat => oK n) (fun _ : Nat × Nat => 1)).mpr h)
      exact isX.list (α := Nat) (R := fun n => oK n) (fun x v H h => nat_X h) ⟨_⟩ v H h'
    · obtain ⟨a, us, rfl, g2, g3⟩ := h
      have : us = [] := List.eq_nil_of_length_eq_zero g3.len
      subst this
      exact .lst (SqL.of g2) .nil
theorem any_filter (l : List Nat) (F : List (List Nat)) : (!decide ((Ls.mk ((F.filter (below l)).map fun _ => 1) : Ls Nat) = ⟨[]⟩)) = F.any (below l) := by
  cases h : F.any (below l) with
  | true =>
    rw [decide_eq_false fun e => ?_]
    · rfl
    · have e := congrArg Ls.items e
      have e : (F.filter (below l)).map (fun _ => 1) = ([] : List Nat) := e
      rw [List.map_eq_nil_iff, List.filter_eq_nil_iff] at e
      obtain ⟨x, hx, hb⟩ := List.any_eq_true.mp h
      exact e x hx hb
  | false =>
    rw [decide_eq_true]
    · rfl
    · refine congrArg Ls.mk ?_
      rw [List.map_eq_nil_iff, List.filter_eq_nil_iff]
      intro x hx hb
      have := List.any_eq_true.mpr ⟨x, hx, hb⟩
      rw [h] at this
      cases this
abbrev s_law_is_of : Stmt := top 75
abbrev N_law_is_of : List Str := ["_law_load", "_law_tops", "_law_top"]
theorem sc_law_is_of : FnScope N_law_is_of ["_law_load", "_law_tops"] (defScope s_law_is_of) := ⟨rfl, rfl, rfl, by decide +kernel, rfl, by decide +kernel, by decide +kernel⟩

inductive Φ_law_is_of (K : PySem.W.Frag) (C : Addr) : List Rl → Rl → Prop
  | mk (l : List Nat) (F : List (List Nat)) (hz : l.length ≤ 1000) (hF : F.length ≤ 1000000) : Φ_law_is_of K C [oX K l, oU oLd F] (oB (F.any (below l)))
theorem ok_law_is_of {P : Program} {w : World} {K : PySem.W.Frag} {mg : Str → Option Value} {base : Heap} {C : Addr} (T : Tx K mg C) (Dd : Df K mg "_law_is_of" "_law_is_of" s_law_is_of ["_law_load", "_law_tops"]) (h_law_under : Ca P w K mg base 1 "_law_under" ["_law_load", "_law_other"] ((spF (Φ_law_under K C)))) :
    Ca P w K mg base 2 "_law_is_of" ["_law_load", "_law_tops"] ((spF (Φ_law_is_of K C))) := by
  refine ok_of Dd sc_law_is_of (fun As R h => by cases h <;> rfl) (fun f cdv A outer s E W vs As R Q hr hΦ hA k => ?_)
  have hu := hu_any hr
  have nd := sc_law_is_of.nd
  refine ⟨_, (pss_one (ps_ret (pe_cmpR (neDK (K := K) rfl (hu 64 (by decide))) (pe_lc (own := [("_law_top", 2)]) rfl nd (pi_tupK (K := K) rfl (pv 1)) (blkOk_by (N := N_law_is_of) (sc := defScope s_law_is_of) (by decide +kernel)) (fun _ _ _ _ _ => (pg_name (i := 2) nd rfl (Or.inl rfl))) (fun _ _ _ _ _ => (pts_one (pt_val (pe_ca h_law_under hr rfl (pa_cons (pv 0) (pa_cons (pv 2) pa_nil)))))) (fun _ _ _ _ _ => pe_int)) (pe_lst pa_nil) (nomark _)))), ?_⟩
  cases hΦ with
  | mk l F hz hF =>
    obtain ⟨v0, v1, rfl, h0, h1⟩ := two_args hA
    refine s_ret (Ev.val (ev_neX (α := Ls Nat) (x := ⟨(F.filter (below l)).map fun _ => 1⟩) (y := ⟨[]⟩) (ev_imp (ev_lcF (xs := F) (below l) (fun _ => oK 1) (src_tup (ev_T (ev_var rfl h1))) hF (fun _ => rfl) fun o ho W1 v e r => ⟨eb_B (ev_call (ea_cons (ev_var rfl (Rl.mv _ e.g h0)) (ea_cons (ev_imp (ev_var rfl r) fun _ _ => ld_X) ea_nil)) (Φ_law_under.mk l o hz)), fun _ => ev_c⟩) fun v H h => ?_) (ev_imp (ev_lst ea_nil (by decide)) fun v H h => ?_)) (congrArg V.bl ((congrArg not (decide_eq_decide.mpr Iff.rfl)).trans (any_filter l F)))) k
    · have h' := oM_L (K := K) ((oM_map (R := fun n : Nat => oK n) (fun _ : List Nat => 1)).mpr h)
      exact isX.list (α := Nat) (R := fun n => oK n) (fun x v H h => nat_X h) ⟨_⟩ v H h'
    · obtain ⟨a, us, rfl, g2, g3⟩ := h
      have : us = [] := List.eq_nil_of_length_eq_zero g3.len
      subst this
      exact .lst (SqL.of g2) .nil
abbrev sk (x : Str) : Key := Sum.inr x
def scK (n t : Nat) (j : V) : List (Key × V) := [(sk "sides", .int (n : Int)), (sk "many", .int (t : Int)), (sk "joined", j)]
def oSc (K : PySem.W.Frag) (b : Bo) : Rl := ⟨fun v H => ∃ d j, v = .ref d ∧ H d = some (.dK (scK b.n b.t j)) ∧ (oX K b.sw).is j H, fun e ⟨d, j, h1, h2, h3⟩ => ⟨d, j, h1, e _ _ h2, Rl.up _ e h3⟩⟩
theorem str_ne1 : ¬ (sk "sides" = sk "many") := by decide +kernel
theorem str_ne2 : ¬ (sk "sides" = sk "joined") := by decide +kernel
theorem str_ne3 : ¬ (sk "many" = sk "joined") := by decide +kernel
theorem sc_s (n t : Nat) (j : V) : valV (scK n t j) (sk "sides") = some (.int (n : Int)) := valV_pos rfl
theorem sc_m (n t : Nat) (j : V) : valV (scK n t j) (sk "many") = some (.int (t : Int)) := (valV_neg str_ne1).trans (valV_pos rfl)
theorem sc_j (n t : Nat) (j : V) : valV (scK n t j) (sk "joined") = some j := (valV_neg str_ne2).trans ((valV_neg str_ne3).trans (valV_pos rfl))
theorem ev_scget {K : PySem.W.Frag} {σ : Sl} {W : Hw} {ta : TE} {b : Bo} {x : Str} {R : Rl} (h : Ev ta σ W (oSc K b)) (hx : ∀ j H, (oX K b.sw).is j H → ∃ v, valV (scK b.n b.t j) (sk x) = some v ∧ R.is v H) : Ev (tDGet ta (tC (.str x))) σ W R := fun W1 e1 Q q =>
  h W1 e1 _ fun v W2 e2 ⟨d, j, hv, hd, hj⟩ => by
    obtain ⟨z, g1, g2⟩ := hx j _ hj
    exact ⟨d, z, hv, .inl ⟨_, sk x, .inl (W2.le _ _ hd), rfl, g1.symm⟩, q z W2 e2 g2⟩
abbrev s_law_made : Stmt := top 73
abbrev N_law_made : List Str := ["_law_scope_here"]
theorem sc_law_made : FnScope N_law_made ["_law_scope_here"] (defScope s_law_made) := ⟨rfl, rfl, rfl, by decide +kernel, rfl, by decide +kernel, by decide +kernel⟩

inductive Φ_law_made (K : PySem.W.Frag) (C : Addr) : List Rl → Rl → Prop
  | mk (b : Bo) (hb : BoOk b) : Φ_law_made K C [oSc K b] (oBox K C b)
theorem ok_law_made {P : Program} {w : World} {K : PySem.W.Frag} {mg : Str → Option Value} {base : Heap} {C : Addr} (T : Tx K mg C) (Dd : Df K mg "_law_made" "_law_made" s_law_made ["_law_scope_here"]) (h_Box : Ma P w K mg base 5 "Box" C ["self", "sides", "tracks", "switches"] (sp_box_init K C)) :
    Ca P w K mg base 7 "_law_made" ["_law_scope_here"] ((spF (Φ_law_made K C))) := by
  refine ok_of Dd sc_law_made (fun As R h => by cases h <;> rfl) (fun f cdv A outer s E W vs As R Q hr hΦ hA k => ?_)
  have hu := hu_any hr
  have nd := sc_law_made.nd
  refine ⟨_, (pss_one (ps_ret (pe_mk h_Box hr rfl (pa_cons (pe_dget (hu 1 (by decide)) (pv 0) pe_str (fun _ _ => rfl)) (pa_cons (pe_dget (hu 1 (by decide)) (pv 0) pe_str (fun _ _ => rfl)) (pa_cons (pe_dget (hu 1 (by decide)) (pv 0) pe_str (fun _ _ => rfl)) pa_nil)))))), ?_⟩
  cases hΦ with
  | mk b hb =>
    obtain ⟨v0, rfl, h0⟩ := one_arg hA
    exact s_ret (ev_box hb (ea_cons (ev_scget (R := oK b.n) (ev_var rfl h0) fun j H _ => ⟨_, sc_s _ _ j, rfl⟩) (ea_cons (ev_scget (R := oK b.t) (ev_var rfl h0) fun j H _ => ⟨_, sc_m _ _ j, rfl⟩) (ea_cons (ev_scget (R := oX K b.sw) (ev_var rfl h0) fun j H hj => ⟨_, sc_j _ _ j, hj⟩) ea_nil))) rfl) k
end Bx

set_option Elab.async false
set_option linter.all false
set_option maxRecDepth 100000
set_option maxHeartbeats 4000000
set_option autoImplicit false
namespace Bx
open PySem L2 StX RZ
/-! ### the state of the draws -/
theorem k_lc : ¬ (sk "large" = sk "cells") := by decide +kernel
theorem k_ll : ¬ (sk "large" = sk "left") := by decide +kernel
theorem k_lt : ¬ (sk "large" = sk "turn") := by decide +kernel
theorem k_cl : ¬ (sk "cells" = sk "left") := by decide +kernel
theorem k_ct : ¬ (sk "cells" = sk "turn") := by decide +kernel
theorem k_et : ¬ (sk "left" = sk "turn") := by decide +kernel
def stK (L Cc : Addr) (left turn : Int) : List (Key × V) := [(sk "large", .ref L), (sk "cells", .ref Cc), (sk "left", .int left), (sk "turn", .int turn)]
section
variable {L Cc : Addr} {left turn : Int}
theorem st_large : valV (stK L Cc left turn) (sk "large") = some (.ref L) := valV_pos rfl
theorem st_cells : valV (stK L Cc left turn) (sk "cells") = some (.ref Cc) := (valV_neg k_lc).trans (valV_pos rfl)
theorem st_left : valV (stK L Cc left turn) (sk "left") = some (.int left) := (valV_neg k_ll).trans ((valV_neg k_cl).trans (valV_pos rfl))
theorem st_turn : valV (stK L Cc left turn) (sk "turn") = some (.int turn) := (valV_neg k_lt).trans ((valV_neg k_ct).trans ((valV_neg k_et).trans (valV_pos rfl)))
theorem put_left (z : Int) : putK (stK L Cc left turn) (sk "left") (.int z) = stK L Cc z turn := by
  have ha : ((stK L Cc left turn).any fun kv => decide (kv.1 = sk "left")) = true := by
    rw [valV_any, st_left]
    rfl
  unfold putK
  rw [if_pos ha]
  show [_, _, _, _] = [_, _, _, _]
  simp only [stK, k_ll, k_cl, if_false, if_true, List.cons.injEq, and_true, true_and]
  exact if_neg fun e => k_et e.symm
theorem put_turn (z : Int) : putK (stK L Cc left turn) (sk "turn") (.int z) = stK L Cc left z := by
  have ha : ((stK L Cc left turn).any fun kv => decide (kv.1 = sk "turn")) = true := by
    rw [valV_any, st_turn]
    rfl
  unfold putK
  rw [if_pos ha]
  show [_, _, _, _] = [_, _, _, _]
  simp only [stK, k_lt, k_ct, k_et, if_false, if_true]
theorem st_merge : mergeK [] (stK L Cc left turn) = stK L Cc left turn := by
  have h1 : putK ([] : List (Key × V)) (sk "large") (.ref L) = [(sk "large", .ref L)] := putK_new _ rfl
  have h2 : putK ([(sk "large", .ref L)] : List (Key × V)) (sk "cells") (.ref Cc) = [(sk "large", .ref L), (sk "cells", .ref Cc)] := putK_new _ ((valV_neg k_lc).trans rfl)
  have h3 : putK ([(sk "large", .ref L), (sk "cells", .ref Cc)] : List (Key × V)) (sk "left") (.int left) = [(sk "large", .ref L), (sk "cells", .ref Cc), (sk "left", .int left)] := putK_new _ ((valV_neg k_ll).trans ((valV_neg k_cl).trans rfl))
  have h4 : putK ([(sk "large", .ref L), (sk "cells", .ref Cc), (sk "left", .int left)] : List (Key × V)) (sk "turn") (.int turn) = stK L Cc left turn := putK_new _ ((valV_neg k_lt).trans ((valV_neg k_ct).trans ((valV_neg k_et).trans rfl)))
  show putK (putK (putK (putK [] (sk "large") (.ref L)) (sk "cells") (.ref Cc)) (sk "left") (.int left)) (sk "turn") (.int turn) = _
  rw [h1, h2, h3, h4]
theorem fmod_nn (a : Int) {b : Int} (h : 0 < b) : 0 ≤ a.fmod b := by
  rw [Int.fmod_eq_emod_of_nonneg _ (by omega)]
  exact Int.emod_nonneg _ (by omega)
end
/-- later, but for the state -/
structure Gs (d L : Addr) (W W' : Hw) : Prop where
  g : Same W.g W'.g
  h : ∀ b o, b ≠ d → b ≠ L → W.h b = some o → W'.h b = some o
  hid : ∀ b, b ≠ d → b ≠ L → Hdn (W.h b) → W.g b = none → W'.g b = none
theorem Gs.of {d L : Addr} {W W' : Hw} (e : Gr W W') : Gs d L W W' := ⟨e.g, fun b o _ _ h => e.h b o h, fun b _ _ h1 h2 => e.hid b h1 h2⟩
theorem Gs.trans {d L : Addr} {W W1 W2 : Hw} (a : Gs d L W W1) (b : Gs d L W1 W2) : Gs d L W W2 := ⟨a.g.trans b.g, fun c o h1 h2 h => b.h c o h1 h2 (a.h c o h1 h2 h), fun c h1 h2 ⟨o, h3, h4⟩ h5 => b.hid c h1 h2 ⟨o, a.h c o h1 h2 h3, h4⟩ (a.hid c h1 h2 ⟨o, h3, h4⟩ h5)⟩
theorem gs_own {d L p : Addr} {W : Hw} {o : HO} (hp : p = d ∨ p = L) (n : W.g p = none) : Gs d L W (W.own p o n) := ⟨Same.refl _, fun b u h1 h2 h => by
  show upd W.h p o b = some u
  rw [upd_ne (fun z => hp.elim (fun e => h1 (z.trans e)) fun e => h2 (z.trans e))]
  exact h, fun b _ _ _ h => h⟩
/-- the state, part by part -/
structure StF (d L Cc : Addr) (large cells : List Int) (left turn : Int) (W : Hw) : Prop where
  hd : W.h d = some (.dK (stK L Cc left turn))
  hL : W.h L = some (.lst (large.map V.int))
  hC : W.g Cc = some (.lst (cells.map V.int))
  pL : ∀ x ∈ large, 0 ≤ x
  pC : ∀ x ∈ cells, 0 ≤ x
  p1 : 0 ≤ left
  p2 : 0 ≤ turn
  gd : W.g d = none
  gL : W.g L = none
  ne : d ≠ L
theorem StF.up {d L Cc : Addr} {large cells : List Int} {left turn : Int} {W W' : Hw} (f : StF d L Cc large cells left turn W) (e : Gr W W') : StF d L Cc large cells left turn W' :=
  ⟨e.h _ _ f.hd, e.h _ _ f.hL, e.g _ _ f.hC, f.pL, f.pC, f.p1, f.p2, e.hid d ⟨_, f.hd, fun _ z => nomatch z⟩ f.gd, e.hid L ⟨_, f.hL, fun _ z => nomatch z⟩ f.gL, f.ne⟩
def StW (d L : Addr) (n : Nat) (W : Hw) : Prop := ∃ Cc large cells left turn, StF d L Cc large cells left turn W ∧ turn ≤ (n : Int)
theorem StW.up {d L : Addr} {n : Nat} {W W' : Hw} (h : StW d L n W) (e : Gr W W') : StW d L n W' := by
  obtain ⟨Cc, large, cells, left, turn, f, ht⟩ := h
  exact ⟨Cc, large, cells, left, turn, f.up e, ht⟩
theorem StW.mono {d L : Addr} {n m : Nat} {W : Hw} (h : StW d L n W) (hm : n ≤ m) : StW d L m W := by
  obtain ⟨Cc, large, cells, left, turn, f, ht⟩ := h
  exact ⟨Cc, large, cells, left, turn, f, by omega⟩
section
variable {K : PySem.W.Frag} {σ : Sl} {W : Hw} {i : Nat} {d : Addr} {kvs : List (Key × V)} {x : Str} {v : V} {H : Hp} {Q : VK}
theorem dget_run (hv : σ[i]? = some (some (.ref d))) (hd : H d = some (.dK kvs)) (hk : valV kvs (sk x) = some v) (q : Q v H) : tDGet (tVar i) (tC (.str x)) σ H Q :=
  ⟨.ref d, hv, d, v, rfl, .inl ⟨kvs, sk x, .inl hd, rfl, hk.symm⟩, q⟩
theorem ev_stget (hv : σ[i]? = some (some (.ref d))) (hd : W.h d = some (.dK kvs)) (hk : valV kvs (sk x) = some v) : Ev (tDGet (tVar i) (tC (.str x))) σ W (oV v) := fun W1 e Q q =>
  dget_run hv (e.h _ _ hd) hk (q v W1 (Gr.refl _) rfl)
theorem q_dput {te : TE} {u : TS} {D : Ends} {R : Rl} (hv : σ[i]? = some (some (.ref d))) (he : Ev te σ W R) (hd : W.h d = some (.dK kvs)) (gd : W.g d = none) (hl : kvs.length ≤ 1000)
    (k : ∀ v W' (e : Gr W W') (g : W'.g d = none), R.is v W'.g → u D σ (W'.own d (.dK (putK kvs (sk x) v)) g).h) : tSeq (sDPut (tVar i) (tC (.str x)) te) u D σ W.h :=
  he W (Gr.refl _) _ fun v W' e r => ⟨.ref d, hv, d, _, rfl, DPut.k (k := sk x) (e.h _ _ hd) (small_lt (by omega)), k v W' e (e.hid d ⟨_, hd, fun _ z => nomatch z⟩ gd) r⟩
theorem hid_neE {α : Type} [DecidableEq α] [Dt α] {S : α → Rl} {xs : List α} {p : Addr} {acc : List V} {te : TE} (he : Ev te σ W (oV (.ref p))) (hp : W.h p = some (.lst acc)) (r : Al S xs acc W.g) (hS : isX K S) (hz : Dt.dep α ≤ 50 := by decide) : Eb (tTest (tOp (rNeD K) te (tLst tNil))) σ W (!decide (xs = [])) := fun W1 e Q q =>
  he W1 e _ fun v W2 e2 hv => ⟨Nat.zero_le _, fun d hd => by
    have hv : v = .ref p := hv
    subst hv
    have hp2 := e2.h _ _ (e.h _ _ hp)
    have hdp : Dp K (W2.new d (.lst [])).h (.ref p) (.list (xs.map Dt.enc)) := by
      refine .lst (SqL.of (by show upd W2.h d _ p = _; rw [upd_ne (fun z => by rw [z, hd] at hp2; cases hp2)]; exact hp2)) ?_
      exact dpAll_up (W2.new d (.lst [])).le _ _ (Al.dp (e := Dt.enc) ((r.up ((e.trans e2).trans (gr_new hd)).g).imp fun x v _ => hS x v _))
    refine ⟨_, .list [], hdp, .lst (SqL.of upd_same) .nil, shpL xs hz, by decide, _, rfl, ?_⟩
    have e1 : PyData.eqv (.list (xs.map Dt.enc)) (.list []) = decide (xs = []) := by
      have := Dt.eqv (α := Ls α) ⟨xs⟩ ⟨[]⟩
      refine Eq.trans this (decide_eq_decide.mpr ⟨fun h => congrArg Ls.items h, fun h => congrArg Ls.mk h⟩)
    rw [e1]
    exact q (W2.new d (.lst [])) (e2.trans (gr_new hd))⟩
end
theorem isX_int {K : PySem.W.Frag} : isX K (fun i : Int => oI i) := fun i v H h => by
  have h : v = .int i := h
  rw [h]
  exact .int i
abbrev s_law_draw : Stmt := top 65
abbrev N_law_draw : List Str := ["_law_state", "_law_size_here", "_law_found", "_law_turn", "_law_cell", "_law_mixed_here"]
theorem sc_law_draw : FnScope N_law_draw ["_law_state", "_law_size_here"] (defScope s_law_draw) := ⟨rfl, rfl, rfl, by decide +kernel, rfl, by decide +kernel, by decide +kernel⟩

def sp_law_draw (K : PySem.W.Frag) (C : Addr) : Sp := fun vs H Q _ => ∃ (W : Hw) (d L : Addr) (n sz : Nat), vs = [.ref d, .int (sz : Int)] ∧ H = W.h ∧ StW d L n W ∧ n ≤ 100000 ∧ 1 ≤ sz ∧ sz ≤ 100000 ∧
  ∀ (r : Nat) W', Gs d L W W' → StW d L (n + 1) W' → r < sz → Q (.int (r : Int)) W'.h
theorem ok_law_draw {P : Program} {w : World} {K : PySem.W.Frag} {mg : Str → Option Value} {base : Heap} {C : Addr} (T : Tx K mg C) (Dd : Df K mg "_law_draw" "_law_draw" s_law_draw ["_law_state", "_law_size_here"])  :
    Ca P w K mg base 1 "_law_draw" ["_law_state", "_law_size_here"] (sp_law_draw K C) := by
  obtain ⟨f, fd, F, hm, hb⟩ := Dd
  refine ⟨f, fd, F.ok sc_law_draw (fun vs H Q E h => ?_) (fun cdv A outer s H vs Q E hr h => ?_), hm, F.kp, hb⟩
  · obtain ⟨W, d, L, n, sz, rfl, _⟩ := h
    rfl
  · obtain ⟨W, d, L, n, sz, rfl, rfl, ⟨Cc, large, cells, left, turn, st, ht⟩, hn, h1, h2, k⟩ := h
    have hu := hu_any hr
    have nd := sc_law_draw.nd
    refine ⟨_, (pss_cons (ps_while PassesOwn.never (pt_andW (pt_cmpR op_eq (pe_dget (hu 1 (by decide)) (pv 0) pe_str (fun _ _ => rfl)) pe_int (nomark _)) (pw_and1 (pt_cmpR (neDK (K := K) rfl (hu 64 (by decide))) (pe_dget (hu 1 (by decide)) (pv 0) pe_str (fun _ _ => rfl)) (pe_lst pa_nil) (nomark _)))) (pss_one (ps_dput (hu 1 (by decide)) (pv 0) pe_str (pe_bmK (K := K) rfl PySem.F.plainAttrs_list PySem.F.slot_list_pop PySem.F.type_list_pop mt_popAt (pe_dget (hu 1 (by decide)) (pv 0) pe_str (fun _ _ => rfl)) (pa_cons pe_int pa_nil)) rfl)))
      (pss_cons (ps_if (pt_cmpR op_gt (pe_dget (hu 1 (by decide)) (pv 0) pe_str (fun _ _ => rfl)) pe_int (nomark _)) (pss_cons (ps_set (i := 2) nd rfl (Or.inl rfl) (pe_op op_modN (pe_callTy int1K rfl T.n_int boot_int' (pa_cons (pe_dget (hu 1 (by decide)) (pv 0) pe_str (fun _ _ => rfl)) pa_nil)) (pv 1)))
      (pss_cons (ps_dput (hu 1 (by decide)) (pv 0) pe_str (pe_op op_fdivN (pe_dget (hu 1 (by decide)) (pv 0) pe_str (fun _ _ => rfl)) (pv 1)) rfl)
      (pss_one (ps_ret (pv 2))))) pss_nil)
      (pss_cons (ps_set (i := 3) nd rfl (Or.inl rfl) (pe_op op_add (pe_dget (hu 1 (by decide)) (pv 0) pe_str (fun _ _ => rfl)) pe_int))
      (pss_cons (ps_dput (hu 1 (by decide)) (pv 0) pe_str (pv 3) rfl)
      (pss_cons (ps_set (i := 4) nd rfl (Or.inl rfl) (pe_ifExp (pt_cmpR (neDK (K := K) rfl (hu 64 (by decide))) (pe_dget (hu 1 (by decide)) (pv 0) pe_str (fun _ _ => rfl)) (pe_lst pa_nil) (nomark _)) (pe_ix (ixL (K := K) rfl) (pe_dget (hu 1 (by decide)) (pv 0) pe_str (fun _ _ => rfl)) (pe_op op_modN (pe_callTy int1K rfl T.n_int boot_int' (pa_cons (pv 3) pa_nil)) (pe_callB (lenK (K := K) rfl) rfl T.n_len boot_len' (pa_cons (pe_dget (hu 1 (by decide)) (pv 0) pe_str (fun _ _ => rfl)) pa_nil))) (fun _ _ => rfl)) pe_int))
      (pss_cons (ps_set (i := 5) nd rfl (Or.inl rfl) (pe_op op_modN (pe_callTy int1K rfl T.n_int boot_int' (pa_cons (pe_op op_pow (pe_op op_add (pe_op op_add (pe_op op_modN (pe_callTy int1K rfl T.n_int boot_int' (pa_cons (pv 4) pa_nil)) pe_int) (pe_op op_mul pe_int (pv 3))) pe_int) pe_int) pa_nil)) pe_int))
      (pss_one (ps_ret (pe_op op_modN (pe_callTy int1K rfl T.n_int boot_int' (pa_cons (pe_op op_fdivN (pe_op op_modN (pe_callTy int1K rfl T.n_int boot_int' (pa_cons (pe_op op_pow (pe_op op_add (pv 5) (pe_op op_mul pe_int (pv 3))) pe_int) pa_nil)) pe_int) pe_int) pa_nil)) (pv 1)))))))))), ?_⟩
    refine q_while (fun m σ' W' => ∃ (large : List Int) (left : Int), σ' = [some (.ref d), some (.int (sz : Int)), none, none, none, none] ∧ Gs d L W W' ∧ StF d L Cc large cells left turn W' ∧ m = large.length) large.length ⟨large, left, rfl, Gs.of (Gr.refl _), st, rfl⟩ ?_
    clear st
    rintro m σ' W1 ⟨large, left, rfl, g1, st, rfl⟩
    refine ⟨decide (left = 0) && !decide (large = []), eb_and (eb_test (ev_eqV (x := .int left) (y := .int 0) (ev_stget rfl st.hd st_left) ev_c rfl (decide_eq_decide.mpr ⟨fun h => V.int.inj h, fun h => by rw [h]⟩))) (fun _ => hid_neE (α := Int) (S := fun i => oI i) (ev_stget rfl st.hd st_large) st.hL Al.ofvals isX_int), fun hb W2 D' e2 kn => ?_, fun hb W2 e2 => ?_⟩
    · rw [Bool.and_eq_true] at hb
      have st := st.up e2
      cases large with
      | nil => exact absurd hb.2 (by simp)
      | cons y large =>
        show tBM K "list" rPopAt _ _ _ W2.h _
        refine dget_run rfl st.hd st_large ⟨.inl ⟨rfl, _, SqL.of st.hL⟩, L, _, 0, 0, .int y, rfl, rfl, st.hL, by decide, by decide, by simp [seqIndex?], rfl, ?_⟩
        have st3d : (W2.own L (.lst (large.map V.int)) st.gL).h d = some (.dK (stK L Cc left turn)) := by
          show upd W2.h L _ d = _
          rw [upd_ne st.ne]
          exact st.hd
        refine ⟨.ref d, rfl, d, _, rfl, DPut.k (k := sk "left") st3d (by show 4 < _; exact small_lt (by decide)), ?_⟩
        rw [put_left]
        refine kn large.length _ ((W2.own L (.lst (large.map V.int)) st.gL).own d (.dK (stK L Cc y turn)) st.gd) (Nat.lt_succ_self _) ⟨large, y, rfl, ((g1.trans (Gs.of e2)).trans (gs_own (.inr rfl) st.gL)).trans (gs_own (.inl rfl) _), ⟨upd_same, ?_, st.hC, fun x hx => st.pL x (List.mem_cons_of_mem _ hx), st.pC, st.pL y List.mem_cons_self, st.p2, st.gd, st.gL, st.ne⟩, rfl⟩
        show upd (upd W2.h L _) d _ L = _
        rw [upd_ne st.ne.symm, upd_same]
    · have st := st.up e2
      have g2 := g1.trans (Gs.of e2)
      clear hb
      refine q_when (b := decide (0 < left)) (eb_test (ev_i0 (ev_stget rfl st.hd st_left) ev_c)) (fun hb W3 e3 => ?_) fun hb W3 e3 => ?_
      · have hb := of_decide_eq_true hb
        have st := st.up e3
        have g3 := g2.trans (Gs.of e3)
        refine q_set (ev_iC (i := left) (j := (sz : Int)) (ev_int1 (ev_stget rfl st.hd st_left)) (ev_var rfl rfl) (by omega)) fun v W4 e4 r4 => ?_
        have st := st.up e4
        refine q_dput rfl (ev_iC (i := left) (j := (sz : Int)) (ev_stget rfl st.hd st_left) (ev_var rfl rfl) ⟨by omega, by omega⟩) st.hd st.gd (by show 4 ≤ 1000; decide) fun v5 W5 e5 g5 r5 => ?_
        have st := st.up e5
        have r5 : v5 = .int (left.fdiv (sz : Int)) := r5
        subst r5
        have r4 : v = .int (left.fmod (sz : Int)) := r4
        subst r4
        rw [put_left]
        have hf1 : 0 ≤ left.fmod (sz : Int) := fmod_nn _ (by omega)
        have hf2 : left.fmod (sz : Int) < (sz : Int) := Int.fmod_lt_of_pos _ (by omega)
        have hf3 : 0 ≤ left.fdiv (sz : Int) := by
          rw [Int.fdiv_eq_ediv_of_nonneg _ (by omega)]
          exact Int.ediv_nonneg (by omega) (by omega)
        refine s_ret (ev_var (R := oI (left.fmod (sz : Int))) rfl rfl) fun v W6 e6 r => ?_
        have r : v = .int (left.fmod (sz : Int)) := r
        subst r
        have e : left.fmod (sz : Int) = ((left.fmod (sz : Int)).toNat : Int) := by omega
        rw [e]
        refine k _ W6 ((((g3.trans (Gs.of e4)).trans (Gs.of e5)).trans (gs_own (.inl rfl) g5)).trans (Gs.of e6)) ⟨Cc, large, cells, _, turn, StF.up (W := W5.own d (.dK (stK L Cc (left.fdiv (sz : Int)) turn)) g5) ⟨upd_same, ?_, st.hC, st.pL, st.pC, hf3, st.p2, g5, st.gL, st.ne⟩ e6, by omega⟩ (by omega)
        show upd W5.h d _ L = _
        rw [upd_ne st.ne.symm]
        exact st.hL
      · have st := st.up e3
        have g3 := g2.trans (Gs.of e3)
        refine q_set (ev_i0 (i := turn) (j := 1) (ev_stget rfl st.hd st_turn) ev_c) fun v W4 e4 r4 => ?_
        have r4 : v = .int (turn + 1) := r4
        subst r4
        have st := st.up e4
        refine q_dput rfl (ev_var (R := oI (turn + 1)) rfl rfl) st.hd st.gd (by show 4 ≤ 1000; decide) fun v5 W5 e5 g5 r5 => ?_
        have st := st.up e5
        have r5 : v5 = .int (turn + 1) := r5
        subst r5
        rw [put_turn]
        have g6 := ((g3.trans (Gs.of e4)).trans (Gs.of e5)).trans (gs_own (o := .dK (stK L Cc left (turn + 1))) (.inl rfl) g5)
        have st6 : StF d L Cc large cells left (turn + 1) (W5.own d (.dK (stK L Cc left (turn + 1))) g5) := ⟨upd_same, by
          show upd W5.h d _ L = _
          rw [upd_ne st.ne.symm]
          exact st.hL, st.hC, st.pL, st.pC, st.p1, by have := st.p2; omega, g5, st.gL, st.ne⟩
        have ht1 : turn + 1 ≤ ((n + 1 : Nat) : Int) := by omega
        have htp := st.p2
        clear st
        generalize W5.own d (.dK (stK L Cc left (turn + 1))) g5 = W6 at g6 st6
        have hcl : (oL K (fun i : Int => oI i) cells).is (.ref Cc) W6.g := ⟨Cc, _, rfl, SqL.of st6.hC, Al.ofvals⟩
        have hCh : W6.h Cc = some (.lst (cells.map V.int)) := W6.le _ _ st6.hC
        refine q_set (R := oE (fun c : Int => 0 ≤ c) fun c => oI c) (ev_if (b := !decide (cells = [])) (hid_neE (α := Int) (S := fun i => oI i) (ev_stget rfl st6.hd st_cells) hCh Al.ofvals isX_int) (fun hb => ?_) fun hb => ?_) fun v7 W7 e7 ⟨cell, hc0, r7⟩ => ?_
        · have hne : cells ≠ [] := fun e => by
            rw [e] at hb
            exact absurd hb (by simp)
          have hlen : 0 < cells.length := List.length_pos_iff.mpr hne
          have hm1 : 0 ≤ (turn + 1).fmod (cells.length : Int) := fmod_nn _ (by omega)
          have hm2 : (turn + 1).fmod (cells.length : Int) < (cells.length : Int) := Int.fmod_lt_of_pos _ (by omega)
          have e : (turn + 1).fmod (cells.length : Int) = (((turn + 1).fmod (cells.length : Int)).toNat : Int) := by omega
          have hlt : ((turn + 1).fmod (cells.length : Int)).toNat < cells.length := by omega
          refine ev_imp (ev_ixL (S := fun i : Int => oI i) (xs := cells) (i := (turn + 1).fmod (cells.length : Int)) (x := cells[((turn + 1).fmod (cells.length : Int)).toNat]) (Ev.imp (ev_stget rfl st6.hd st_cells) fun v W' e hv => by rw [show v = .ref Cc from hv]; exact Rl.mv _ e.g hcl) (ev_iC (i := turn + 1) (j := (cells.length : Int)) (ev_int1 (ev_var rfl rfl)) (ev_lenL (K := K) (S := fun i : Int => oI i) (ea_cons (Ev.imp (ev_stget rfl st6.hd st_cells) fun v W' e hv => by rw [show v = .ref Cc from hv]; exact Rl.mv _ e.g hcl) ea_nil)) (by omega)) ?_) fun v H hv => ⟨_, st6.pC _ (List.getElem_mem hlt), hv⟩
          · have := atN (List.getElem?_eq_getElem hlt)
            rw [← e] at this
            exact this
        · exact ev_imp (ev_c (v := .int 0)) fun v H hv => ⟨0, by decide, hv⟩
        · have r7 : v7 = .int cell := r7
          subst r7
          have ha1 : 0 ≤ cell.fmod 2147483563 := fmod_nn _ (by decide)
          have ha2 : cell.fmod 2147483563 < 2147483563 := Int.fmod_lt_of_pos _ (by decide)
          refine q_set (ev_iC (i := (cell.fmod 2147483563 + 40692 * (turn + 1) + 24681) ^ (3 : Int).toNat) (j := 2147483629) (ev_int1 (ev_iC (i := cell.fmod 2147483563 + 40692 * (turn + 1) + 24681) (j := 3) (ev_i0 (ev_i0 (ev_iC (i := cell) (j := 2147483563) (ev_int1 (ev_var rfl rfl)) ev_c (by decide)) (ev_iC (i := 40692) (j := turn + 1) ev_c (ev_var rfl rfl) (Or.inl (by omega)))) ev_c) ev_c ⟨by decide, by decide, by omega⟩)) ev_c (by decide)) fun v8 W8 e8 r8 => ?_
          generalize (cell.fmod 2147483563 + 40692 * (turn + 1) + 24681) ^ (3 : Int).toNat = z at r8
          have r8 : v8 = .int (z.fmod 2147483629) := r8
          subst r8
          have hb1 : 0 ≤ z.fmod 2147483629 := fmod_nn _ (by decide)
          have hb2 : z.fmod 2147483629 < 2147483629 := Int.fmod_lt_of_pos _ (by decide)
          refine s_ret (ev_iC (i := (((z.fmod 2147483629 + 104917 * (turn + 1)) ^ (5 : Int).toNat).fmod 2147483579).fdiv 29) (j := (sz : Int)) (ev_int1 (ev_iC (j := 29) (ev_iC (j := 2147483579) (ev_int1 (ev_iC (i := z.fmod 2147483629 + 104917 * (turn + 1)) (j := 5) (ev_i0 (ev_var rfl rfl) (ev_iC (i := 104917) (j := turn + 1) ev_c (ev_var rfl rfl) (Or.inl (by omega)))) ev_c ⟨by decide, by decide, by omega⟩)) ev_c (by decide)) ev_c ⟨by decide, by decide⟩)) (ev_var rfl rfl) (by omega)) fun v9 W9 e9 r9 => ?_
          generalize (((z.fmod 2147483629 + 104917 * (turn + 1)) ^ (5 : Int).toNat).fmod 2147483579).fdiv 29 = y at r9
          have r9 : v9 = .int (y.fmod (sz : Int)) := r9
          subst r9
          have hf1 : 0 ≤ y.fmod (sz : Int) := fmod_nn _ (by omega)
          have hf2 : y.fmod (sz : Int) < (sz : Int) := Int.fmod_lt_of_pos _ (by omega)
          have e : y.fmod (sz : Int) = ((y.fmod (sz : Int)).toNat : Int) := by omega
          rw [e]
          exact k _ W9 (((g6.trans (Gs.of e7)).trans (Gs.of e8)).trans (Gs.of e9)) ⟨Cc, large, cells, left, turn + 1, ((st6.up e7).up e8).up e9, ht1⟩ (by omega)
end Bx

set_option Elab.async false
set_option linter.all false
set_option maxRecDepth 100000
set_option maxHeartbeats 4000000
set_option autoImplicit false
namespace Bx
open PySem L2 StX RZ
theorem Fl.st {d L p Cc : Addr} {W0 W : Hw} {acc : List V} {large cells : List Int} {left turn : Int} (st : StF d L Cc large cells left turn W0) (f : Fl W0 W p acc) : StF d L Cc large cells left turn W ∧ p ≠ d ∧ p ≠ L :=
  ⟨st.up f.gr, (fun e => by have := f.new; rw [e, st.hd] at this; cases this), (fun e => by have := f.new; rw [e, st.hL] at this; cases this)⟩
theorem evn_lcF {α : Type} {σ : Sl} {W : Hw} {S : α → Rl} {xs : List α} {te : TE} {wi : TI} {tt : TT} {vs : List Nat} {j : Nat} (p : α → Bool) (T : α → Rl) (hsrc : Src wi σ W xs S) (hz : xs.length ≤ 1000000) (hw : ∀ v, wipe ((wipe σ vs).set j (some v)) vs = wipe σ vs)
    (turn : ∀ x ∈ xs, ∀ W1 v, Gr W W1 → (S x).is v W1.g → Eb tt ((wipe σ vs).set j (some v)) W1 (p x) ∧ (p x = true → Ev te ((wipe σ vs).set j (some v)) W1 (T x))) :
    Evn (tLc wi (gName j) tt te vs) σ W T (xs.filter p) := fun W0 e0 Q q => hsrc W0 e0 _ fun J W1 e1 w D hD => by
  refine ⟨fun i m H' => i + m = xs.length ∧ ∃ (W' : Hw) (acc : List V), W'.h = H' ∧ Fl W1 W' D acc ∧ Al T ((xs.take i).filter p) acc W'.g, ⟨xs.length, by simp, W1.own D (.lst []) (Hw.free hD), [], rfl, ⟨gr_own hD, hD, upd_same, Hw.free (W := W1) hD⟩, by simp [Al]⟩, ?_⟩
  rintro i m _ ⟨him, W2, acc, rfl, f, hal⟩
  have e2 : Gr W W2 := (e0.trans e1).trans f.gr
  have s2 : Same W1.g W2.h := f.gr.g.trans W2.le
  by_cases hi : i < xs.length
  · refine .inr ⟨w.go i _ s2 hi, fun H'' => i + 1 + (m - 1) = xs.length ∧ ∃ (W' : Hw) (acc : List V), W'.h = H'' ∧ Fl W1 W' D acc ∧ Al T ((xs.take (i + 1)).filter p) acc W'.g, fun H'' h => ⟨m - 1, by omega, h⟩, fun v H'' y => ?_⟩
    have hx : xs[i]? = some xs[i] := List.getElem?_eq_getElem hi
    obtain ⟨W3, e3, rfl, rv⟩ := w.yld i _ W2 v H'' f.gr.g hx y
    obtain ⟨ht, hv⟩ := turn _ (List.getElem_mem hi) W3 v (e2.trans e3) rv
    refine ⟨hw v, ht W3 (Gr.refl _) _ fun W4 e4 => ?_⟩
    have f4 := (f.up e3).up e4
    have hal4 := hal.up (e3.trans e4).g
    cases hp : p xs[i] with
    | false =>
      refine iteF ⟨by omega, W4, acc, rfl, f4, ?_⟩
      rw [take_no hx hp]
      exact hal4
    | true =>
      refine iteT (hv hp W4 e4 _ fun y W5 e5 ry => ?_)
      have f5 := f4.up e5
      refine ⟨acc, f5.at_, ?_, by omega, W5.own D (.lst (acc ++ [y])) f5.hid, acc ++ [y], rfl, f5.put y, ?_⟩
      · have l1 := hal.len
        have l2 := List.length_filter_le p (xs.take i)
        rw [List.length_take] at l2
        exact small_lt (by omega)
      · rw [take_yes hx hp]
        exact (hal4.up e5.g).snoc ry
  · have hi' : i = xs.length := by omega
    subst hi'
    refine .inl ⟨w.stop _ s2, ?_⟩
    rw [List.take_length] at hal
    exact q D W2 acc (f.back e1) hal
def absI (i : Int) : Int := if i < 0 then -i else i
theorem absI_nn (i : Int) : 0 ≤ absI i := by
  unfold absI
  split <;> omega
theorem ev_abs {σ : Sl} {W : Hw} {ta : TE} {i : Int} (h : Ev ta σ W (oI i)) : Ev (tCB rAbs (tCons ta tNil)) σ W (oI (absI i)) := ev_cb (ea_cons h ea_nil) fun vs W' _ r => by
  obtain ⟨x, rfl, rfl⟩ := one_arg r
  exact gv_one rfl fun Q q => ⟨i, rfl, q⟩
/-! calls that draw -/
theorem run_draw {K : PySem.W.Frag} {C : Addr} {σ : Sl} {W : Hw} {ta : TA} {E : XK} {Q : VK} {d L : Addr} {n sz : Nat} (he : Ea ta σ W [oV (.ref d), oK sz]) (hst : StW d L n W) (hn : n ≤ 100000) (h1 : 1 ≤ sz) (h2 : sz ≤ 100000)
    (k : ∀ (r : Nat) W', Gs d L W W' → StW d L (n + 1) W' → r < sz → Q (.int (r : Int)) W'.h) : tCall (sp_law_draw K C) [] E ta σ W.h Q := he W (Gr.refl _) _ fun vs W2 e2 r => by
  obtain ⟨x, y, rfl, rfl, rfl⟩ := two_args r
  exact ⟨W2, d, L, n, sz, rfl, rfl, hst.up e2, hn, h1, h2, fun r W' g s hr => k r W' ((Gs.of e2).trans g) s hr⟩
theorem gs_mut {d L p : Addr} {W W1 : Hw} {o : HO} (g : Gs d L W W1) (h : W.h p = none) (n : W1.g p = none) : Gs d L W (W1.own p o n) := ⟨g.g, fun b u h1 h2 hb => by
  show upd W1.h p o b = some u
  rw [upd_ne (fun z => by rw [z, h] at hb; cases hb)]
  exact g.h b u h1 h2 hb, fun b h1 h2 h3 h4 => g.hid b h1 h2 h3 h4⟩
theorem al_erase {α : Type} {R : α → Rl} {H : Hp} : ∀ {xs : List α} {vs : List V} (i : Nat), Al R xs vs H → Al R (xs.eraseIdx i) (vs.eraseIdx i) H
  | [], [], _, h => h
  | _ :: _, _ :: _, 0, h => h.2
  | _ :: _, _ :: _, i + 1, h => ⟨h.1, al_erase i h.2⟩
theorem erase_perm {α : Type} : ∀ {xs : List α} {i : Nat} {x : α}, xs[i]? = some x → (xs.eraseIdx i ++ [x]).Perm xs
  | [], i, x, h => by simp at h
  | y :: xs, 0, x, h => by
    simp at h
    subst h
    exact List.perm_append_comm
  | y :: xs, i + 1, x, h => by
    rw [List.getElem?_cons_succ] at h
    exact (erase_perm h).cons y
theorem StW.own {d L p : Addr} {n : Nat} {W : Hw} {o : HO} (h : StW d L n W) (h1 : p ≠ d) (h2 : p ≠ L) (g : W.g p = none) : StW d L n (W.own p o g) := by
  obtain ⟨Cc, large, cells, left, turn, st, ht⟩ := h
  exact ⟨Cc, large, cells, left, turn, ⟨by show upd W.h p o d = _; rw [upd_ne h1.symm]; exact st.hd, by show upd W.h p o L = _; rw [upd_ne h2.symm]; exact st.hL, st.hC, st.pL, st.pC, st.p1, st.p2, st.gd, st.gL, st.ne⟩, ht⟩
theorem StW.fix {d L p : Addr} {n : Nat} {W : Hw} {o : HO} (h : StW d L n W) (h1 : p ≠ d) (h2 : p ≠ L) (hg : W.g p = none) (e : W.h p = some o) : StW d L n (W.fix p o e) := by
  obtain ⟨Cc, large, cells, left, turn, st, ht⟩ := h
  exact ⟨Cc, large, cells, left, turn, ⟨st.hd, st.hL, same_new hg _ _ st.hC, st.pL, st.pC, st.p1, st.p2, by show upd W.g p o d = _; rw [upd_ne h1.symm]; exact st.gd, by show upd W.g p o L = _; rw [upd_ne h2.symm]; exact st.gL, st.ne⟩, ht⟩
theorem gs_fix {d L p : Addr} {W W1 : Hw} {o : HO} (g : Gs d L W W1) (h : W.h p = none) (hg : W1.g p = none) (e : W1.h p = some o) : Gs d L W (W1.fix p o e) := ⟨g.g.trans (same_new hg), g.h, fun b h1 h2 ⟨u, h3, h4⟩ h5 => by
  show upd W1.g p o b = none
  rw [upd_ne (fun z => by rw [z, h] at h3; cases h3)]
  exact g.hid b h1 h2 ⟨u, h3, h4⟩ h5⟩
theorem StW.not {d L p : Addr} {n : Nat} {W : Hw} (h : StW d L n W) (hp : W.h p = none) : p ≠ d ∧ p ≠ L := by
  obtain ⟨Cc, large, cells, left, turn, st, ht⟩ := h
  exact ⟨(fun e => by rw [e, st.hd] at hp; cases hp), (fun e => by rw [e, st.hL] at hp; cases hp)⟩
/-- a hidden list seen from nowhere -/
def Hw.nil : Hw := ⟨fun _ => none, fun _ => none, Same.refl _⟩
theorem fl_nil {W : Hw} {p : Addr} {acc : List V} (h : W.h p = some (.lst acc)) (g : W.g p = none) : Fl Hw.nil W p acc := ⟨⟨fun b o h => (nomatch h), fun b o h => (nomatch h), fun b h => by
  obtain ⟨o, h, _⟩ := h
  cases h⟩, rfl, h, g⟩
abbrev s_law_begun : Stmt := top 64
abbrev N_law_begun : List Str := ["_law_script", "_law_cells_here", "_law_cell", "_law_large"]
theorem sc_law_begun : FnScope N_law_begun ["_law_script"] (defScope s_law_begun) := ⟨rfl, rfl, rfl, by decide +kernel, rfl, by decide +kernel, by decide +kernel⟩

def sp_law_begun (K : PySem.W.Frag) (C : Addr) : Sp := fun vs H Q _ => ∃ (W : Hw) (v0 : V) (ns : List Int), vs = [v0] ∧ H = W.h ∧ (oL K (fun i : Int => oI i) ns).is v0 W.g ∧ ns.length ≤ 63 ∧ ∀ d L W', Gr W W' → StW d L 0 W' → Q (.ref d) W'.h
theorem ok_law_begun {P : Program} {w : World} {K : PySem.W.Frag} {mg : Str → Option Value} {base : Heap} {C : Addr} (T : Tx K mg C) (Dd : Df K mg "_law_begun" "_law_begun" s_law_begun ["_law_script"])  :
    Ca P w K mg base 1 "_law_begun" ["_law_script"] (sp_law_begun K C) := by
  obtain ⟨f, fd, F, hm, hb⟩ := Dd
  refine ⟨f, fd, F.ok sc_law_begun (fun vs H Q E h => ?_) (fun cdv A outer s H vs Q E hr h => ?_), hm, F.kp, hb⟩
  · obtain ⟨W, v0, ns, rfl, _⟩ := h
    rfl
  · obtain ⟨W, v0, ns, rfl, rfl, h0, hz, k⟩ := h
    have hu := hu_any hr
    have nd := sc_law_begun.nd
    refine ⟨_, (pss_cons (ps_setLc (i := 1) (own := [("_law_cell", 2)]) rfl nd rfl rfl (sw_true rfl rfl rfl (by decide +kernel)) (pi_listK (K := K) rfl (pv 0)) (blkOk_by (N := N_law_begun) (sc := defScope s_law_begun) (by decide +kernel)) (fun _ _ _ _ _ => (pg_name (i := 2) nd rfl (Or.inl rfl))) (fun _ _ _ _ _ => pts_nil) (fun _ _ _ _ _ => (pe_callB absK rfl T.n_abs boot_abs' (pa_cons (pv 2) pa_nil))))
      (pss_cons (ps_setLc (i := 3) (own := [("_law_cell", 2)]) rfl nd rfl rfl (sw_true rfl rfl rfl (by decide +kernel)) (pi_listK (K := K) rfl (pv 1)) (blkOk_by (N := N_law_begun) (sc := defScope s_law_begun) (by decide +kernel)) (fun _ _ _ _ _ => (pg_name (i := 2) nd rfl (Or.inl rfl))) (fun _ _ _ _ _ => (pts_one (pt_cmpR op_ge (pv 2) (pe_op op_pow pe_int pe_int) (nomark _)))) (fun _ _ _ _ _ => (pe_op op_sub (pv 2) (pe_op op_pow pe_int pe_int))))
      (pss_one (ps_ret (pe_disp (pps_cons pe_str (pv 3) (pps_cons pe_str (pv 1) (pps_cons pe_str pe_int (pps_cons pe_str pe_int pps_nil)))) rfl rfl (by decide) (by decide)))))), ?_⟩
    refine q_set (ev_imp (ev_lcA (xs := ns) (fun i => oI (absI i)) (src_list (ev_var rfl h0)) (by omega) (fun _ => rfl) fun i hi W1 v e r => ev_abs (ev_var rfl r)) fun v H h => (oM_map (R := fun i : Int => oI i) absI).mpr h) fun v1 W1 e1 r1 => ?_
    refine q_setn (evn_lcF (xs := ns.map absI) (S := fun i : Int => oI i) (fun i => decide ((10 : Int) ^ (18 : Int).toNat ≤ i)) (fun i => oI (i - (10 : Int) ^ (18 : Int).toNat)) (src_list (ev_var rfl (oM_L r1))) (by rw [List.length_map]; omega) (fun _ => rfl) fun i hi W2 v e r => ⟨eb_test (ev_i0 (ev_var rfl r) (ev_iC (i := 10) (j := 18) ev_c ev_c ⟨by decide, by decide, by decide⟩)), fun _ => ev_i0 (ev_var rfl r) (ev_iC (i := 10) (j := 18) ev_c ev_c ⟨by decide, by decide, by decide⟩)⟩) fun L W2 acc f2 r2 => ?_
    have r1 := Rl.mv _ f2.gr.g r1
    obtain ⟨Cc, us, rfl, hC, hal⟩ := r1
    have eu := Al.vals (f := V.int) hal
    subst eu
    have ea := Al.vals (f := fun i : Int => V.int (i - (10 : Int) ^ (18 : Int).toNat)) r2
    have ea' : acc = (((ns.map absI).filter fun i => decide ((10 : Int) ^ (18 : Int).toNat ≤ i)).map fun i => i - (10 : Int) ^ (18 : Int).toNat).map V.int := by
      rw [ea, List.map_map]
      rfl
    clear ea
    intro d hd
    refine ⟨.ref L, rfl, .ref Cc, rfl, upd_same, stK L Cc 0 0, rfl, by show 4 ≤ 15; decide, ?_⟩
    rw [st_merge, upd_twice]
    refine k d L (W2.own d (.dK (stK L Cc 0 0)) (Hw.free hd)) ((e1.trans f2.gr).trans (gr_own hd)) ⟨Cc, ((ns.map absI).filter fun i => decide ((10 : Int) ^ (18 : Int).toNat ≤ i)).map fun i => i - (10 : Int) ^ (18 : Int).toNat, ns.map absI, 0, 0, ⟨upd_same, ?_, hC, fun x hx => ?_, fun x hx => ?_, by decide, by decide, Hw.free (W := W2) hd, f2.hid, fun e => ?_⟩, by decide⟩
    · show upd W2.h d _ L = _
      rw [upd_ne (fun z => by have := f2.at_; rw [z, hd] at this; cases this), ← ea']
      exact f2.at_
    · obtain ⟨i, hi, rfl⟩ := List.mem_map.mp hx
      have := of_decide_eq_true (List.mem_filter.mp hi).2
      omega
    · obtain ⟨i, _, rfl⟩ := List.mem_map.mp hx
      exact absI_nn i
    · have := f2.at_
      rw [← e, hd] at this
      cases this
abbrev s_law_pick : Stmt := top 66
abbrev N_law_pick : List Str := ["_law_state", "_law_several"]
theorem sc_law_pick : FnScope N_law_pick ["_law_state", "_law_several"] (defScope s_law_pick) := ⟨rfl, rfl, rfl, by decide +kernel, rfl, by decide +kernel, by decide +kernel⟩

def sp_law_pick (K : PySem.W.Frag) (C : Addr) : Sp := fun vs H Q _ => ∃ (W : Hw) (d L : Addr) (n : Nat) (α : Type) (S : α → Rl) (xs : List α) (v1 : V), vs = [.ref d, v1] ∧ H = W.h ∧ StW d L n W ∧ n ≤ 100000 ∧ (oL K S xs).is v1 W.g ∧ 1 ≤ xs.length ∧ xs.length ≤ 100000 ∧
  ∀ x v W', x ∈ xs → Gs d L W W' → StW d L (n + 1) W' → (S x).is v W'.g → Q v W'.h
theorem ok_law_pick {P : Program} {w : World} {K : PySem.W.Frag} {mg : Str → Option Value} {base : Heap} {C : Addr} (T : Tx K mg C) (Dd : Df K mg "_law_pick" "_law_pick" s_law_pick ["_law_state", "_law_several"]) (h_law_draw : Ca P w K mg base 1 "_law_draw" ["_law_state", "_law_size_here"] (sp_law_draw K C)) :
    Ca P w K mg base 2 "_law_pick" ["_law_state", "_law_several"] (sp_law_pick K C) := by
  obtain ⟨f, fd, F, hm, hb⟩ := Dd
  refine ⟨f, fd, F.ok sc_law_pick (fun vs H Q E h => ?_) (fun cdv A outer s H vs Q E hr h => ?_), hm, F.kp, hb⟩
  · obtain ⟨W, d, L, n, α, S, xs, v1, rfl, _⟩ := h
    rfl
  · obtain ⟨W, d, L, n, α, S, xs, v1, rfl, rfl, hst, hn, hv1, h1, h2, k⟩ := h
    have hu := hu_any hr
    have nd := sc_law_pick.nd
    refine ⟨_, (pss_one (ps_ret (pe_ix (ixL (K := K) rfl) (pv 1) (pe_ca h_law_draw hr rfl (pa_cons (pv 0) (pa_cons (pe_callB (lenK (K := K) rfl) rfl T.n_len boot_len' (pa_cons (pv 1) pa_nil)) pa_nil))) (fun _ _ => rfl)))), ?_⟩
    refine ⟨v1, rfl, run_draw (sz := xs.length) (ea_cons (ev_var rfl rfl) (ea_cons (ev_lenL (ea_cons (ev_var rfl hv1) ea_nil)) ea_nil)) hst hn h1 h2 fun r W' g s hr => ?_⟩
    have hx : xs[r]? = some xs[r] := List.getElem?_eq_getElem hr
    obtain ⟨a, us, hv, hs, hal⟩ := Rl.mv _ g.g hv1
    obtain ⟨u, hu', ru⟩ := hal.get r hx
    exact ⟨a, us, r, u, hv, rfl, W'.le.seq hs, atI_nat hu', k _ u W' (List.getElem_mem hr) g s ru⟩
abbrev s_law_mixed : Stmt := top 67
abbrev N_law_mixed : List Str := ["_law_state", "_law_several", "_law_left", "_law_found"]
theorem sc_law_mixed : FnScope N_law_mixed ["_law_state", "_law_several"] (defScope s_law_mixed) := ⟨rfl, rfl, rfl, by decide +kernel, rfl, by decide +kernel, by decide +kernel⟩

def sp_law_mixed (K : PySem.W.Frag) (C : Addr) : Sp := fun vs H Q _ => ∃ (W : Hw) (d L : Addr) (n : Nat) (α : Type) (i1 : DecidableEq α) (i2 : Dt α) (S : α → Rl) (xs : List α) (v1 : V), vs = [.ref d, v1] ∧ H = W.h ∧ StW d L n W ∧ n + xs.length ≤ 100000 ∧ (oL K S xs).is v1 W.g ∧ isX K S ∧ Dt.dep α ≤ 50 ∧
  ∀ ys v W', ys.Perm xs → Gs d L W W' → StW d L (n + xs.length) W' → (oM S ys).is v W'.g → Q v W'.h
theorem ok_law_mixed {P : Program} {w : World} {K : PySem.W.Frag} {mg : Str → Option Value} {base : Heap} {C : Addr} (T : Tx K mg C) (Dd : Df K mg "_law_mixed" "_law_mixed" s_law_mixed ["_law_state", "_law_several"]) (h_law_draw : Ca P w K mg base 1 "_law_draw" ["_law_state", "_law_size_here"] (sp_law_draw K C)) :
    Ca P w K mg base 2 "_law_mixed" ["_law_state", "_law_several"] (sp_law_mixed K C) := by
  obtain ⟨f, fd, F, hm, hb⟩ := Dd
  refine ⟨f, fd, F.ok sc_law_mixed (fun vs H Q E h => ?_) (fun cdv A outer s H vs Q E hr h => ?_), hm, F.kp, hb⟩
  · obtain ⟨W, d, L, n, α, i1, i2, S, xs, v1, rfl, _⟩ := h
    rfl
  · obtain ⟨W, d, L, n, α, i1, i2, S, xs, v1, rfl, rfl, hst, hn, hv1, hX, hdep, k⟩ := h
    have hu := hu_any hr
    have nd := sc_law_mixed.nd
    refine ⟨_, (pss_cons (ps_par (i := 2) (j := 3) rfl nd rfl rfl (by decide) rfl rfl (pa_cons (pe_callTy (listK (K := K) rfl) rfl T.n_list boot_list' (pa_cons (pv 1) pa_nil)) (pa_cons (pe_lst pa_nil) pa_nil)) (by rfl))
      (pss_cons (ps_while PassesOwn.never (pt_cmpR (neDK (K := K) rfl (hu 64 (by decide))) (pv 2) (pe_lst pa_nil) (nomark _)) (pss_one (ps_expr (pe_bmK (K := K) rfl PySem.F.plainAttrs_list PySem.F.slot_list_append PySem.F.type_list_append mt_append (pv 3) (pa_cons (pe_bmK (K := K) rfl PySem.F.plainAttrs_list PySem.F.slot_list_pop PySem.F.type_list_pop mt_popAt (pv 2) (pa_cons (pe_ca h_law_draw hr rfl (pa_cons (pv 0) (pa_cons (pe_callB (lenK (K := K) rfl) rfl T.n_len boot_len' (pa_cons (pv 2) pa_nil)) pa_nil))) pa_nil)) pa_nil)))))
      (pss_one (ps_ret (pv 3))))), ?_⟩
    refine q_parnn (S := S) (xs := xs) (T := S) (ys := []) (evn_list (ea_cons (ev_var rfl hv1) ea_nil)) evn_nil fun p q W1 acc acc' f1 f2 hpq r1 r2 => ?_
    obtain ⟨p1, p2⟩ := hst.not f1.new
    obtain ⟨q1, q2⟩ := hst.not f2.new
    have hacc : acc' = [] := List.eq_nil_of_length_eq_zero r2.len
    subst hacc
    refine q_while (fun m σ' W' => ∃ (xl xf : List α) (al af : List V), σ' = [some (.ref d), some v1, some (.ref p), some (.ref q)] ∧ Gs d L W W' ∧ StW d L (n + xf.length) W' ∧ W'.h p = some (.lst al) ∧ W'.g p = none ∧ W'.h q = some (.lst af) ∧ W'.g q = none ∧ Al S xl al W'.g ∧ Al S xf af W'.g ∧ (xl ++ xf).Perm xs ∧ m = xl.length)
      xs.length ⟨xs, [], acc, [], rfl, Gs.of f1.gr, hst.up f1.gr, f1.at_, f1.hid, f2.at_, f2.hid, r1, trivial, by rw [List.append_nil], rfl⟩ ?_
    rintro m σ' W1 ⟨xl, xf, al, af, rfl, g1, hst1, hp, gp, hq, gq, rl, rf, hperm, rfl⟩
    have hlen := hperm.length_eq
    rw [List.length_append] at hlen
    refine ⟨!decide (xl = []), hid_ne rfl (fl_nil hp gp) rl hX hdep, fun hb W2 D' e2 kn => ?_, fun hb W2 e2 => ?_⟩
    · have hne : xl ≠ [] := fun e => by
        rw [e] at hb
        exact absurd hb (by simp)
      have hpos : 0 < xl.length := List.length_pos_iff.mpr hne
      have fp := (fl_nil hp gp).up e2
      have fq := (fl_nil hq gq).up e2
      refine ⟨.ref q, rfl, .inl ⟨rfl, _, SqL.of fq.at_⟩, .ref p, rfl, .inl ⟨rfl, _, SqL.of fp.at_⟩, run_draw (sz := xl.length) (ea_cons (ev_var rfl rfl) (ea_cons (ev_imp (hid_len rfl fp) fun v H hv => by rw [rl.len] at hv; exact hv) ea_nil)) (hst1.up e2) (by omega) (by omega) (by omega) fun r W3 g3 s3 hr3 => ?_⟩
      have hx : xl[r]? = some xl[r] := List.getElem?_eq_getElem hr3
      have rl3 := (rl.up e2.g).up g3.g
      have rf3 := (rf.up e2.g).up g3.g
      obtain ⟨u, hu', ru⟩ := rl3.get r hx
      have hp3 := g3.h _ _ p1 p2 fp.at_
      have hq3 := g3.h _ _ q1 q2 fq.at_
      have gp3 := g3.hid p p1 p2 ⟨_, fp.at_, fun _ z => nomatch z⟩ fp.hid
      have gq3 := g3.hid q q1 q2 ⟨_, fq.at_, fun _ z => nomatch z⟩ fq.hid
      have hal := rl3.len
      refine ⟨p, al, r, r, u, rfl, rfl, hp3, by omega, by omega, ?_, hu', ?_⟩
      · unfold seqIndex?
        simp only [show ¬ ((r : Int) < 0) by omega, if_false]
        rw [if_pos]
        · rfl
        · simp only [Bool.and_eq_true, decide_eq_true_eq]
          omega
      · refine ⟨q, af, u, rfl, rfl, ?_, ?_, ?_⟩
        · rw [upd_ne hpq.symm]
          exact hq3
        · have := rf3.len
          exact small_lt (by omega)
        · refine kn (xl.eraseIdx r).length _ ((W3.own p (.lst (al.eraseIdx r)) gp3).own q (.lst (af ++ [u])) gq3) (by rw [List.length_eraseIdx, if_pos hr3]; omega) ⟨xl.eraseIdx r, xf ++ [xl[r]], al.eraseIdx r, af ++ [u], rfl, ?_, ?_, ?_, gp3, upd_same, gq3, al_erase r rl3, rf3.snoc ru, ?_, rfl⟩
          · exact gs_mut (gs_mut ((g1.trans (Gs.of e2)).trans g3) f1.new gp3) f2.new gq3
          · rw [List.length_append, List.length_singleton, ← Nat.add_assoc]
            exact (s3.own p1 p2 gp3).own q1 q2 gq3
          · show upd (upd W3.h p _) q _ p = _
            rw [upd_ne hpq, upd_same]
          · refine List.Perm.trans ?_ hperm
            refine (List.Perm.append_left _ List.perm_append_comm).trans ?_
            rw [← List.append_assoc]
            exact (erase_perm hx).append_right _
    · have hnil : xl = [] := by
        cases hd : decide (xl = []) with
        | true => exact of_decide_eq_true hd
        | false => rw [hd] at hb; cases hb
      subst hnil
      have fq := (fl_nil hq gq).up e2
      have g2 := g1.trans (Gs.of e2)
      have hst2 := hst1.up e2
      have rf2 := rf.up e2.g
      rw [List.nil_append] at hperm
      show tRet _ _ _ (W2.fix q (.lst af) fq.at_).h
      refine s_ret (ev_var (R := oM S xf) rfl (fq.got rf2)) fun v W3 e3 r => k xf v W3 hperm ((gs_fix g2 f2.new fq.hid fq.at_).trans (Gs.of e3)) ?_ r
      rw [← hperm.length_eq]
      exact (hst2.fix q1 q2 fq.hid fq.at_).up e3
end Bx

set_option Elab.async false
set_option linter.all false
set_option maxRecDepth 100000
set_option maxHeartbeats 4000000
set_option autoImplicit false
namespace Bx
open PySem L2 StX RZ
theorem cut_take (xs : List V) (k : Nat) : cutV xs none (some (k : Int)) = xs.take k := by
  unfold cutV
  have h1 : HT.sIx xs.length 0 none = 0 := rfl
  have h2 : HT.sIx xs.length xs.length (some (k : Int)) = min k xs.length := HT.sIx_nat _ _ _
  rw [h1, h2, List.drop_zero, Nat.sub_zero]
  by_cases h : k ≤ xs.length
  · rw [Nat.min_eq_left h]
  · rw [Nat.min_eq_right (by omega), List.take_of_length_le (Nat.le_refl _), List.take_of_length_le (by omega)]
theorem al_take {α : Type} {R : α → Rl} {H : Hp} : ∀ {xs : List α} {vs : List V} (i : Nat), Al R xs vs H → Al R (xs.take i) (vs.take i) H
  | [], [], i, _ => by
    rw [List.take_nil, List.take_nil]
    trivial
  | _ :: _, _ :: _, 0, _ => trivial
  | _ :: _, _ :: _, i + 1, h => ⟨h.1, al_take i h.2⟩
theorem run_mixed {α : Type} [i1 : DecidableEq α] [i2 : Dt α] {K : PySem.W.Frag} {C : Addr} {σ : Sl} {W : Hw} {ta : TA} {E : XK} {Q : VK} {d L : Addr} {n : Nat} {S : α → Rl} {xs : List α} (he : Ea ta σ W [oV (.ref d), oM S xs]) (hst : StW d L n W) (hn : n + xs.length ≤ 100000) (hX : isX K S) (hz : Dt.dep α ≤ 50)
    (k : ∀ (ys : List α) (v : V) (W' : Hw), ys.Perm xs → Gs d L W W' → StW d L (n + xs.length) W' → (oM S ys).is v W'.g → Q v W'.h) : tCall (sp_law_mixed K C) [] E ta σ W.h Q := he W (Gr.refl _) _ fun vs W2 e2 r => by
  obtain ⟨x, y, rfl, rfl, ry⟩ := two_args r
  exact ⟨W2, d, L, n, α, i1, i2, S, xs, y, rfl, rfl, hst.up e2, hn, oM_L ry, hX, hz, fun ys v W' hp g s hv => k ys v W' hp ((Gs.of e2).trans g) s hv⟩
theorem run_pick {α : Type} {K : PySem.W.Frag} {C : Addr} {σ : Sl} {W : Hw} {ta : TA} {E : XK} {Q : VK} {d L : Addr} {n : Nat} {S : α → Rl} {xs : List α} (he : Ea ta σ W [oV (.ref d), oM S xs]) (hst : StW d L n W) (hn : n ≤ 100000) (h1 : 1 ≤ xs.length) (h2 : xs.length ≤ 100000)
    (k : ∀ x v W', x ∈ xs → Gs d L W W' → StW d L (n + 1) W' → (S x).is v W'.g → Q v W'.h) : tCall (sp_law_pick K C) [] E ta σ W.h Q := he W (Gr.refl _) _ fun vs W2 e2 r => by
  obtain ⟨x, y, rfl, rfl, ry⟩ := two_args r
  exact ⟨W2, d, L, n, α, S, xs, y, rfl, rfl, hst.up e2, hn, oM_L ry, h1, h2, fun x v W' hx g s hv => k x v W' hx ((Gs.of e2).trans g) s hv⟩
theorem q_raw {te : TE} {u : TS} {D : Ends} {σ : Sl} {H : Hp} {i : Nat} (h : te σ H fun x H1 => u D (σ.set i (some x)) H1) : tSeq (tAsg te (gName i)) u D σ H := h
theorem q_rawg {te : TE} {g : TG} {u : TS} {D : Ends} {σ : Sl} {H : Hp} (h : te σ H fun x H1 => g x σ H1 (u D)) : tSeq (tAsg te g) u D σ H := h
theorem a_raw {te : TE} {D : Ends} {σ : Sl} {H : Hp} {i : Nat} (h : te σ H fun x H1 => D.nx (σ.set i (some x)) H1) : tAsg te (gName i) D σ H := h
theorem c_raw {r : List V → Hp → VK → Prop} {te : TE} {σ : Sl} {H : Hp} {Q : VK} (h : te σ H fun x H1 => r [x] H1 Q) : tCB r (tCons te tNil) σ H Q := h
theorem isX_K {K : PySem.W.Frag} : isX K (fun n : Nat => oK n) := fun n v H h => nat_X h
/-- mixed(..)[:k] -/
theorem run_cut {α : Type} [i1 : DecidableEq α] [i2 : Dt α] {K : PySem.W.Frag} {C : Addr} {σ : Sl} {W : Hw} {ta : TA} {tk : TE} {E : XK} {Q : VK} {d L : Addr} {n : Nat} (B : Nat) {S : α → Rl} {xs : List α} (he : Ea ta σ W [oV (.ref d), oM S xs]) (hst : StW d L n W) (hn : n + xs.length ≤ 100000) (hX : isX K S) (hz : Dt.dep α ≤ 50)
    (hk : ∀ W1, Gs d L W W1 → StW d L (n + xs.length) W1 → ∀ Q' : VK, (∀ (r : Nat) W2, Gs d L W1 W2 → StW d L (n + xs.length + 1) W2 → r ≤ B → Q' (.int (r : Int)) W2.h) → tk σ W1.h Q')
    (k : ∀ (ys : List α) (r : Nat) (v : V) (W' : Hw), r ≤ B → ys.Perm xs → Gs d L W W' → StW d L (n + xs.length + 1) W' → (oM S (ys.take r)).is v W'.g → Q v W'.h) : tSl (rSlL K) (tCall (sp_law_mixed K C) [] E ta) tNoPart (tPart tk) σ W.h Q := by
  refine run_mixed he hst hn hX hz fun ys v W1 hp g1 s1 hv => hk W1 g1 s1 _ fun r W2 g2 s2 hr => ?_
  obtain ⟨a, us, rfl, h2, h3⟩ := Rl.mv _ g2.g hv
  refine ⟨r, rfl, a, us, rfl, SqL.of (W2.le _ _ h2), fun p hp' => ?_⟩
  rw [cut_take]
  exact k ys r (.ref p) (W2.new p (.lst (us.take r))) hr hp ((g1.trans g2).trans (Gs.of (gr_new hp'))) (s2.up (gr_new hp')) ⟨p, _, rfl, upd_same, (al_take r h3).up (same_new (Hw.free hp'))⟩
abbrev s_law_few : Stmt := top 71
abbrev N_law_few : List Str := ["_law_state", "_law_several", "_law_most", "_law_chosen", "_law_spot", "_law_item"]
theorem sc_law_few : FnScope N_law_few ["_law_state", "_law_several", "_law_most"] (defScope s_law_few) := ⟨rfl, rfl, rfl, by decide +kernel, rfl, by decide +kernel, by decide +kernel⟩

def sp_law_few (K : PySem.W.Frag) (C : Addr) : Sp := fun vs H Q _ => ∃ (W : Hw) (d L : Addr) (n : Nat) (xs : List Sw) (v1 : V) (m : Nat), vs = [.ref d, v1, .int (m : Int)] ∧ H = W.h ∧ StW d L n W ∧ n ≤ 90000 ∧ (oL K (fun s : Sw => oX K s) xs).is v1 W.g ∧ xs.length ≤ 20 ∧ m ≤ 50 ∧
  ∀ ys v W', ys.Sublist xs → Gs d L W W' → StW d L (n + 30) W' → (oM (fun s : Sw => oX K s) ys).is v W'.g → Q v W'.h
theorem ok_law_few {P : Program} {w : World} {K : PySem.W.Frag} {mg : Str → Option Value} {base : Heap} {C : Addr} (T : Tx K mg C) (Dd : Df K mg "_law_few" "_law_few" s_law_few ["_law_state", "_law_several", "_law_most"]) (h_law_mixed : Ca P w K mg base 2 "_law_mixed" ["_law_state", "_law_several"] (sp_law_mixed K C)) (h_law_draw : Ca P w K mg base 1 "_law_draw" ["_law_state", "_law_size_here"] (sp_law_draw K C)) :
    Ca P w K mg base 3 "_law_few" ["_law_state", "_law_several", "_law_most"] (sp_law_few K C) := by
  obtain ⟨f, fd, F, hm, hb⟩ := Dd
  refine ⟨f, fd, F.ok sc_law_few (fun vs H Q E h => ?_) (fun cdv A outer s H vs Q E hr h => ?_), hm, F.kp, hb⟩
  · obtain ⟨W, d, L, n, xs, v1, m, rfl, _⟩ := h
    rfl
  · obtain ⟨W, d, L, n, xs, v1, m, rfl, rfl, hst, hn, hv1, h1, h2, k⟩ := h
    have hu := hu_any hr
    have nd := sc_law_few.nd
    refine ⟨_, (pss_cons (ps_set (i := 3) nd rfl (Or.inr rfl) (pe_slice (slK (K := K) rfl) (pe_ca h_law_mixed hr rfl (pa_cons (pv 0) (pa_cons (pe_listRange rfl rfl T.n_list rfl T.n_range (pe_callB (lenK (K := K) rfl) rfl T.n_len boot_len' (pa_cons (pv 1) pa_nil))) pa_nil))) po_none (po_some (pe_ca h_law_draw hr rfl (pa_cons (pv 0) (pa_cons (pe_op op_add (pv 2) pe_int) pa_nil))))))
      (pss_one (ps_ret (pe_lc (own := [("_law_spot", 4), ("_law_item", 5)]) rfl nd (pi_enumK (K := K) rfl rfl T.n_enumerate (pa_cons (pv 1) pa_nil)) (blkOk_by (N := N_law_few) (sc := defScope s_law_few) (by decide +kernel)) (fun _ _ _ _ _ => (pg_tupK (K := K) (n := 2) rfl rfl (pgs_cons (pg_name (i := 4) nd rfl (Or.inl rfl)) (pgs_cons (pg_name (i := 5) nd rfl (Or.inl rfl)) pgs_nil)))) (fun _ _ _ _ _ => (pts_one (pt_cmpR (inDK (K := K) rfl (hu 65 (by decide))) (pv 4) (pv 3) (by with_unfolding_all rfl)))) (fun _ _ _ _ _ => (pv 5)))))), ?_⟩
    refine q_raw (run_cut 100 (xs := List.range xs.length) (S := fun n : Nat => oK n) (n := n) (ea_cons (ev_var rfl rfl) (ea_cons (ev_lrange (ev_lenL (ea_cons (ev_var rfl hv1) ea_nil)) (by omega)) ea_nil)) hst (by rw [List.length_range]; omega) isX_K (by decide) (fun W1 g1 s1 Q' kq => ?_) fun ys r v W1 _ hp g1 s1 hv => ?_)
    · exact run_draw (sz := m + 1) (ea_cons (ev_var rfl rfl) (ea_cons (ev_i0 (i := (m : Int)) (j := 1) (ev_var rfl rfl) ev_c) ea_nil)) s1 (by rw [List.length_range]; omega) (by omega) (by omega) fun r W2 g2 s2 hr => kq r W2 g2 s2 (by omega)
    · have hv1 := Rl.mv _ g1.g hv1
      refine s_ret (ev_imp (ev_lcP (K := K) (A := fun q : Sw × Nat => oK q.2) (B := fun q : Sw × Nat => oX K q.1) (xs := xs.zipIdx) (fun q => decide (q.2 ∈ ys.take r)) (fun q : Sw × Nat => oX K q.1) (src_enum (ea_cons (ev_var rfl hv1) ea_nil)) (by rw [List.length_zipIdx]; omega) (fun _ _ => rfl) fun q hq W2 u1 u2 e2 r1 r2 => ⟨eb_test (Ev.val (ev_inL (α := Nat) (S := fun n : Nat => oK n) (ev_imp (ev_var rfl r1) fun _ _ h => nat_X h) (ev_var rfl (oM_L (Rl.mv _ e2.g hv))) isX_K) dec_eq), fun _ => ev_var rfl r2⟩) fun v H h => (oM_map (R := fun s : Sw => oX K s) (fun q : Sw × Nat => q.1)).mpr h) fun v2 W2 e2 r2 => k _ v2 W2 ?_ (g1.trans (Gs.of e2)) ((s1.mono (by rw [List.length_range]; omega)).up e2) r2
      have := (List.filter_sublist (p := fun q : Sw × Nat => decide (q.2 ∈ ys.take r)) (l := xs.zipIdx)).map (fun q : Sw × Nat => q.1)
      rw [show xs.zipIdx.map (fun q : Sw × Nat => q.1) = xs from List.zipIdx_map_fst 0 xs] at this
      exact this
/-! ### the scopes -/
def scopes : List Pin := [(2, 2), (3, 2), (3, 2), (3, 3), (4, 2), (2, 3), (4, 1), (5, 1), (3, 1)]
instance (s : Sw) (n t : Nat) : Decidable (okSw s n t) := by
  unfold okSw
  infer_instance
def fashes : List Fash := [.plain, .crossed, .full]
theorem joined_all : scopes.all (fun p => fashes.all fun f => decide (joinedL p.1 p.2 f).Nodup && (joinedL p.1 p.2 f).all fun s => decide (okSw s p.1 p.2)) = true := by decide +kernel
theorem joined_len : scopes.all (fun p => fashes.all fun f => decide ((joinedL p.1 p.2 f).length ≤ 27)) = true := by decide +kernel
theorem joined_ok {p : Pin} (hp : p ∈ scopes) (f : Fash) : (joinedL p.1 p.2 f).Nodup ∧ (∀ s ∈ joinedL p.1 p.2 f, okSw s p.1 p.2) ∧ (joinedL p.1 p.2 f).length ≤ 27 := by
  have h1 := List.all_eq_true.mp (List.all_eq_true.mp joined_all p hp) f (by cases f <;> simp [fashes])
  have h2 := List.all_eq_true.mp (List.all_eq_true.mp joined_len p hp) f (by cases f <;> simp [fashes])
  rw [Bool.and_eq_true] at h1
  exact ⟨of_decide_eq_true h1.1, fun s hs => of_decide_eq_true (List.all_eq_true.mp h1.2 s hs), of_decide_eq_true h2⟩
theorem scopes_num {p : Pin} (hp : p ∈ scopes) : 2 ≤ p.1 ∧ p.1 ≤ 5 ∧ 1 ≤ p.2 ∧ p.2 ≤ 3 := by
  simp only [scopes, List.mem_cons, List.not_mem_nil, or_false] at hp
  rcases hp with rfl | rfl | rfl | rfl | rfl | rfl | rfl | rfl | rfl <;> decide
structure Scope (b : Bo) : Prop where
  ok : BoOk b
  ten : b.sw.length ≤ 10
  sc : (b.n, b.t) ∈ scopes
def modes : List Str := ["plain", "crossed", "crossed", "full", "some", "some"]
theorem mode_fash {s : Str} (h : s ∈ modes) : ∃ (b : Bool) (f : Fash), decide (V.str s = V.str "some") = b ∧ (b = true → f.str = "full") ∧ (b = false → s = f.str) := by
  simp only [modes, List.mem_cons, List.not_mem_nil, or_false] at h
  rcases h with rfl | rfl | rfl | rfl | rfl | rfl
  · exact ⟨false, .plain, by decide +kernel, (fun z => nomatch z), fun _ => rfl⟩
  · exact ⟨false, .crossed, by decide +kernel, (fun z => nomatch z), fun _ => rfl⟩
  · exact ⟨false, .crossed, by decide +kernel, (fun z => nomatch z), fun _ => rfl⟩
  · exact ⟨false, .full, by decide +kernel, (fun z => nomatch z), fun _ => rfl⟩
  · exact ⟨true, .full, by decide +kernel, (fun _ => rfl), (fun z => nomatch z)⟩
  · exact ⟨true, .full, by decide +kernel, (fun _ => rfl), (fun z => nomatch z)⟩
theorem sc_merge (n t : Nat) (j : V) : mergeK [] (scK n t j) = scK n t j := by
  have h1 : putK ([] : List (Key × V)) (sk "sides") (.int (n : Int)) = [(sk "sides", .int (n : Int))] := putK_new _ rfl
  have h2 : putK ([(sk "sides", .int (n : Int))] : List (Key × V)) (sk "many") (.int (t : Int)) = [(sk "sides", .int (n : Int)), (sk "many", .int (t : Int))] := putK_new _ ((valV_neg str_ne1).trans rfl)
  have h3 : putK ([(sk "sides", .int (n : Int)), (sk "many", .int (t : Int))] : List (Key × V)) (sk "joined") j = scK n t j := putK_new _ ((valV_neg str_ne2).trans ((valV_neg str_ne3).trans rfl))
  show putK (putK (putK [] (sk "sides") (.int (n : Int))) (sk "many") (.int (t : Int))) (sk "joined") j = _
  rw [h1, h2, h3]
abbrev s_law_scope : Stmt := top 72
abbrev N_law_scope : List Str := ["_law_state", "_law_most", "_law_sides_here", "_law_many", "_law_fashion", "_law_joined_here"]
theorem sc_law_scope : FnScope N_law_scope ["_law_state", "_law_most"] (defScope s_law_scope) := ⟨rfl, rfl, rfl, by decide +kernel, rfl, by decide +kernel, by decide +kernel⟩

def sp_law_scope (K : PySem.W.Frag) (C : Addr) : Sp := fun vs H Q _ => ∃ (W : Hw) (d L : Addr) (n : Nat), vs = [.ref d, .int 10] ∧ H = W.h ∧ StW d L n W ∧ n ≤ 90000 ∧
  ∀ b v W', Scope b → Gs d L W W' → StW d L (n + 100) W' → (oSc K b).is v W'.g → Q v W'.h
theorem ok_law_scope {P : Program} {w : World} {K : PySem.W.Frag} {mg : Str → Option Value} {base : Heap} {C : Addr} (T : Tx K mg C) (Dd : Df K mg "_law_scope" "_law_scope" s_law_scope ["_law_state", "_law_most"]) (h_law_pick : Ca P w K mg base 2 "_law_pick" ["_law_state", "_law_several"] (sp_law_pick K C)) (h_law_joined : Ca P w K mg base 2 "_law_joined" ["_law_sides_here", "_law_many", "_law_fashion"] ((spF (Φ_law_joined K C)))) (h_law_mixed : Ca P w K mg base 2 "_law_mixed" ["_law_state", "_law_several"] (sp_law_mixed K C)) (h_law_draw : Ca P w K mg base 1 "_law_draw" ["_law_state", "_law_size_here"] (sp_law_draw K C)) :
    Ca P w K mg base 3 "_law_scope" ["_law_state", "_law_most"] (sp_law_scope K C) := by
  obtain ⟨f, fd, F, hm, hb⟩ := Dd
  refine ⟨f, fd, F.ok sc_law_scope (fun vs H Q E h => ?_) (fun cdv A outer s H vs Q E hr h => ?_), hm, F.kp, hb⟩
  · obtain ⟨W, d, L, n, rfl, _⟩ := h
    rfl
  · obtain ⟨W, d, L, n, rfl, rfl, hst, hn, k⟩ := h
    have hu := hu_any hr
    have nd := sc_law_scope.nd
    refine ⟨_, (pss_cons (ps_asg (pe_ca h_law_pick hr rfl (pa_cons (pv 0) (pa_cons (pe_lst (pa_cons (pe_tup (pa_cons pe_int (pa_cons pe_int pa_nil))) (pa_cons (pe_tup (pa_cons pe_int (pa_cons pe_int pa_nil))) (pa_cons (pe_tup (pa_cons pe_int (pa_cons pe_int pa_nil))) (pa_cons (pe_tup (pa_cons pe_int (pa_cons pe_int pa_nil))) (pa_cons (pe_tup (pa_cons pe_int (pa_cons pe_int pa_nil))) (pa_cons (pe_tup (pa_cons pe_int (pa_cons pe_int pa_nil))) (pa_cons (pe_tup (pa_cons pe_int (pa_cons pe_int pa_nil))) (pa_cons (pe_tup (pa_cons pe_int (pa_cons pe_int pa_nil))) (pa_cons (pe_tup (pa_cons pe_int (pa_cons pe_int pa_nil))) pa_nil)))))))))) pa_nil))) (pg_tupK (K := K) (n := 2) rfl rfl (pgs_cons (pg_name (i := 2) nd rfl (Or.inl rfl)) (pgs_cons (pg_name (i := 3) nd rfl (Or.inl rfl)) pgs_nil))))
      (pss_cons (ps_set (i := 4) nd rfl (Or.inl rfl) (pe_ca h_law_pick hr rfl (pa_cons (pv 0) (pa_cons (pe_lst (pa_cons pe_str (pa_cons pe_str (pa_cons pe_str (pa_cons pe_str (pa_cons pe_str (pa_cons pe_str pa_nil))))))) pa_nil))))
      (pss_cons (ps_set (i := 5) nd rfl (Or.inl rfl) (pe_ca h_law_joined hr rfl (pa_cons (pv 2) (pa_cons (pv 3) (pa_cons (pe_ifExp (pt_cmpR op_eq (pv 4) pe_str (nomark _)) pe_str (pv 4)) pa_nil)))))
      (pss_cons (ps_if (pt_orW (pt_cmpR op_eq (pv 4) pe_str (nomark _)) (pw_or1 (pt_cmpR op_gt (pe_callB (lenK (K := K) rfl) rfl T.n_len boot_len' (pa_cons (pv 5) pa_nil)) (pv 1) (nomark _)))) (pss_one (ps_set (i := 5) nd rfl (Or.inl rfl) (pe_callB (sortDK (K := K) rfl (hu 64 (by decide))) rfl T.n_sorted boot_sorted' (pa_cons (pe_slice (slK (K := K) rfl) (pe_ca h_law_mixed hr rfl (pa_cons (pv 0) (pa_cons (pv 5) pa_nil))) po_none (po_some (pe_op op_add pe_int (pe_ca h_law_draw hr rfl (pa_cons (pv 0) (pa_cons (pv 1) pa_nil)))))) pa_nil)))) pss_nil)
      (pss_one (ps_ret (pe_disp (pps_cons pe_str (pv 2) (pps_cons pe_str (pv 3) (pps_cons pe_str (pe_callTy (tupK (K := K) rfl) rfl T.n_tuple boot_tuple' (pa_cons (pv 5) pa_nil)) pps_nil))) rfl rfl (by decide) (by decide)))))))), ?_⟩
    have pr : ∀ (a b : Nat) (σ : Sl) (W : Hw), Ev (tTup (tCons (tC (.int (a : Int))) (tCons (tC (.int (b : Int))) tNil))) σ W (oX K ((a, b) : Pin)) := fun a b σ W => ev_imp (ev_tup (ea_cons (ev_c (v := .int (a : Int))) (ea_cons (ev_c (v := .int (b : Int))) ea_nil)) (show 2 ≤ 1000000 by decide)) fun _ _ => oP_pin (K := K)
    -- sides, many
    refine q_rawg (run_pick (S := fun p : Pin => oX K p) (xs := scopes) (ea_cons (ev_var rfl rfl) (ea_cons (ev_lstM (R := fun p : Pin => oX K p) (xs := scopes) (ea_cons (pr 2 2 _ _) (ea_cons (pr 3 2 _ _) (ea_cons (pr 3 2 _ _) (ea_cons (pr 3 3 _ _) (ea_cons (pr 4 2 _ _) (ea_cons (pr 2 3 _ _) (ea_cons (pr 4 1 _ _) (ea_cons (pr 5 1 _ _) (ea_cons (pr 3 1 _ _) ea_nil))))))))) rfl (by decide)) ea_nil)) hst (by omega) (by decide) (by decide) fun p v W1 hp g1 s1 rp => ?_)
    refine g_names (A := oX K p.1) (B := oX K p.2) (pair_T rp) fun y2 y3 ry2 ry3 => ?_
    have ry2 := X_nat ry2
    have ry3 := X_nat ry3
    subst ry2 ry3
    obtain ⟨pn1, pn2, pt1, pt2⟩ := scopes_num hp
    -- fashion
    refine q_raw (run_pick (S := fun s : Str => oV (.str s)) (xs := modes) (ea_cons (ev_var rfl rfl) (ea_cons (ev_lstM (R := fun s : Str => oV (.str s)) (xs := modes) (ea_cons ev_c (ea_cons ev_c (ea_cons ev_c (ea_cons ev_c (ea_cons ev_c (ea_cons ev_c ea_nil)))))) rfl (by decide)) ea_nil)) s1 (by omega) (by decide) (by decide) fun md v W2 hmd g2 s2 rmd => ?_)
    have rmd : v = .str md := rmd
    subst rmd
    obtain ⟨bs, fs, hbs, hb1, hb2⟩ := mode_fash hmd
    obtain ⟨jn, jo, jl⟩ := joined_ok hp fs
    -- joined
    refine q_set (ev_call (ea_cons (ev_var (R := oK p.1) rfl rfl) (ea_cons (ev_var (R := oK p.2) rfl rfl) (ea_cons (ev_if (b := bs) (R := oV (.str fs.str)) (eb_test (ev_eqV (ev_var (R := oV (.str md)) rfl rfl) (ev_c (v := .str "some")) rfl hbs)) (fun z => Ev.val (ev_c (v := .str "full")) (by rw [hb1 z])) fun z => ev_var rfl (by rw [hb2 z]; rfl)) ea_nil))) (Φ_law_joined.mk p.1 p.2 fs pn2 (by omega))) fun v5 W3 e3 r5 => ?_
    have s3 := s2.up e3
    have g3 := (g1.trans g2).trans (Gs.of e3)
    -- the end, from any list that fits
    have fin : ∀ (js : List Sw) (v : V) (W4 : Hw) (m : Nat), Gs d L W W4 → StW d L m W4 → m ≤ n + 100 → (oM (fun s : Sw => oX K s) js).is v W4.g → js.length ≤ 10 → Rising js → (∀ s ∈ js, okSw s p.1 p.2) →
        tRet (tDisp [(tC (.str "sides"), tVar 2), (tC (.str "many"), tVar 3), (tC (.str "joined"), tCB (rTup K) (tCons (tVar 5) tNil))]) { nx := fun _ H' => Q .non H', rt := Q } [some (.ref d), some (.int 10), some (.int (p.1 : Int)), some (.int (p.2 : Int)), some (.str md), some v] W4.h := by
      intro js v W4 m g4 s4 hm rj hl hr ho
      intro q hq
      have rj' : (oM (fun s : Sw => oX K s) js).is v (W4.own q (.dK []) (Hw.free hq)).g := rj
      refine ⟨.int (p.1 : Int), rfl, .int (p.2 : Int), rfl, ?_⟩
      refine (ev_tupL (K := K) (S := fun s : Sw => oX K s) (xs := js) (σ := [some (.ref d), some (.int 10), some (.int (p.1 : Int)), some (.int (p.2 : Int)), some (.str md), some v]) (W := W4.own q (.dK []) (Hw.free hq)) (ea_cons (ev_var (i := 5) rfl (oM_L rj')) ea_nil)) _ (Gr.refl _) _ fun z W5 e5 rz => ?_
      have f5 : Fh W4 W5 q (.dK []) := (Fh.start hq).up (fun _ z => nomatch z) e5
      refine ⟨f5.at_, scK p.1 p.2 z, rfl, by show 3 ≤ 15; decide, ?_⟩
      rw [sc_merge]
      have f6 := f5.to (.dK (scK p.1 p.2 z))
      have e6 := f6.gr.fix f6.new f6.at_
      exact k ⟨p.1, p.2, js⟩ (.ref q) _ ⟨⟨pn1, pn2, pt1, by show p.2 ≤ 6; omega, ho, hr, by show js.length ≤ 20; omega⟩, hl, hp⟩ (g4.trans (Gs.of e6)) ((s4.mono hm).up e6) ⟨q, z, rfl, upd_same, Rl.up _ (same_new f5.hid) (T_way (oU_T rz))⟩
    have pm := List.mergeSort_perm (joinedL p.1 p.2 fs) dle
    refine q_when (b := bs || decide (10 < ((joinedL p.1 p.2 fs).mergeSort dle).length)) (eb_or (a := bs) (eb_test (ev_eqV (ev_var (R := oV (.str md)) rfl rfl) (ev_c (v := .str "some")) rfl hbs)) fun _ => eb_test (Ev.val (ev_i0 (ev_lenL (ea_cons (ev_var rfl (oM_L r5)) ea_nil)) (ev_var (R := oI 10) rfl rfl)) (congrArg V.bl (decide_eq_decide.mpr ⟨fun h => by omega, fun h => by omega⟩)))) (fun hc W4 e4 => ?_) fun hc W4 e4 => ?_
    · have hlj : ((joinedL p.1 p.2 fs).mergeSort dle).length ≤ 27 := by
        rw [List.length_mergeSort]
        exact jl
      refine a_raw (c_raw (run_cut 10 (S := fun s : Sw => oX K s) (xs := (joinedL p.1 p.2 fs).mergeSort dle) (n := n + 1 + 1) (ea_cons (ev_var rfl rfl) (ea_cons (ev_var rfl (Rl.mv _ e4.g r5)) ea_nil)) (s3.up e4) (by omega) isX_X (by decide) (fun W5 g5 s5 Q' kq => ?_) fun ys r v6 W5 hr10 hperm g5 s5 hv6 => ?_))
      · refine run_draw (sz := 10) (ea_cons (ev_var rfl rfl) (ea_cons (ev_var (R := oK 10) rfl rfl) ea_nil)) s5 (by omega) (by decide) (by decide) fun r W6 g6 s6 hr => ⟨1, (r : Int), rfl, rfl, ?_⟩
        have := kq (1 + r) W6 g6 s6 (by omega)
        rw [show ((1 + r : Nat) : Int) = 1 + (r : Int) by omega] at this
        exact this
      · have hnd : (ys.take r).Nodup := (List.take_sublist _ _).nodup (hperm.nodup_iff.mpr (pm.nodup_iff.mpr jn))
        have hlen : ((ys.take r).mergeSort dle).length ≤ 10 := by
          rw [List.length_mergeSort, List.length_take]
          omega
        exact (ev_sort (K := K) (σ := []) (S := fun s : Sw => oX K s) (xs := ys.take r) (ea_cons (ev_cv (oM_L hv6)) ea_nil) isX_X srt_pair) W5 (Gr.refl _) _ fun v7 W6 e6 r7 => fin _ v7 W6 _ (((g3.trans (Gs.of e4)).trans g5).trans (Gs.of e6)) (s5.up e6) (by omega) r7 hlen (strict_ms hnd) fun s hs => jo s (pm.mem_iff.mp (hperm.mem_iff.mp ((List.take_sublist _ _).subset ((List.mergeSort_perm _ _).mem_iff.mp hs))))
    · rw [Bool.or_eq_false_iff, decide_eq_false_iff_not] at hc
      exact fin _ v5 W4 (n + 1 + 1) (g3.trans (Gs.of e4)) (s3.up e4) (by omega) (Rl.mv _ e4.g r5) (by omega) (strict_ms jn) fun s hs => jo s (pm.mem_iff.mp hs)
end Bx

set_option Elab.async false
set_option linter.all false
set_option maxRecDepth 100000
set_option maxHeartbeats 4000000
set_option autoImplicit false
namespace Bx
open PySem L2 StX RZ
/-! ### boxes of the law -/
theorem swIn_sub (b : Bo) (p : List Pin) : (swIn b p).length ≤ b.sw.length := List.length_filter_le _ _
theorem cap_scope {n t : Nat} (h : (n, t) ∈ scopes) : CapOk n t := by
  simp only [scopes, List.mem_cons, List.not_mem_nil, or_false, Prod.mk.injEq] at h
  rcases h with ⟨rfl, rfl⟩ | ⟨rfl, rfl⟩ | ⟨rfl, rfl⟩ | ⟨rfl, rfl⟩ | ⟨rfl, rfl⟩ | ⟨rfl, rfl⟩ | ⟨rfl, rfl⟩ | ⟨rfl, rfl⟩ | ⟨rfl, rfl⟩
  · exact cap_2_2
  · exact cap_3_2
  · exact cap_3_2
  · exact cap_3_3
  · exact cap_4_2
  · exact cap_2_3
  · exact cap_4_1
  · exact cap_5_1
  · exact cap_3_1
theorem cap_twice {n t : Nat} (h : (n, t) ∈ scopes) (ht : t < 3) : CapOk n (t + t) := by
  simp only [scopes, List.mem_cons, List.not_mem_nil, or_false, Prod.mk.injEq] at h
  rcases h with ⟨rfl, rfl⟩ | ⟨rfl, rfl⟩ | ⟨rfl, rfl⟩ | ⟨rfl, rfl⟩ | ⟨rfl, rfl⟩ | ⟨rfl, rfl⟩ | ⟨rfl, rfl⟩ | ⟨rfl, rfl⟩ | ⟨rfl, rfl⟩
  · exact cap_2_4
  · exact cap_3_4
  · exact cap_3_4
  · exact absurd ht (by decide)
  · exact cap_4_4
  · exact absurd ht (by decide)
  · exact cap_4_2
  · exact cap_5_2
  · exact cap_3_2
theorem good_scope {b : Bo} (h : Scope b) : BoGood b := ⟨h.ok, cap_scope h.sc, fun p _ => Nat.le_trans (swIn_sub b p) h.ten⟩
theorem bare_len (b : Bo) (g : List Sw) : (bareB b g).sw.length ≤ b.sw.length := List.length_filter_le _ _
theorem good_bare {b : Bo} (h : Scope b) (g : List Sw) : BoGood (bareB b g) := ⟨bare_ok h.ok g, cap_scope h.sc, fun p _ => Nat.le_trans (swIn_sub _ p) (Nat.le_trans (bare_len b g) h.ten)⟩
theorem bare_mem {b : Bo} {g : List Sw} {s : Sw} (h : s ∈ (bareB b g).sw) : s ∈ b.sw := (List.mem_filter.mp h).1
theorem both_ok {b : Bo} (h : Scope b) (ht : b.t < 3) (g : List Sw) : BoOk (besideB b (bareB b g)) := by
  have h1 := bare_len b g
  have h2 := h.ten
  exact beside_ok h.ok (bare_ok h.ok g) rfl (by show b.t + b.t ≤ 6; omega) (by omega)
theorem good_both {b : Bo} (h : Scope b) (ht : b.t < 3) (g : List Sw) : BoGood (besideB b (bareB b g)) := by
  refine ⟨both_ok h ht g, cap_twice h.sc ht, fun p hp => ?_⟩
  have hk : ∀ s ∈ (besideB b (bareB b g)).sw, decide (s.1.2 < b.t) = decide (s.2.2 < b.t) := fun s hs => by
    rcases mem_beside.mp hs with hs | ⟨t, ht', rfl⟩
    · obtain ⟨_, h2, _, h4, _⟩ := h.ok.ok s hs
      rw [decide_eq_true h2, decide_eq_true h4]
    · rw [decide_eq_false (by simp only [shift]; omega), decide_eq_false (by simp only [shift]; omega)]
  have kind := pieces_kind (fun x => decide (x.2 < b.t)) _ hk p ((List.mergeSort_perm _ _).mem_iff.mp hp)
  have hnd : (swIn (besideB b (bareB b g)) p).Nodup := (both_ok h ht g).up.nodup.filter _
  have h2 := h.ten
  cases hc : swIn (besideB b (bareB b g)) p with
  | nil => exact Nat.zero_le _
  | cons s0 rest =>
    rw [← hc]
    have hs0 : s0 ∈ swIn (besideB b (bareB b g)) p := by
      rw [hc]
      exact List.mem_cons_self
    have hp0 := of_decide_eq_true (List.mem_filter.mp hs0).2
    by_cases c : s0.1.2 < b.t
    · refine Nat.le_trans (nodup_len (m := b.sw) hnd fun s hs => ?_) h2
      obtain ⟨m1, m2⟩ := List.mem_filter.mp hs
      have := kind s.1 (of_decide_eq_true m2) s0.1 hp0
      rcases mem_beside.mp m1 with m1 | ⟨t, _, rfl⟩
      · exact m1
      · have this : decide ((shift t b.t).1.2 < b.t) = decide (s0.1.2 < b.t) := this
        rw [decide_eq_true c, decide_eq_true_eq] at this
        simp only [shift] at this
        omega
    · refine Nat.le_trans (nodup_len (m := (bareB b g).sw.map fun s => shift s b.t) hnd fun s hs => ?_) (by rw [List.length_map]; exact Nat.le_trans (bare_len b g) h2)
      obtain ⟨m1, m2⟩ := List.mem_filter.mp hs
      have := kind s.1 (of_decide_eq_true m2) s0.1 hp0
      rcases mem_beside.mp m1 with m3 | ⟨t, m3, rfl⟩
      · have this : decide (s.1.2 < b.t) = decide (s0.1.2 < b.t) := this
        rw [decide_eq_false c, decide_eq_false_iff_not] at this
        exact absurd (h.ok.ok s m3).2.1 this
      · exact List.mem_map_of_mem m3
theorem carried_bare {b : Bo} {g : List Sw} {l : List Nat} (h : Carried (bareB b g) l) : Carried b l := by
  obtain ⟨w, h1, h2, h3⟩ := h
  exact ⟨w, h1, fun s hs => bare_mem (h2 s hs), h3⟩
theorem way_bare {b : Bo} {g : List Sw} {w : List Sw} (h : WayOf (bareB b g) w) : WayOf b w := ⟨fun s hs => bare_mem (h.sub s hs), h.up, h.mt⟩
theorem pins_shift (w : List Sw) (k : Nat) : (w.map fun s => shift s k).flatMap pins = (w.flatMap pins).map fun p => (p.1, p.2 + k) := by
  induction w with
  | nil => rfl
  | cons s w ih =>
    rw [List.map_cons, List.flatMap_cons, ih, List.flatMap_cons, List.map_append]
    rfl
theorem load_shift (n : Nat) (w : List Sw) (k : Nat) : loadOf n (w.map fun s => shift s k) = loadOf n w := by
  unfold loadOf
  rw [List.map_map]
  rfl
theorem carried_both {a c : Bo} (ha : BoOk a) (hn : a.n = c.n) {F F' : List (List Nat)} (hF : FrameOk a F) (hF' : FrameOk c F') {l m : List Nat} (hl : l ∈ F) (hm : m ∈ F') : Carried (besideB a c) (addL l m) := by
  obtain ⟨w, w1, w2, rfl⟩ := hF.ok l hl
  obtain ⟨v, v1, v2, rfl⟩ := hF'.ok m hm
  refine ⟨w ++ v.map fun s => shift s a.t, ?_, fun s hs => ?_, ?_⟩
  · unfold Match
    rw [List.flatMap_append, List.nodup_append, pins_shift]
    refine ⟨w1, nodup_map_on v1 fun x _ y _ e => ?_, fun x hx y hy e => ?_⟩
    · simp only [Prod.mk.injEq] at e
      exact Prod.ext e.1 (by omega)
    · obtain ⟨z, _, rfl⟩ := List.mem_map.mp hy
      obtain ⟨s, hs, hxs⟩ := List.mem_flatMap.mp hx
      obtain ⟨g1, g2, g3, g4, g5⟩ := ha.ok s (w2 s hs)
      have : x.2 < a.t := by
        simp only [pins, List.mem_cons, List.not_mem_nil, or_false] at hxs
        rcases hxs with rfl | rfl <;> assumption
      rw [e] at this
      have this : z.2 + a.t < a.t := this
      omega
  · rw [mem_beside]
    rcases List.mem_append.mp hs with hs | hs
    · exact .inl (w2 s hs)
    · obtain ⟨t, ht, rfl⟩ := List.mem_map.mp hs
      exact .inr ⟨t, v2 t ht, rfl⟩
  · show below (addL (loadOf a.n w) (loadOf c.n v)) (loadOf a.n (w ++ _)) = true
    rw [loadOf_app, load_shift, hn]
    exact below_refl _
theorem frame_few {b : Bo} (hb : BoGood b) {F : List (List Nat)} (hF : FrameOk b F) : F.length ≤ 1000 := cap_few hb.n2 hb.cap hF.nd fun l hl => by
  obtain ⟨w, h1, h2, h3⟩ := hF.ok l hl
  exact ⟨w, h1, fun s hs => hb.ok s (h2 s hs), h3⟩
theorem frame_ok {b : Bo} (hb : BoGood b) {F : List (List Nat)} (hF : FrameOk b F) {l : List Nat} (hl : l ∈ F) : okLd b.n 20 l := by
  obtain ⟨w, h1, h2, rfl⟩ := hF.ok l hl
  have := nodup_len (match_nodup h1) h2
  have := hb.few
  exact ⟨loadOf_len _ _, fun x hx => by have := load_le x hx; omega⟩
theorem frame_pos {b : Bo} {F : List (List Nat)} (hF : FrameOk b F) : 1 ≤ F.length := by
  obtain ⟨l, hl, _⟩ := hF.top [] (List.nil_sublist _) List.nodup_nil
  exact List.length_pos_of_mem hl
/-- what a case of the law has -/
structure Item (q : Bo × List (List Nat)) : Prop where
  good : BoGood q.1
  fr : FrameOk q.1 q.2
def oItem (K : PySem.W.Frag) (C : Addr) (q : Bo × List (List Nat)) : Rl := oU id [oBox K C q.1, oU oLd q.2]
theorem run_few {K : PySem.W.Frag} {C : Addr} {σ : Sl} {W : Hw} {ta : TA} {E : XK} {Q : VK} {d L : Addr} {n m : Nat} {xs : List Sw} (he : Ea ta σ W [oV (.ref d), oM (fun s : Sw => oX K s) xs, oK m]) (hst : StW d L n W) (hn : n ≤ 90000) (h1 : xs.length ≤ 20) (h2 : m ≤ 50)
    (k : ∀ (ys : List Sw) (v : V) (W' : Hw), ys.Sublist xs → Gs d L W W' → StW d L (n + 30) W' → (oM (fun s : Sw => oX K s) ys).is v W'.g → Q v W'.h) : tCall (sp_law_few K C) [] E ta σ W.h Q := he W (Gr.refl _) _ fun vs W2 e2 r => by
  obtain ⟨x, y, z, rfl, rfl, ry, rfl⟩ := three_args r
  exact ⟨W2, d, L, n, xs, y, m, rfl, rfl, hst.up e2, hn, oM_L ry, h1, h2, fun ys v W' hp g s hv => k ys v W' hp ((Gs.of e2).trans g) s hv⟩
theorem run_scope {K : PySem.W.Frag} {C : Addr} {σ : Sl} {W : Hw} {ta : TA} {E : XK} {Q : VK} {d L : Addr} {n : Nat} (he : Ea ta σ W [oV (.ref d), oI 10]) (hst : StW d L n W) (hn : n ≤ 90000)
    (k : ∀ (b : Bo) (v : V) (W' : Hw), Scope b → Gs d L W W' → StW d L (n + 100) W' → (oSc K b).is v W'.g → Q v W'.h) : tCall (sp_law_scope K C) [] E ta σ W.h Q := he W (Gr.refl _) _ fun vs W2 e2 r => by
  obtain ⟨x, y, rfl, rfl, rfl⟩ := two_args r
  exact ⟨W2, d, L, n, rfl, rfl, hst.up e2, hn, fun b v W' hb g s hv => k b v W' hb ((Gs.of e2).trans g) s hv⟩
theorem run_begun {K : PySem.W.Frag} {C : Addr} {σ : Sl} {W : Hw} {ta : TA} {E : XK} {Q : VK} {ns : List Int} (he : Ea ta σ W [oL K (fun i : Int => oI i) ns]) (hz : ns.length ≤ 63)
    (k : ∀ d L W', Gr W W' → StW d L 0 W' → Q (.ref d) W'.h) : tCall (sp_law_begun K C) [] E ta σ W.h Q := he W (Gr.refl _) _ fun vs W2 e2 r => by
  obtain ⟨x, rfl, rx⟩ := one_arg r
  exact ⟨W2, x, ns, rfl, rfl, rx, hz, fun d L W' e s => k d L W' (e2.trans e) s⟩
/-- of a way: there is one, or none -/
def oWay (K : PySem.W.Frag) (b : Bo) (l : List Nat) : Rl := oE (fun w => WayOf b w ∧ loadOf b.n w = l) fun w => oX K w
theorem X_ref {α : Type} [DecidableEq α] [Dt α] {K : PySem.W.Frag} {w : List α} {v : V} {H : Hp} (h : (oX K w).is v H) : ∃ a, v = .ref a := by
  obtain ⟨a, vs, rfl, _⟩ := way_T h
  exact ⟨a, rfl⟩
/-! one case: a box, its frame, a load -/
theorem ev_min2 {σ : Sl} {W : Hw} {ta tb : TE} {i j : Int} (ha : Ev ta σ W (oI i)) (hb : Ev tb σ W (oI j)) : Ev (tCB rMin2 (tCons ta (tCons tb tNil))) σ W (oI (if j < i then j else i)) := ev_cb (ea_cons ha (ea_cons hb ea_nil)) fun vs W' _ r => by
  obtain ⟨x, y, rfl, rfl, rfl⟩ := two_args r
  exact gv_one rfl fun Q q => ⟨i, j, rfl, q⟩
theorem cb_at {r : List V → Hp → VK → Prop} {v : V} {W : Hw} {R : Rl} {Q : VK} (h : Ev (tCB r (tCons (tC v) tNil)) [] W R) (k : ∀ v' W', Gr W W' → R.is v' W'.g → Q v' W'.h) : r [v] W.h Q := h W (Gr.refl W) Q k
theorem cbn_at {α : Type} {r : List V → Hp → VK → Prop} {v : V} {W : Hw} {S : α → Rl} {xs : List α} {Q : VK} (h : Evn (tCB r (tCons (tC v) tNil)) [] W S xs) (k : ∀ p W' acc, Fl W W' p acc → Al S xs acc W'.g → Q (.ref p) W'.h) : r [v] W.h Q := h W (Gr.refl W) Q k
theorem m_raw {r : List V → Hp → VK → Prop} {z : V} {te : TE} {σ : Sl} {H : Hp} {Q : VK} (h : te σ H fun y H1 => r [z, y] H1 Q) : tCB r (tCons (tC z) (tCons te tNil)) σ H Q := h
theorem op_raw {r : R2} {ta tb : TE} {σ : Sl} {W : Hw} {A : Rl} {Q : VK} (ha : Ev ta σ W A) (k : ∀ x W', Gr W W' → A.is x W'.g → tb σ W'.h fun y H2 => r x y H2 Q) : tOp r ta tb σ W.h Q := ha W (Gr.refl W) _ k
theorem p_raw {ta tb : TE} {u : TS} {D : Ends} {σ : Sl} {H : Hp} {i j : Nat} (h : ta σ H fun v H1 => tb σ H1 fun w H2 => ∃ v' w', [v, w] = [v', w'] ∧ u D ((σ.set i (some v')).set j (some w')) H2) : tSeq (tPar i j (tCons ta (tCons tb tNil))) u D σ H := h
end Bx

set_option Elab.async false
set_option linter.all false
set_option maxRecDepth 100000
set_option maxHeartbeats 4000000
set_option autoImplicit false
namespace Bx
open PySem L2 StX RZ
abbrev s_law : Stmt := top 76
abbrev N_law : List Str := ["_law_script", "_law_state", "_law_turn", "_law_scope_here", "_law_made_here", "_law_lost", "_law_bare", "_law_tops", "_law_less", "_law_load", "_law_lap", "_law_spot", "_law_item", "_law_frame_here", "_law_way_here", "_law_bar_here", "_law_both", "_law_one", "_law_other", "_law_sum_here", "_law_more"]
theorem sc_law : FnScope N_law ["_law_script"] (defScope s_law) := ⟨rfl, rfl, rfl, by decide +kernel, rfl, by decide +kernel, by decide +kernel⟩

def sp_law (K : PySem.W.Frag) (C : Addr) : Sp := fun vs H Q _ => ∃ (a : Addr) (ns : List Int), vs = [.ref a] ∧ SqL K H a (ns.map V.int) ∧ ns.length ≤ 63 ∧ ∀ H', Q (.bl true) H'
theorem ok_law {P : Program} {w : World} {K : PySem.W.Frag} {mg : Str → Option Value} {base : Heap} {C : Addr} (T : Tx K mg C) {f : Addr} {fd : FuncData} (F : Fun K "law" "law" s_law f fd) (h_law_begun : Ca P w K mg base 1 "_law_begun" ["_law_script"] (sp_law_begun K C)) (h_law_scope : Ca P w K mg base 3 "_law_scope" ["_law_state", "_law_most"] (sp_law_scope K C)) (h_law_made : Ca P w K mg base 7 "_law_made" ["_law_scope_here"] ((spF (Φ_law_made K C)))) (h_law_few : Ca P w K mg base 3 "_law_few" ["_law_state", "_law_several", "_law_most"] (sp_law_few K C)) (h_without : Ca P w K mg base 8 "without" ["box", "gone"] ((spF (Φ_without K C)))) (h_box_frame : Ca P w K mg base 6 "box_frame" ["box"] ((spF (Φ_box_frame K C)))) (h_law_is_of : Ca P w K mg base 2 "_law_is_of" ["_law_load", "_law_tops"] ((spF (Φ_law_is_of K C)))) (h_law_pick : Ca P w K mg base 2 "_law_pick" ["_law_state", "_law_several"] (sp_law_pick K C)) (h_law_draw : Ca P w K mg base 1 "_law_draw" ["_law_state", "_law_size_here"] (sp_law_draw K C)) (h_way_for : Ca P w K mg base 6 "way_for" ["box", "load"] ((spF (Φ_way_for K C)))) (h_bar : Ca P w K mg base 6 "bar" ["box", "load"] ((spF (Φ_bar K C)))) (h_is_way_for : Ca P w K mg base 6 "is_way_for" ["box", "load", "thing"] ((spF (Φ_is_way_for K C)))) (h_is_bar : Ca P w K mg base 6 "is_bar" ["box", "load", "thing"] ((spF (Φ_is_bar K C)))) (h_beside : Ca P w K mg base 7 "beside" ["one", "other"] ((spF (Φ_beside K C)))) :
    FnOk P w K mg base CX0 9 f fd ["_law_script"] (sp_law K C) := by
  refine F.ok sc_law (fun vs H Q E h => ?_) (fun cdv A outer s H vs Q E hr h => ?_)
  · obtain ⟨a, ns, rfl, _⟩ := h
    rfl
  · obtain ⟨a, ns, rfl, hS, hlen, k⟩ := h
    have hu := hu_any hr
    have nd := sc_law.nd
    refine ⟨_, (pss_cons (ps_set (i := 1) nd rfl (Or.inl rfl) (pe_ca h_law_begun hr rfl (pa_cons (pv 0) pa_nil)))
      (pss_cons (ps_for PassesOwn.never rfl (pi_range1 rfl T.n_range (pa_cons (pe_op op_add pe_int (pe_callB (min2K rfl) rfl T.n_min boot_min' (pa_cons (pe_callB (lenK (K := K) rfl) rfl T.n_len boot_len' (pa_cons (pv 0) pa_nil)) (pa_cons pe_int pa_nil)))) pa_nil)) (pg_name (i := 2) nd rfl (Or.inl rfl)) (pss_cons (ps_set (i := 3) nd rfl (Or.inl rfl) (pe_ca h_law_scope hr rfl (pa_cons (pv 1) (pa_cons pe_int pa_nil))))
      (pss_cons (ps_set (i := 4) nd rfl (Or.inl rfl) (pe_ca h_law_made hr rfl (pa_cons (pv 3) pa_nil)))
      (pss_cons (ps_set (i := 5) nd rfl (Or.inl rfl) (pe_callTy (tupK (K := K) rfl) rfl T.n_tuple boot_tuple' (pa_cons (pe_ca h_law_few hr rfl (pa_cons (pv 1) (pa_cons (pe_callTy (listK (K := K) rfl) rfl T.n_list boot_list' (pa_cons (pe_dget (hu 1 (by decide)) (pv 3) pe_str (fun _ _ => rfl)) pa_nil)) (pa_cons pe_int pa_nil)))) pa_nil)))
      (pss_cons (ps_asg (pe_tup (pa_cons (pe_ca h_without hr rfl (pa_cons (pv 4) (pa_cons (pv 5) pa_nil))) (pa_cons (pe_ca h_box_frame hr rfl (pa_cons (pv 4) pa_nil)) pa_nil))) (pg_tupK (K := K) (n := 2) rfl rfl (pgs_cons (pg_name (i := 6) nd rfl (Or.inl rfl)) (pgs_cons (pg_name (i := 7) nd rfl (Or.inr rfl)) pgs_nil))))
      (pss_cons (ps_set (i := 8) nd rfl (Or.inl rfl) (pe_ca h_box_frame hr rfl (pa_cons (pv 6) pa_nil)))
      (pss_cons (ps_if (pt_cmpR (neDK (K := K) rfl (hu 64 (by decide))) (pe_lc (own := [("_law_load", 9)]) rfl nd (pi_tupK (K := K) rfl (pv 8)) (blkOk_by (N := N_law) (sc := defScope s_law) (by decide +kernel)) (fun _ _ _ _ _ => (pg_name (i := 9) nd rfl (Or.inl rfl))) (fun _ _ _ _ _ => (pts_one (pt_not (pt_val (pe_ca h_law_is_of hr rfl (pa_cons (pv 9) (pa_cons (pv 7) pa_nil))))))) (fun _ _ _ _ _ => pe_int)) (pe_lst pa_nil) (nomark _)) (pss_one (ps_ret pe_bl)) pss_nil)
      (pss_cons (ps_for PassesOwn.never rfl (pi_range1 rfl T.n_range (pa_cons pe_int pa_nil)) (pg_name (i := 10) nd rfl (Or.inl rfl)) (pss_cons (ps_set (i := 9) nd rfl (Or.inl rfl) (pe_callTy (listK (K := K) rfl) rfl T.n_list boot_list' (pa_cons (pe_ca h_law_pick hr rfl (pa_cons (pv 1) (pa_cons (pe_callTy (listK (K := K) rfl) rfl T.n_list boot_list' (pa_cons (pv 7) pa_nil)) pa_nil))) pa_nil)))
      (pss_cons (ps_set (i := 11) nd rfl (Or.inl rfl) (pe_ca h_law_draw hr rfl (pa_cons (pv 1) (pa_cons (pe_callB (lenK (K := K) rfl) rfl T.n_len boot_len' (pa_cons (pv 9) pa_nil)) pa_nil))))
      (pss_cons (ps_asg (pe_callB (max2K rfl) rfl T.n_max boot_max' (pa_cons pe_int (pa_cons (pe_op op_add (pe_ix (ixL (K := K) rfl) (pv 9) (pv 11) (fun _ _ => rfl)) (pe_ca h_law_pick hr rfl (pa_cons (pv 1) (pa_cons (pe_lst (pa_cons pe_int (pa_cons pe_int (pa_cons (pe_un un_neg pe_int) (pa_cons (pe_un un_neg pe_int) pa_nil))))) pa_nil)))) pa_nil))) (pg_sub (pv 9) (pv 11) set_list))
      (pss_cons (ps_set (i := 9) nd rfl (Or.inl rfl) (pe_callTy (tupK (K := K) rfl) rfl T.n_tuple boot_tuple' (pa_cons (pv 9) pa_nil)))
      (pss_cons (ps_for PassesOwn.never rfl (pi_listK (K := K) rfl (pe_lst (pa_cons (pe_tup (pa_cons (pv 4) (pa_cons (pv 7) pa_nil))) (pa_cons (pe_tup (pa_cons (pv 6) (pa_cons (pv 8) pa_nil))) pa_nil)))) (pg_tupK (K := K) (n := 2) rfl rfl (pgs_cons (pg_name (i := 12) nd rfl (Or.inl rfl)) (pgs_cons (pg_name (i := 13) nd rfl (Or.inl rfl)) pgs_nil))) (pss_cons (ps_par (i := 14) (j := 15) rfl nd rfl rfl (by decide) rfl rfl (pa_cons (pe_ca h_way_for hr rfl (pa_cons (pv 12) (pa_cons (pv 9) pa_nil))) (pa_cons (pe_ca h_bar hr rfl (pa_cons (pv 12) (pa_cons (pv 9) pa_nil))) pa_nil)) (by rfl))
      (pss_cons (ps_if (pt_cmpR op_ne (pe_cmpR op_isN1 (pv 14) pe_non (nomark _)) (pe_cmpR op_notN1 (pv 15) pe_non (nomark _)) (nomark _)) (pss_one (ps_ret pe_bl)) pss_nil)
      (pss_cons (ps_if (pt_cmpR op_ne (pe_cmpR op_notN1 (pv 14) pe_non (nomark _)) (pe_ca h_law_is_of hr rfl (pa_cons (pv 9) (pa_cons (pv 13) pa_nil))) (nomark _)) (pss_one (ps_ret pe_bl)) pss_nil)
      (pss_cons (ps_if (pt_cmpR op_ne (pe_ca h_is_way_for hr rfl (pa_cons (pv 12) (pa_cons (pv 9) (pa_cons (pv 14) pa_nil)))) (pe_cmpR op_notN1 (pv 14) pe_non (nomark _)) (nomark _)) (pss_one (ps_ret pe_bl)) pss_nil)
      (pss_one (ps_if (pt_cmpR op_ne (pe_ca h_is_bar hr rfl (pa_cons (pv 12) (pa_cons (pv 9) (pa_cons (pv 15) pa_nil)))) (pe_cmpR op_notN1 (pv 15) pe_non (nomark _)) (nomark _)) (pss_one (ps_ret pe_bl)) pss_nil)))))))
      (pss_one (ps_if (pt_andW (pt_cmpR op_notN1 (pe_ca h_way_for hr rfl (pa_cons (pv 6) (pa_cons (pv 9) pa_nil))) pe_non (nomark _)) (pw_and1 (pt_cmpR op_notBl (pe_ca h_is_way_for hr rfl (pa_cons (pv 4) (pa_cons (pv 9) (pa_cons (pe_ca h_way_for hr rfl (pa_cons (pv 6) (pa_cons (pv 9) pa_nil))) pa_nil)))) pe_bl (nomark _)))) (pss_one (ps_ret pe_bl)) pss_nil))))))))
      (pss_one (ps_if (pt_cmpR op_lt (pe_fldK (K := K) rfl (pv 4) rfl) pe_int (nomark _)) (pss_cons (ps_set (i := 16) nd rfl (Or.inl rfl) (pe_ca h_beside hr rfl (pa_cons (pv 4) (pa_cons (pv 6) pa_nil))))
      (pss_cons (ps_par (i := 17) (j := 18) rfl nd rfl rfl (by decide) rfl rfl (pa_cons (pe_ca h_law_pick hr rfl (pa_cons (pv 1) (pa_cons (pe_callTy (listK (K := K) rfl) rfl T.n_list boot_list' (pa_cons (pv 7) pa_nil)) pa_nil))) (pa_cons (pe_ca h_law_pick hr rfl (pa_cons (pv 1) (pa_cons (pe_callTy (listK (K := K) rfl) rfl T.n_list boot_list' (pa_cons (pv 8) pa_nil)) pa_nil))) pa_nil)) (by rfl))
      (pss_cons (ps_set (i := 19) nd rfl (Or.inl rfl) (pe_callTy (tupK (K := K) rfl) rfl T.n_tuple boot_tuple' (pa_cons (pe_lc (own := [("_law_item", 12), ("_law_more", 20)]) rfl nd (pi_zipK (K := K) rfl rfl T.n_zip (pa_cons (pv 17) (pa_cons (pv 18) pa_nil))) (blkOk_by (N := N_law) (sc := defScope s_law) (by decide +kernel)) (fun _ _ _ _ _ => (pg_tupK (K := K) (n := 2) rfl rfl (pgs_cons (pg_name (i := 12) nd rfl (Or.inl rfl)) (pgs_cons (pg_name (i := 20) nd rfl (Or.inl rfl)) pgs_nil)))) (fun _ _ _ _ _ => pts_nil) (fun _ _ _ _ _ => (pe_op op_add (pv 12) (pv 20)))) pa_nil)))
      (pss_cons (ps_if (pt_cmpR op_notBl (pe_ca h_is_way_for hr rfl (pa_cons (pv 16) (pa_cons (pv 19) (pa_cons (pe_ca h_way_for hr rfl (pa_cons (pv 16) (pa_cons (pv 19) pa_nil))) pa_nil)))) pe_bl (nomark _)) (pss_one (ps_ret pe_bl)) pss_nil)
      (pss_one (ps_if (pt_not (pt_val (pe_ca h_law_is_of hr rfl (pa_cons (pv 19) (pa_cons (pe_ca h_box_frame hr rfl (pa_cons (pv 16) pa_nil)) pa_nil))))) (pss_one (ps_ret pe_bl)) pss_nil)))))) pss_nil))))))))))
      (pss_one (ps_ret pe_bl)))), ?_⟩
    have hv0 : (oL K (fun i : Int => oI i) ns).is (.ref a) (⟨H, H, Same.refl H⟩ : Hw).g := ⟨a, _, rfl, hS, Al.ofvals⟩
    show tSeq _ _ _ _ (⟨H, H, Same.refl H⟩ : Hw).h
    generalize (⟨H, H, Same.refl H⟩ : Hw) = W at hv0
    refine q_raw (run_begun (ea_cons (ev_var rfl hv0) ea_nil) hlen fun d L W1 e1 s1 => ?_)
    have hv1 := Rl.mv _ e1.g hv0
    refine q_for (xs := List.range (2 + min ns.length 4)) (S := oK) (src_rng1 (ea_cons (Ev.val (ev_i0 (i := 2) ev_c (ev_min2 (ev_lenL (ea_cons (ev_var rfl hv1) ea_nil)) ev_c)) ?_) ea_nil) (by omega)) (fun i σ' W' => ∃ (x2 x3 x4 x5 x6 x7 x8 x9 x10 x11 x12 x13 x14 x15 x16 x17 x18 x19 x20 : Option V), σ' = [some (.ref a), some (.ref d), x2, x3, x4, x5, x6, x7, x8, x9, x10, x11, x12, x13, x14, x15, x16, x17, x18, x19, x20] ∧ StW d L (300 * i) W') ?_ ?_ ?_
    · show V.int (2 + if (4 : Int) < (ns.length : Int) then 4 else (ns.length : Int)) = V.int ((2 + min ns.length 4 : Nat) : Int)
      congr 1
      split <;> omega
    · exact fun W2 e2 => ⟨none, none, none, none, none, none, none, none, none, none, none, none, none, none, none, none, none, none, none, rfl, s1.up e2⟩
    · rintro i ii σ' W2 W3 vt D' hx ⟨x2, x3, x4, x5, x6, x7, x8, x9, x10, x11, x12, x13, x14, x15, x16, x17, x18, x19, x20, rfl, s2⟩ e3 hg rt kn
      have hi : i < 6 := by
        have := (List.getElem?_eq_some_iff.mp hx).1
        rw [List.length_range] at this
        omega
      have s3 := s2.up e3
      -- scope
      refine q_raw (run_scope (ea_cons (ev_var rfl rfl) (ea_cons ev_c ea_nil)) s3 (by omega) fun b v3 W4 hb g4 s4 r3 => ?_)
      have hgood := good_scope hb
      have hten := hb.ten
      -- made
      refine q_set (ev_call (ea_cons (ev_var rfl r3) ea_nil) (Φ_law_made.mk b hb.ok)) fun v4 W5 e5 r4 => ?_
      have r3 := Rl.mv _ e5.g r3
      have s5 := s4.up e5
      -- lost
      refine q_raw (c_raw (run_few (m := 2) (xs := b.sw) (ea_cons (ev_var rfl rfl) (ea_cons (ev_lstT (K := K) (ea_cons (ev_way (ev_scget (R := oX K b.sw) (ev_var rfl r3) fun j H hj => ⟨_, sc_j _ _ j, hj⟩)) ea_nil)) (ea_cons ev_c ea_nil))) s5 (by omega) (by omega) (by decide) fun ys v5 W6 hys g6 s6 r5 => ?_))
      refine cb_at (ev_tupL (K := K) (S := fun s : Sw => oX K s) (xs := ys) (ea_cons (ev_cv (oM_L r5)) ea_nil)) fun v5 W7 e7 r5 => ?_
      have r5 : (oX K ys).is v5 W7.g := T_way (oU_T r5)
      have r4 := Rl.mv _ (g6.g.trans e7.g) r4
      have s7 := s6.up e7
      have hrise : Rising ys := List.Pairwise.sublist hys hb.ok.up
      have hgb := good_bare hb ys
      -- bare, tops
      refine q_asg (ev_tup (ea_cons (ev_call (ea_cons (ev_var rfl r4) (ea_cons (ev_var rfl r5) ea_nil)) (Φ_without.mk b hb.ok ys hrise fun s hs => hys.subset hs)) (ea_cons (ev_call (ea_cons (ev_var rfl r4) ea_nil) (Φ_box_frame.mk b hgood)) ea_nil)) (show 2 ≤ 1000000 by decide)) fun vp W8 e8 rp => ?_
      refine g_names (A := oBox K C (bareB b ys)) (B := oE (FrameOk b) fun F => oU oLd F) (oU_T rp) fun v6 v7 r6 r7 => ?_
      obtain ⟨F1, hF1, r7⟩ := r7
      have r4 := Rl.mv _ e8.g r4
      have s8 := s7.up e8
      -- less
      refine q_set (ev_call (ea_cons (ev_var rfl r6) ea_nil) (Φ_box_frame.mk _ hgb)) fun v8 W9 e9 ⟨F2, hF2, r8⟩ => ?_
      have r4 := Rl.mv _ e9.g r4
      have r6 := Rl.mv _ e9.g r6
      have r7 := Rl.mv _ e9.g r7
      have s9 := s8.up e9
      have hl1 := frame_few hgood hF1
      have hl2 := frame_few hgb hF2
      have hpf := pairs_few hb.ok.n2
      have hpp := pairs_pos hb.ok.n1 hb.ok.n2
      have hin : ∀ l ∈ F2, F1.any (below l) = true := fun l hl => by
        have h1 := frame_ok hgb hF2 hl
        exact (carried_iff hb.ok hF1 h1.1).mpr (carried_bare ((carried_iff hgb.toBoOk hF2 h1.1).mp (List.any_eq_true.mpr ⟨l, hl, below_refl l⟩)))
      have hflt : F2.filter (fun l => !F1.any (below l)) = [] := List.filter_eq_nil_iff.mpr fun l hl => by rw [hin l hl]; decide
      refine q_not (eb_test (Ev.val (ev_neX (α := Ls Nat) (x := ⟨(F2.filter fun l => !F1.any (below l)).map fun _ => 1⟩) (y := ⟨[]⟩) (ev_imp (ev_lcF (xs := F2) (fun l => !F1.any (below l)) (fun _ => oK 1) (src_tup (ev_T (ev_var rfl r8))) (by omega) (fun _ => rfl) fun l hl W10 v e r => ⟨eb_not (eb_B (ev_call (ea_cons (ev_imp (ev_var rfl r) fun _ _ => ld_X (K := K)) (ea_cons (ev_var rfl (Rl.mv _ e.g r7)) ea_nil)) (Φ_law_is_of.mk l F1 (by have := (frame_ok hgb hF2 hl).1; have : (pairsOf (bareB b ys).n).length ≤ 10 := hpf; omega) (by omega)))), fun _ => ev_c⟩) fun v H h => ?_) (ev_imp (ev_lst ea_nil (by decide)) fun v H h => ?_)) ?_)) fun W10 e10 => ?_
      · exact isX.list (α := Nat) (R := fun n => oK n) (fun x v H h => nat_X h) ⟨_⟩ v H (oM_L (K := K) ((oM_map (R := fun n : Nat => oK n) (fun _ : List Nat => 1)).mpr h))
      · obtain ⟨a, us, rfl, g2, g3⟩ := h
        have : us = [] := List.eq_nil_of_length_eq_zero g3.len
        subst this
        exact .lst (SqL.of g2) .nil
      · rw [hflt]
        exact congrArg V.bl (congrArg not (dec_t rfl))
      have r4 := Rl.mv _ e10.g r4
      have r6 := Rl.mv _ e10.g r6
      have r7 := Rl.mv _ e10.g r7
      have r8 := Rl.mv _ e10.g r8
      have s10 := s9.up e10
      have g210 : Same W2.g W10.g := ((((((e3.g.trans g4.g).trans e5.g).trans g6.g).trans e7.g).trans e8.g).trans e9.g).trans e10.g
      -- laps
      refine q_for (xs := List.range 5) (S := oK) (src_rng1 (ea_cons (ev_c (v := .int ((5 : Nat) : Int))) ea_nil) (by decide)) (fun j σ' W' => ∃ (x9 x10 x11 x12 x13 x14 x15 : Option V), σ' = [some (.ref a), some (.ref d), some vt, some v3, some v4, some v5, some v6, some v7, some v8, x9, x10, x11, x12, x13, x14, x15, x16, x17, x18, x19, x20] ∧ StW d L (300 * i + 130 + 3 * j) W') ?_ ?_ ?_
      · exact fun W11 e11 => ⟨x9, x10, x11, x12, x13, x14, x15, rfl, (s10.up e11).mono (by omega)⟩
      · rintro j jj σ' W11 W12 vl D12 hxj ⟨x9, x10, x11, x12, x13, x14, x15, rfl, s11⟩ e12 hg12 rl kn12
        have hj : j < 5 := by
          have := (List.getElem?_eq_some_iff.mp hxj).1
          rw [List.length_range] at this
          omega
        have g12 := hg12.trans e12.g
        have r4 := Rl.mv _ g12 r4
        have r6 := Rl.mv _ g12 r6
        have r7 := Rl.mv _ g12 r7
        have r8 := Rl.mv _ g12 r8
        have s12 := s11.up e12
        -- load = list(pick(state, list(tops)))
        refine q_raw (c_raw (run_pick (S := oLd) (xs := F1) (ea_cons (ev_var rfl rfl) (ea_cons (ev_lstT (K := K) (ea_cons (ev_T (ev_var rfl r7)) ea_nil)) ea_nil)) s12 (by omega) (frame_pos hF1) (by omega) fun l vv W13 hl g13 s13 rl13 => ?_))
        refine cbn_at (evn_listT (K := K) (S := fun n : Nat => oK n) (xs := l) (ea_cons (ev_cv (ld_T rl13)) ea_nil)) fun p W14 acc f14 ra => ?_
        have hlo := frame_ok hgood hF1 hl
        obtain ⟨p1, p2⟩ := s13.not f14.new
        have s14 := s13.up f14.gr
        have hll : l.length = (pairsOf b.n).length := hlo.1
        -- spot = draw(state, len(load))
        refine q_raw (run_draw (sz := l.length) (ea_cons (ev_var rfl rfl) (ea_cons (ev_imp (hid_len rfl f14) fun v H hv => by rw [ra.len] at hv; exact hv) ea_nil)) s14 (by omega) (by omega) (by omega) fun r W15 g15 s15 hr => ?_)
        have hp15 := g15.h _ _ p1 p2 f14.at_
        have gp15 := g15.hid p p1 p2 ⟨_, f14.at_, fun _ z => nomatch z⟩ f14.hid
        have ra15 := ra.up g15.g
        have eacc := Al.vals (f := fun n : Nat => V.int (n : Int)) ra
        subst eacc
        -- load[spot] = max(0, load[spot] + pick(state, [0, 1, -1, -1]))
        refine q_rawg (m_raw (op_raw (hid_ix (S := fun n : Nat => oK n) (xs := l) (k := (r : Int)) (x := l[r]) rfl (fl_nil hp15 gp15) ra15 (ev_var rfl rfl) (atN (List.getElem?_eq_getElem hr))) fun x W16 e16 rx => ?_))
        refine run_pick (S := fun z : Int => oI z) (xs := [0, 1, -1, -1]) (ea_cons (ev_var rfl rfl) (ea_cons (ev_lstM (R := fun z : Int => oI z) (xs := [0, 1, -1, -1]) (ea_cons ev_c (ea_cons ev_c (ea_cons (ev_neg ev_c) (ea_cons (ev_neg ev_c) ea_nil)))) rfl (by decide)) ea_nil)) (s15.up e16) (by omega) (by decide) (by decide) fun z vz W17 hz g17 s17 rz => ⟨(l[r] : Int), z, rx, rz, 0, (l[r] : Int) + z, rfl, ?_⟩
        have hp17 := g17.h _ _ p1 p2 (e16.h _ _ hp15)
        have gp16 := e16.hid p ⟨_, hp15, fun _ z => nomatch z⟩ gp15
        have gp17 := g17.hid p p1 p2 ⟨_, e16.h _ _ hp15, fun _ z => nomatch z⟩ gp16
        have hzr : -1 ≤ z ∧ z ≤ 1 := by
          simp only [List.mem_cons, List.not_mem_nil, or_false] at hz
          rcases hz with rfl | rfl | rfl | rfl <;> decide
        have hlr := hlo.2 l[r] (List.getElem_mem hr)
        obtain ⟨y, hy, hy20⟩ : ∃ y : Nat, (if (l[r] : Int) + z > 0 then (l[r] : Int) + z else 0) = (y : Int) ∧ y ≤ 99 := by
          refine ⟨(if (l[r] : Int) + z > 0 then (l[r] : Int) + z else 0).toNat, ?_, ?_⟩ <;> split <;> omega
        rw [hy]
        refine ⟨.ref p, rfl, .int (r : Int), rfl, p, _, r, r, rfl, rfl, hp17, by unfold ixN; rw [List.length_map, if_pos (by omega), if_pos (by omega)]; simp, ?_⟩
        have eset : (l.map fun n : Nat => V.int (n : Int)).set r (V.int (y : Int)) = (l.set r y).map fun n : Nat => V.int (n : Int) := (List.map_set).symm
        rw [eset]
        have hl99 : okLd b.n 99 (l.set r y) := ⟨by rw [List.length_set]; exact hll, fun u hu => by
          rcases List.mem_or_eq_of_mem_set hu with h | h
          · have := hlo.2 u h
            omega
          · omega⟩
        generalize l.set r y = l2 at hl99
        have s18 : StW d L _ (W17.own p (.lst (l2.map fun n : Nat => V.int (n : Int))) gp17) := s17.own p1 p2 gp17
        have hp18 : (W17.own p (.lst (l2.map fun n : Nat => V.int (n : Int))) gp17).h p = _ := upd_same
        have gp18 : (W17.own p (.lst (l2.map fun n : Nat => V.int (n : Int))) gp17).g p = none := gp17
        have g18 : Same W12.g (W17.own p (.lst (l2.map fun n : Nat => V.int (n : Int))) gp17).g := ((((g13.g.trans f14.gr.g).trans g15.g).trans e16.g).trans g17.g)
        show tSeq _ _ D12 _ (W17.own p (.lst (l2.map fun n : Nat => V.int (n : Int))) gp17).h
        generalize W17.own p (.lst (l2.map fun n : Nat => V.int (n : Int))) gp17 = W18 at s18 hp18 gp18 g18
        -- load = tuple(load)
        have g19 : Same W12.g (W18.fix p (.lst (l2.map fun n : Nat => V.int (n : Int))) hp18).g := g18.trans (same_new gp18)
        have s19 := s18.fix p1 p2 gp18 hp18
        have rl19 : (oL K (fun n : Nat => oK n) l2).is (.ref p) (W18.fix p (.lst (l2.map fun n : Nat => V.int (n : Int))) hp18).g := ⟨p, _, rfl, SqL.of upd_same, Al.ofvals⟩
        refine q_raw (c_raw ⟨.ref p, rfl, ?_⟩)
        refine cb_at (W := W18.fix p (.lst (l2.map fun n : Nat => V.int (n : Int))) hp18) (ev_tupL (K := K) (S := fun n : Nat => oK n) (xs := l2) (ea_cons (ev_cv rl19) ea_nil)) fun v9 W20 e20 r9 => ?_
        have r9 : (oLd l2).is v9 W20.g := r9
        have g20 : Same W12.g W20.g := g19.trans e20.g
        have s20 := s19.up e20
        have r4 := Rl.mv _ g20 r4
        have r6 := Rl.mv _ g20 r6
        have r7 := Rl.mv _ g20 r7
        have r8 := Rl.mv _ g20 r8
        have hitems : ∀ q ∈ [(b, F1), (bareB b ys, F2)], Item q ∧ q.1.n = b.n := fun q hq => by
          simp only [List.mem_cons, List.not_mem_nil, or_false] at hq
          rcases hq with rfl | rfl
          · exact ⟨⟨hgood, hF1⟩, rfl⟩
          · exact ⟨⟨hgb, hF2⟩, rfl⟩
        refine q_for (xs := [(b, F1), (bareB b ys, F2)]) (S := oItem K C) (src_list (ev_L (ev_lstM (R := oItem K C) (xs := [(b, F1), (bareB b ys, F2)]) (ea_cons (ev_tup (ea_cons (ev_var rfl r4) (ea_cons (ev_var rfl r7) ea_nil)) (show 2 ≤ 1000000 by decide)) (ea_cons (ev_tup (ea_cons (ev_var rfl r6) (ea_cons (ev_var rfl r8) ea_nil)) (show 2 ≤ 1000000 by decide)) ea_nil)) rfl (show 2 ≤ 1000000 by decide))))
          (fun m σ' W' => ∃ (x12 x13 x14 x15 : Option V), σ' = [some (.ref a), some (.ref d), some vt, some v3, some v4, some v5, some v6, some v7, some v8, some v9, some vl, some (.int (r : Int)), x12, x13, x14, x15, x16, x17, x18, x19, x20] ∧ StW d L (300 * i + 130 + 3 * (j + 1)) W') ?_ ?_ ?_
        · exact fun W21 e21 => ⟨x12, x13, x14, x15, rfl, (s20.up e21).mono (by omega)⟩
        · rintro m q σ' W21 W22 vq D22 hxq ⟨x12, x13, x14, x15, rfl, s21⟩ e22 hg22 rq kn22
          obtain ⟨⟨hq, hfq⟩, hqn⟩ := hitems q (List.mem_of_getElem? hxq)
          refine g_names (A := oBox K C q.1) (B := oU oLd q.2) (oU_T rq) fun v12 v13 r12 r13 => ?_
          have r9 := Rl.mv _ (hg22.trans e22.g) r9
          have s22 := s21.up e22
          have hql : okLd q.1.n 99 l2 := by
            rw [hqn]
            exact hl99
          have hfl := frame_few hq hfq
          have hl2 : l2.length ≤ 1000 := by
            have := hl99.1
            omega
          have hcar := carried_iff hq.toBoOk hfq hql.1
          by_cases hc : Carried q.1 l2
          · refine q_par (ea_cons (ev_call (ea_cons (ev_var rfl r12) (ea_cons (ev_imp (ev_var rfl r9) fun _ _ => ld_X (K := K)) ea_nil)) (Φ_way_for.yes q.1 hq l2 hql hc)) (ea_cons (ev_call (ea_cons (ev_var rfl r12) (ea_cons (ev_imp (ev_var rfl r9) fun _ _ => ld_X (K := K)) ea_nil)) (Φ_bar.no q.1 hq l2 hql hc)) ea_nil)) fun v14 v15 W23 e23 ⟨wy, ⟨hw1, hw2⟩, r14⟩ r15 => ?_
            have hnn : ∀ v H, (oX K wy).is v H → v ≠ .non := fun v H h e => by
              obtain ⟨_, e'⟩ := X_ref h
              rw [e'] at e
              cases e
            have r9 := Rl.mv _ e23.g r9
            have r12 := Rl.mv _ e23.g r12
            have r13 := Rl.mv _ e23.g r13
            refine q_not (eb_test (ev_neV (x := .bl false) (y := .bl false) (ev_isN (b := false) (ev_var rfl r14) (fun v H h => decide_eq_false (hnn v H h)) ev_c) (ev_notN (b := false) (ev_var (R := oN) rfl r15) (fun v H h => by rw [show v = .non from h]; rfl) ev_c) rfl rfl)) fun W24 e24 => ?_
            refine q_not (eb_test (ev_neV (x := .bl true) (y := .bl true) (ev_notN (b := true) (ev_var rfl (Rl.mv _ e24.g r14)) (fun v H h => by rw [decide_eq_false (hnn v H h)]; rfl) ev_c) (Ev.val (ev_call (ea_cons (ev_imp (ev_var rfl (Rl.mv _ e24.g r9)) fun _ _ => ld_X (K := K)) (ea_cons (ev_var rfl (Rl.mv _ e24.g r13)) ea_nil)) (Φ_law_is_of.mk l2 q.2 hl2 (by omega))) (congrArg V.bl (hcar.mpr hc))) rfl rfl)) fun W25 e25 => ?_
            have e35 := e24.trans e25
            refine q_not (eb_test (ev_neV (x := .bl true) (y := .bl true) (ev_call (ea_cons (ev_var rfl (Rl.mv _ e35.g r12)) (ea_cons (ev_imp (ev_var rfl (Rl.mv _ e35.g r9)) fun _ _ => ld_X (K := K)) (ea_cons (ev_var rfl (Rl.mv _ e35.g r14)) ea_nil))) (Φ_is_way_for.yes q.1 hq.toBoOk l2 hql wy hw1 hw2)) (ev_notN (b := true) (ev_var rfl (Rl.mv _ e35.g r14)) (fun v H h => by rw [decide_eq_false (hnn v H h)]; rfl) ev_c) rfl rfl)) fun W26 e26 => ?_
            have e36 := e35.trans e26
            refine s_not (eb_test (ev_neV (x := .bl false) (y := .bl false) (ev_call (ea_cons (ev_var rfl (Rl.mv _ e36.g r12)) (ea_cons (ev_imp (ev_var rfl (Rl.mv _ e36.g r9)) fun _ _ => ld_X (K := K)) (ea_cons (ev_var (R := oN) rfl r15) ea_nil))) (Φ_is_bar.no q.1 hq l2 hql)) (ev_notN (b := false) (ev_var (R := oN) rfl r15) (fun v H h => by rw [show v = .non from h]; rfl) ev_c) rfl rfl)) fun W27 e27 => ?_
            exact kn22 _ W27 (((e22.g.trans e23.g).trans e36.g).trans e27.g) ⟨_, _, _, _, rfl, ((s22.up e23).up e36).up e27⟩
          · have hany : q.2.any (below l2) = false := by
              cases ha : q.2.any (below l2) with
              | false => rfl
              | true => exact absurd (hcar.mp ha) hc
            refine q_par (ea_cons (ev_call (ea_cons (ev_var rfl r12) (ea_cons (ev_imp (ev_var rfl r9) fun _ _ => ld_X (K := K)) ea_nil)) (Φ_way_for.no q.1 hq l2 hql hc)) (ea_cons (ev_call (ea_cons (ev_var rfl r12) (ea_cons (ev_imp (ev_var rfl r9) fun _ _ => ld_X (K := K)) ea_nil)) (Φ_bar.yes q.1 hq l2 hql hc)) ea_nil)) fun v14 v15 W23 e23 r14 ⟨sums, hbar, r15⟩ => ?_
            have hnn : ∀ v H, (oM (fun F => oM oLd F) sums).is v H → v ≠ .non := fun v H h e => by
              obtain ⟨_, _, e', _⟩ := h
              rw [e'] at e
              cases e
            have r9 := Rl.mv _ e23.g r9
            have r12 := Rl.mv _ e23.g r12
            have r13 := Rl.mv _ e23.g r13
            refine q_not (eb_test (ev_neV (x := .bl true) (y := .bl true) (ev_isN (b := true) (ev_var (R := oN) rfl r14) (fun v H h => by rw [show v = .non from h]; rfl) ev_c) (ev_notN (b := true) (ev_var rfl r15) (fun v H h => by rw [decide_eq_false (hnn v H h)]; rfl) ev_c) rfl rfl)) fun W24 e24 => ?_
            refine q_not (eb_test (ev_neV (x := .bl false) (y := .bl false) (ev_notN (b := false) (ev_var (R := oN) rfl r14) (fun v H h => by rw [show v = .non from h]; rfl) ev_c) (Ev.val (ev_call (ea_cons (ev_imp (ev_var rfl (Rl.mv _ e24.g r9)) fun _ _ => ld_X (K := K)) (ea_cons (ev_var rfl (Rl.mv _ e24.g r13)) ea_nil)) (Φ_law_is_of.mk l2 q.2 hl2 (by omega))) (congrArg V.bl hany)) rfl rfl)) fun W25 e25 => ?_
            have e35 := e24.trans e25
            refine q_not (eb_test (ev_neV (x := .bl false) (y := .bl false) (ev_call (ea_cons (ev_var rfl (Rl.mv _ e35.g r12)) (ea_cons (ev_imp (ev_var rfl (Rl.mv _ e35.g r9)) fun _ _ => ld_X (K := K)) (ea_cons (ev_var (R := oN) rfl r14) ea_nil))) (Φ_is_way_for.no q.1 hq.toBoOk l2 hql)) (ev_notN (b := false) (ev_var (R := oN) rfl r14) (fun v H h => by rw [show v = .non from h]; rfl) ev_c) rfl rfl)) fun W26 e26 => ?_
            have e36 := e35.trans e26
            refine s_not (eb_test (ev_neV (x := .bl true) (y := .bl true) (ev_call (ea_cons (ev_var rfl (Rl.mv _ e36.g r12)) (ea_cons (ev_imp (ev_var rfl (Rl.mv _ e36.g r9)) fun _ _ => ld_X (K := K)) (ea_cons (ev_var rfl (Rl.mv _ e36.g r15)) ea_nil))) (Φ_is_bar.yes q.1 hq l2 hql sums hbar)) (ev_notN (b := true) (ev_var rfl (Rl.mv _ e36.g r15)) (fun v H h => by rw [decide_eq_false (hnn v H h)]; rfl) ev_c) rfl rfl)) fun W27 e27 => ?_
            exact kn22 _ W27 (((e22.g.trans e23.g).trans e36.g).trans e27.g) ⟨_, _, _, _, rfl, ((s22.up e23).up e36).up e27⟩
        · rintro σ' W21 hg21 ⟨x12, x13, x14, x15, rfl, s21⟩
          have r9 := Rl.mv _ hg21 r9
          have r4 := Rl.mv _ hg21 r4
          have r6 := Rl.mv _ hg21 r6
          have gend : ∀ W22, Gr W21 W22 → Same W11.g W22.g := fun W22 e => ((e12.g.trans g20).trans hg21).trans e.g
          have hlb : okLd (bareB b ys).n 99 l2 := hl99
          by_cases hc : Carried (bareB b ys) l2
          · refine s_not (eb_and (a := true) (b := false) (eb_test (ev_notN (b := true) (ev_call (ea_cons (ev_var rfl r6) (ea_cons (ev_imp (ev_var rfl r9) fun _ _ => ld_X (K := K)) ea_nil)) (Φ_way_for.yes _ hgb l2 hlb hc)) (fun v H ⟨wy, _, h⟩ => by
              obtain ⟨_, e'⟩ := X_ref h
              rw [e']
              rfl) ev_c)) fun _ => eb_test (Ev.val (ev_notB (a := true) (b := true) (ev_imp (ev_callX (P := fun wy => WayOf (bareB b ys) wy ∧ loadOf (bareB b ys).n wy = l2) (Rr := fun _ => oB true) (As' := fun wy => [oBox K C b, oX K l2, oX K wy]) (ea_cons (ev_var rfl r4) (ea_cons (ev_imp (ev_var rfl r9) fun _ _ => ld_X (K := K)) (ea_cons (ev_call (ea_cons (ev_var rfl r6) (ea_cons (ev_imp (ev_var rfl r9) fun _ _ => ld_X (K := K)) ea_nil)) (Φ_way_for.yes _ hgb l2 hlb hc)) ea_nil))) (fun vs H h => ?_) fun wy hwy => Φ_is_way_for.yes b hb.ok l2 hl99 wy (way_bare hwy.1) hwy.2) fun v H ⟨_, _, h⟩ => h) ev_c) rfl)) fun W22 e22 => kn12 _ W22 (gend W22 e22) ⟨_, _, _, _, _, _, _, rfl, s21.up e22⟩
            obtain ⟨x, y, z, rfl, hx, hy, wy, hwy, hz⟩ := three_args h
            exact ⟨wy, hwy, hx, hy, hz, trivial⟩
          · exact s_not (eb_and (a := false) (b := false) (eb_test (ev_notN (b := false) (ev_call (ea_cons (ev_var rfl r6) (ea_cons (ev_imp (ev_var rfl r9) fun _ _ => ld_X (K := K)) ea_nil)) (Φ_way_for.no _ hgb l2 hlb hc)) (fun v H h => by rw [show v = .non from h]; rfl) ev_c)) fun z => nomatch z) fun W22 e22 => kn12 _ W22 (gend W22 e22) ⟨_, _, _, _, _, _, _, rfl, s21.up e22⟩
      · rintro σ' W11 hg11 ⟨x9, x10, x11, x12, x13, x14, x15, rfl, s11⟩
        rw [List.length_range] at s11
        have r4 := Rl.mv _ hg11 r4
        have r6 := Rl.mv _ hg11 r6
        have r7 := Rl.mv _ hg11 r7
        have r8 := Rl.mv _ hg11 r8
        have gend : ∀ W12 : Hw, Same W11.g W12.g → Same W2.g W12.g := fun W12 e => (g210.trans hg11).trans e
        refine s_if (b := decide (b.t < 3)) (eb_test (Ev.val (ev_i0 (ev_tracks T (ev_var rfl r4)) ev_c) (congrArg V.bl (decide_eq_decide.mpr ⟨fun h => by omega, fun h => by omega⟩)))) (fun hc W12 e12 => ?_) fun hc W12 e12 => ?_
        · have ht3 := of_decide_eq_true hc
          have r4 := Rl.mv _ e12.g r4
          have r6 := Rl.mv _ e12.g r6
          have r7 := Rl.mv _ e12.g r7
          have r8 := Rl.mv _ e12.g r8
          have s12 := s11.up e12
          have hboth := good_both hb ht3 ys
          have hbl := bare_len b ys
          -- both
          refine q_set (ev_call (ea_cons (ev_var rfl r4) (ea_cons (ev_var rfl r6) ea_nil)) (Φ_beside.mk b (bareB b ys) hb.ok (bare_ok hb.ok ys) rfl (by show b.t + b.t ≤ 6; omega) (by omega))) fun v16 W13 e13 r16 => ?_
          have r7 := Rl.mv _ e13.g r7
          have r8 := Rl.mv _ e13.g r8
          have s13 := s12.up e13
          -- one, other
          refine p_raw (run_pick (S := oLd) (xs := F1) (ea_cons (ev_var rfl rfl) (ea_cons (ev_lstT (K := K) (ea_cons (ev_T (ev_var rfl r7)) ea_nil)) ea_nil)) s13 (by omega) (frame_pos hF1) (by omega) fun l1 v17 W14 hm1 g14 s14 r17 => ?_)
          have r8 := Rl.mv _ g14.g r8
          refine run_pick (S := oLd) (xs := F2) (ea_cons (ev_var rfl rfl) (ea_cons (ev_lstT (K := K) (ea_cons (ev_T (ev_var rfl r8)) ea_nil)) ea_nil)) s14 (by omega) (frame_pos hF2) (by omega) fun l2 v18 W15 hm2 g15 s15 r18 => ⟨v17, v18, rfl, ?_⟩
          have r17 := Rl.mv _ g15.g r17
          have r16 := Rl.mv _ (g14.g.trans g15.g) r16
          have ho1 := frame_ok hgood hF1 hm1
          have ho2 := frame_ok hgb hF2 hm2
          have ho2l : l2.length = (pairsOf b.n).length := ho2.1
          have hcar := carried_both (a := b) (c := bareB b ys) hb.ok rfl hF1 hF2 hm1 hm2
          have hal : (addL l1 l2).length = (pairsOf b.n).length := (addL_len (ho1.1.trans ho2l.symm)).trans ho1.1
          have hl99 : okLd b.n 99 (addL l1 l2) := ⟨hal, fun x hx => by
            unfold addL at hx
            obtain ⟨⟨x1, x2⟩, hxx, rfl⟩ := List.mem_map.mp hx
            have h1 := ho1.2 x1 (List.of_mem_zip hxx).1
            have h2 := ho2.2 x2 (List.of_mem_zip hxx).2
            show x1 + x2 ≤ 99
            omega⟩
          -- sum
          show tSeq _ _ D' [some (.ref a), some (.ref d), some vt, some v3, some v4, some v5, some v6, some v7, some v8, x9, x10, x11, x12, x13, x14, x15, some v16, some v17, some v18, x19, x20] W15.h
          refine q_set (R := oLd (addL l1 l2)) (ev_imp (ev_tupL (K := K) (S := fun p : Nat × Nat => oK (p.1 + p.2)) (ea_cons (ev_L (ev_lcPA (K := K) (xs := l1.zip l2) (fun p : Nat × Nat => oK (p.1 + p.2)) (src_zipT (ea_cons (ev_imp (ev_var rfl r17) fun _ _ => ld_T) (ea_cons (ev_imp (ev_var rfl r18) fun _ _ => ld_T) ea_nil))) (by rw [List.length_zip]; have := ho1.1; omega) (fun _ _ => rfl) fun p hp W1' v u e r1 r2 => ev_i0 (ev_var rfl r1) (ev_var rfl r2))) ea_nil)) fun v H h => (oU_map (fun p : Nat × Nat => p.1 + p.2)).mpr h) fun v19 W16 e16 r19 => ?_
          have r16 := Rl.mv _ e16.g r16
          have s16 := s15.up e16
          generalize addL l1 l2 = l3 at hcar hal hl99 r19
          refine q_not (eb_test (Ev.val (ev_notB (a := true) (b := true) (ev_imp (ev_callX (P := fun wy => WayOf (besideB b (bareB b ys)) wy ∧ loadOf (besideB b (bareB b ys)).n wy = l3) (Rr := fun _ => oB true) (As' := fun wy => [oBox K C (besideB b (bareB b ys)), oX K l3, oX K wy]) (ea_cons (ev_var rfl r16) (ea_cons (ev_imp (ev_var rfl r19) fun _ _ => ld_X (K := K)) (ea_cons (ev_call (ea_cons (ev_var rfl r16) (ea_cons (ev_imp (ev_var rfl r19) fun _ _ => ld_X (K := K)) ea_nil)) (Φ_way_for.yes _ hboth l3 hl99 hcar)) ea_nil))) (fun vs H h => ?_) fun wy hwy => Φ_is_way_for.yes _ hboth.toBoOk l3 hl99 wy hwy.1 hwy.2) fun v H ⟨_, _, h⟩ => h) ev_c) rfl)) fun W17 e17 => ?_
          · obtain ⟨x, y, z, rfl, hx, hy, wy, hwy, hz⟩ := three_args h
            exact ⟨wy, hwy, hx, hy, hz, trivial⟩
          refine s_not (eb_not (a := true) (eb_B (ev_imp (ev_callX (P := FrameOk (besideB b (bareB b ys))) (Rr := fun _ => oB true) (As' := fun F => [oX K l3, oU oLd F]) (ea_cons (ev_imp (ev_var rfl (Rl.mv _ e17.g r19)) fun _ _ => ld_X (K := K)) (ea_cons (ev_call (ea_cons (ev_var rfl (Rl.mv _ e17.g r16)) ea_nil) (Φ_box_frame.mk _ hboth)) ea_nil)) (fun vs H h => ?_) fun F hF => ?_) fun v H ⟨_, _, h⟩ => h))) fun W18 e18 => kn _ W18 (gend W18 ((((((e12.g.trans e13.g).trans g14.g).trans g15.g).trans e16.g).trans e17.g).trans e18.g)) ⟨_, _, _, _, _, _, _, _, _, _, _, _, _, _, _, _, _, _, _, rfl, ((s16.up e17).up e18).mono (by omega)⟩
          · obtain ⟨x, y, rfl, hx, F, hF, hy⟩ := two_args h
            exact ⟨F, hF, hx, hy, trivial⟩
          · have hany := (carried_iff hboth.toBoOk hF hal).mpr hcar
            have := Φ_law_is_of.mk (K := K) (C := C) l3 F (by omega) (by have := frame_few hboth hF; omega)
            rw [hany] at this
            exact this
        · exact kn _ W12 (gend W12 e12.g) ⟨_, _, _, _, _, _, _, _, _, _, _, _, _, _, _, _, _, _, _, rfl, (s11.up e12).mono (by omega)⟩
    · rintro σ' W2 hg ⟨x2, x3, x4, x5, x6, x7, x8, x9, x10, x11, x12, x13, x14, x15, x16, x17, x18, x19, x20, rfl, s2⟩
      exact s_ret (R := oB true) ev_c fun v W3 e3 r => by
        have r : v = .bl true := r
        rw [r]
        exact k _
end Bx

set_option Elab.async false
set_option linter.all false
set_option maxRecDepth 100000
set_option maxHeartbeats 4000000
set_option autoImplicit false
/-! what the top has written; the walk -/
namespace Bx
open PySem L2
theorem df_mk {h : Heap} {K : PySem.W.Frag} {mg : Str → Option Value} {x qual : Str} {st : Stmt} {ps : List Str} {f : Addr} {oc : Value} {od an : Option Addr} {osl : Array (Option Value)} {kV doc pm cdv ct : Value} (X : K.In h) (G : h.Ns mainGlobals mg)
    (a : PySem.W.nsIn K mainGlobals x = some (some (.ref f))) (l : K.lookup f = some ⟨oc, od, .func (PySem.W.fnOf x qual (defArgs st) (defBody st) (defScope st) .none kV doc pm an cdv ct), osl⟩)
    (c : PySem.W.codeIn K cdv qual = true) (k : PySem.W.keepIn K (.ref f) = true)
    (hb : ∀ (kV doc pm : Value) (an : Option Addr) (cdv ct : Value) (us : List Value), us.length = ps.length → bindArgs (PySem.W.fnOf x qual (defArgs st) (defBody st) (defScope st) .none kV doc pm an cdv ct) ⟨us, []⟩ = pure (ps.zip us)) : Df K mg x qual st ps :=
  ⟨f, _, fun_mk (st := st) l c k, PySem.W.mg_of X G a, (fun_mk (st := st) l c k).binds hb⟩
theorem no_attr {K : PySem.W.Frag} {C : Addr} {f : Str} (h : PySem.W.findIn K (.ref C) f = some none) : NoAttr K C f := h
theorem kit_self (K : PySem.W.Frag) (C : Addr) : PySem.W.kitOne K (.ref C) (.ref C) = some true := by
  unfold PySem.W.kitOne
  rw [if_pos (beq_iff_eq.mpr rfl)]
theorem cst_mk {h : Heap} {K : PySem.W.Frag} {mg : Str → Option Value} {x : Str} {i : Int} {t : Tok} (X : K.In h) (G : h.Ns mainGlobals mg) (a : PySem.W.nsIn K mainGlobals x = some (some (.int i t))) : Cst mg x i := ⟨_, PySem.W.mg_of X G a, ⟨t, rfl⟩⟩
theorem hb_law_begun : ∀ (kV doc pm : Value) (an : Option Addr) (cdv ct : Value) (us : List Value), us.length = ["_law_script"].length → bindArgs (PySem.W.fnOf "_law_begun" "_law_begun" (defArgs s_law_begun) (defBody s_law_begun) (defScope s_law_begun) .none kV doc pm an cdv ct) ⟨us, []⟩ = pure ([("_law_script" : Str)].zip us) := fun _ _ _ _ _ _ us hl => match us, hl with | [_], _ => rfl
theorem hb_law_draw : ∀ (kV doc pm : Value) (an : Option Addr) (cdv ct : Value) (us : List Value), us.length = ["_law_state", "_law_size_here"].length → bindArgs (PySem.W.fnOf "_law_draw" "_law_draw" (defArgs s_law_draw) (defBody s_law_draw) (defScope s_law_draw) .none kV doc pm an cdv ct) ⟨us, []⟩ = pure ([("_law_state" : Str), ("_law_size_here" : Str)].zip us) := fun _ _ _ _ _ _ us hl => match us, hl with | [_, _], _ => rfl
theorem hb_law_pick : ∀ (kV doc pm : Value) (an : Option Addr) (cdv ct : Value) (us : List Value), us.length = ["_law_state", "_law_several"].length → bindArgs (PySem.W.fnOf "_law_pick" "_law_pick" (defArgs s_law_pick) (defBody s_law_pick) (defScope s_law_pick) .none kV doc pm an cdv ct) ⟨us, []⟩ = pure ([("_law_state" : Str), ("_law_several" : Str)].zip us) := fun _ _ _ _ _ _ us hl => match us, hl with | [_, _], _ => rfl
theorem hb_law_pairs : ∀ (kV doc pm : Value) (an : Option Addr) (cdv ct : Value) (us : List Value), us.length = ["_law_sides_here"].length → bindArgs (PySem.W.fnOf "_law_pairs" "_law_pairs" (defArgs s_law_pairs) (defBody s_law_pairs) (defScope s_law_pairs) .none kV doc pm an cdv ct) ⟨us, []⟩ = pure ([("_law_sides_here" : Str)].zip us) := fun _ _ _ _ _ _ us hl => match us, hl with | [_], _ => rfl
theorem hb_law_mate : ∀ (kV doc pm : Value) (an : Option Addr) (cdv ct : Value) (us : List Value), us.length = ["_law_track", "_law_many"].length → bindArgs (PySem.W.fnOf "_law_mate" "_law_mate" (defArgs s_law_mate) (defBody s_law_mate) (defScope s_law_mate) .none kV doc pm an cdv ct) ⟨us, []⟩ = pure ([("_law_track" : Str), ("_law_many" : Str)].zip us) := fun _ _ _ _ _ _ us hl => match us, hl with | [_, _], _ => rfl
theorem hb_law_joined : ∀ (kV doc pm : Value) (an : Option Addr) (cdv ct : Value) (us : List Value), us.length = ["_law_sides_here", "_law_many", "_law_fashion"].length → bindArgs (PySem.W.fnOf "_law_joined" "_law_joined" (defArgs s_law_joined) (defBody s_law_joined) (defScope s_law_joined) .none kV doc pm an cdv ct) ⟨us, []⟩ = pure ([("_law_sides_here" : Str), ("_law_many" : Str), ("_law_fashion" : Str)].zip us) := fun _ _ _ _ _ _ us hl => match us, hl with | [_, _, _], _ => rfl
theorem hb_law_mixed : ∀ (kV doc pm : Value) (an : Option Addr) (cdv ct : Value) (us : List Value), us.length = ["_law_state", "_law_several"].length → bindArgs (PySem.W.fnOf "_law_mixed" "_law_mixed" (defArgs s_law_mixed) (defBody s_law_mixed) (defScope s_law_mixed) .none kV doc pm an cdv ct) ⟨us, []⟩ = pure ([("_law_state" : Str), ("_law_several" : Str)].zip us) := fun _ _ _ _ _ _ us hl => match us, hl with | [_, _], _ => rfl
theorem hb_law_scope : ∀ (kV doc pm : Value) (an : Option Addr) (cdv ct : Value) (us : List Value), us.length = ["_law_state", "_law_most"].length → bindArgs (PySem.W.fnOf "_law_scope" "_law_scope" (defArgs s_law_scope) (defBody s_law_scope) (defScope s_law_scope) .none kV doc pm an cdv ct) ⟨us, []⟩ = pure ([("_law_state" : Str), ("_law_most" : Str)].zip us) := fun _ _ _ _ _ _ us hl => match us, hl with | [_, _], _ => rfl
theorem hb_is_number : ∀ (kV doc pm : Value) (an : Option Addr) (cdv ct : Value) (us : List Value), us.length = ["thing"].length → bindArgs (PySem.W.fnOf "is_number" "is_number" (defArgs s_is_number) (defBody s_is_number) (defScope s_is_number) .none kV doc pm an cdv ct) ⟨us, []⟩ = pure ([("thing" : Str)].zip us) := fun _ _ _ _ _ _ us hl => match us, hl with | [_], _ => rfl
theorem hb_is_between : ∀ (kV doc pm : Value) (an : Option Addr) (cdv ct : Value) (us : List Value), us.length = ["thing", "low", "high"].length → bindArgs (PySem.W.fnOf "is_between" "is_between" (defArgs s_is_between) (defBody s_is_between) (defScope s_is_between) .none kV doc pm an cdv ct) ⟨us, []⟩ = pure ([("thing" : Str), ("low" : Str), ("high" : Str)].zip us) := fun _ _ _ _ _ _ us hl => match us, hl with | [_, _, _], _ => rfl
theorem hb_need_sides : ∀ (kV doc pm : Value) (an : Option Addr) (cdv ct : Value) (us : List Value), us.length = ["sides"].length → bindArgs (PySem.W.fnOf "need_sides" "need_sides" (defArgs s_need_sides) (defBody s_need_sides) (defScope s_need_sides) .none kV doc pm an cdv ct) ⟨us, []⟩ = pure ([("sides" : Str)].zip us) := fun _ _ _ _ _ _ us hl => match us, hl with | [_], _ => rfl
theorem hb_need_tracks : ∀ (kV doc pm : Value) (an : Option Addr) (cdv ct : Value) (us : List Value), us.length = ["tracks"].length → bindArgs (PySem.W.fnOf "need_tracks" "need_tracks" (defArgs s_need_tracks) (defBody s_need_tracks) (defScope s_need_tracks) .none kV doc pm an cdv ct) ⟨us, []⟩ = pure ([("tracks" : Str)].zip us) := fun _ _ _ _ _ _ us hl => match us, hl with | [_], _ => rfl
theorem hb_is_pin : ∀ (kV doc pm : Value) (an : Option Addr) (cdv ct : Value) (us : List Value), us.length = ["thing", "sides", "tracks"].length → bindArgs (PySem.W.fnOf "is_pin" "is_pin" (defArgs s_is_pin) (defBody s_is_pin) (defScope s_is_pin) .none kV doc pm an cdv ct) ⟨us, []⟩ = pure ([("thing" : Str), ("sides" : Str), ("tracks" : Str)].zip us) := fun _ _ _ _ _ _ us hl => match us, hl with | [_, _, _], _ => rfl
theorem hb_is_switch : ∀ (kV doc pm : Value) (an : Option Addr) (cdv ct : Value) (us : List Value), us.length = ["thing", "sides", "tracks"].length → bindArgs (PySem.W.fnOf "is_switch" "is_switch" (defArgs s_is_switch) (defBody s_is_switch) (defScope s_is_switch) .none kV doc pm an cdv ct) ⟨us, []⟩ = pure ([("thing" : Str), ("sides" : Str), ("tracks" : Str)].zip us) := fun _ _ _ _ _ _ us hl => match us, hl with | [_, _, _], _ => rfl
theorem hb_is_rising : ∀ (kV doc pm : Value) (an : Option Addr) (cdv ct : Value) (us : List Value), us.length = ["row"].length → bindArgs (PySem.W.fnOf "is_rising" "is_rising" (defArgs s_is_rising) (defBody s_is_rising) (defScope s_is_rising) .none kV doc pm an cdv ct) ⟨us, []⟩ = pure ([("row" : Str)].zip us) := fun _ _ _ _ _ _ us hl => match us, hl with | [_], _ => rfl
theorem hb_box_init : ∀ (kV doc pm : Value) (an : Option Addr) (cdv ct : Value) (us : List Value), us.length = ["self", "sides", "tracks", "switches"].length → bindArgs (PySem.W.fnOf "__init__" "Box.__init__" (defArgs s_box_init) (defBody s_box_init) (defScope s_box_init) .none kV doc pm an cdv ct) ⟨us, []⟩ = pure ([("self" : Str), ("sides" : Str), ("tracks" : Str), ("switches" : Str)].zip us) := fun _ _ _ _ _ _ us hl => match us, hl with | [_, _, _, _], _ => rfl
theorem hb_law_made : ∀ (kV doc pm : Value) (an : Option Addr) (cdv ct : Value) (us : List Value), us.length = ["_law_scope_here"].length → bindArgs (PySem.W.fnOf "_law_made" "_law_made" (defArgs s_law_made) (defBody s_law_made) (defScope s_law_made) .none kV doc pm an cdv ct) ⟨us, []⟩ = pure ([("_law_scope_here" : Str)].zip us) := fun _ _ _ _ _ _ us hl => match us, hl with | [_], _ => rfl
theorem hb_law_few : ∀ (kV doc pm : Value) (an : Option Addr) (cdv ct : Value) (us : List Value), us.length = ["_law_state", "_law_several", "_law_most"].length → bindArgs (PySem.W.fnOf "_law_few" "_law_few" (defArgs s_law_few) (defBody s_law_few) (defScope s_law_few) .none kV doc pm an cdv ct) ⟨us, []⟩ = pure ([("_law_state" : Str), ("_law_several" : Str), ("_law_most" : Str)].zip us) := fun _ _ _ _ _ _ us hl => match us, hl with | [_, _, _], _ => rfl
theorem hb_need_box : ∀ (kV doc pm : Value) (an : Option Addr) (cdv ct : Value) (us : List Value), us.length = ["box"].length → bindArgs (PySem.W.fnOf "need_box" "need_box" (defArgs s_need_box) (defBody s_need_box) (defScope s_need_box) .none kV doc pm an cdv ct) ⟨us, []⟩ = pure ([("box" : Str)].zip us) := fun _ _ _ _ _ _ us hl => match us, hl with | [_], _ => rfl
theorem hb_is_gone : ∀ (kV doc pm : Value) (an : Option Addr) (cdv ct : Value) (us : List Value), us.length = ["box", "thing"].length → bindArgs (PySem.W.fnOf "is_gone" "is_gone" (defArgs s_is_gone) (defBody s_is_gone) (defScope s_is_gone) .none kV doc pm an cdv ct) ⟨us, []⟩ = pure ([("box" : Str), ("thing" : Str)].zip us) := fun _ _ _ _ _ _ us hl => match us, hl with | [_, _], _ => rfl
theorem hb_bare_of : ∀ (kV doc pm : Value) (an : Option Addr) (cdv ct : Value) (us : List Value), us.length = ["box", "gone"].length → bindArgs (PySem.W.fnOf "bare_of" "bare_of" (defArgs s_bare_of) (defBody s_bare_of) (defScope s_bare_of) .none kV doc pm an cdv ct) ⟨us, []⟩ = pure ([("box" : Str), ("gone" : Str)].zip us) := fun _ _ _ _ _ _ us hl => match us, hl with | [_, _], _ => rfl
theorem hb_without : ∀ (kV doc pm : Value) (an : Option Addr) (cdv ct : Value) (us : List Value), us.length = ["box", "gone"].length → bindArgs (PySem.W.fnOf "without" "without" (defArgs s_without) (defBody s_without) (defScope s_without) .none kV doc pm an cdv ct) ⟨us, []⟩ = pure ([("box" : Str), ("gone" : Str)].zip us) := fun _ _ _ _ _ _ us hl => match us, hl with | [_, _], _ => rfl
theorem hb_pieces_of : ∀ (kV doc pm : Value) (an : Option Addr) (cdv ct : Value) (us : List Value), us.length = ["box"].length → bindArgs (PySem.W.fnOf "pieces_of" "pieces_of" (defArgs s_pieces_of) (defBody s_pieces_of) (defScope s_pieces_of) .none kV doc pm an cdv ct) ⟨us, []⟩ = pure ([("box" : Str)].zip us) := fun _ _ _ _ _ _ us hl => match us, hl with | [_], _ => rfl
theorem hb_switches_in : ∀ (kV doc pm : Value) (an : Option Addr) (cdv ct : Value) (us : List Value), us.length = ["box", "piece"].length → bindArgs (PySem.W.fnOf "switches_in" "switches_in" (defArgs s_switches_in) (defBody s_switches_in) (defScope s_switches_in) .none kV doc pm an cdv ct) ⟨us, []⟩ = pure ([("box" : Str), ("piece" : Str)].zip us) := fun _ _ _ _ _ _ us hl => match us, hl with | [_, _], _ => rfl
theorem hb_pins_of : ∀ (kV doc pm : Value) (an : Option Addr) (cdv ct : Value) (us : List Value), us.length = ["way"].length → bindArgs (PySem.W.fnOf "pins_of" "pins_of" (defArgs s_pins_of) (defBody s_pins_of) (defScope s_pins_of) .none kV doc pm an cdv ct) ⟨us, []⟩ = pure ([("way" : Str)].zip us) := fun _ _ _ _ _ _ us hl => match us, hl with | [_], _ => rfl
theorem hb_ways_in : ∀ (kV doc pm : Value) (an : Option Addr) (cdv ct : Value) (us : List Value), us.length = ["switches"].length → bindArgs (PySem.W.fnOf "ways_in" "ways_in" (defArgs s_ways_in) (defBody s_ways_in) (defScope s_ways_in) .none kV doc pm an cdv ct) ⟨us, []⟩ = pure ([("switches" : Str)].zip us) := fun _ _ _ _ _ _ us hl => match us, hl with | [_], _ => rfl
theorem hb_sides_of : ∀ (kV doc pm : Value) (an : Option Addr) (cdv ct : Value) (us : List Value), us.length = ["switch"].length → bindArgs (PySem.W.fnOf "sides_of" "sides_of" (defArgs s_sides_of) (defBody s_sides_of) (defScope s_sides_of) .none kV doc pm an cdv ct) ⟨us, []⟩ = pure ([("switch" : Str)].zip us) := fun _ _ _ _ _ _ us hl => match us, hl with | [_], _ => rfl
theorem hb_pairs_of : ∀ (kV doc pm : Value) (an : Option Addr) (cdv ct : Value) (us : List Value), us.length = ["sides"].length → bindArgs (PySem.W.fnOf "pairs_of" "pairs_of" (defArgs s_pairs_of) (defBody s_pairs_of) (defScope s_pairs_of) .none kV doc pm an cdv ct) ⟨us, []⟩ = pure ([("sides" : Str)].zip us) := fun _ _ _ _ _ _ us hl => match us, hl with | [_], _ => rfl
theorem hb_load_of : ∀ (kV doc pm : Value) (an : Option Addr) (cdv ct : Value) (us : List Value), us.length = ["sides", "way"].length → bindArgs (PySem.W.fnOf "load_of" "load_of" (defArgs s_load_of) (defBody s_load_of) (defScope s_load_of) .none kV doc pm an cdv ct) ⟨us, []⟩ = pure ([("sides" : Str), ("way" : Str)].zip us) := fun _ _ _ _ _ _ us hl => match us, hl with | [_, _], _ => rfl
theorem hb_is_below : ∀ (kV doc pm : Value) (an : Option Addr) (cdv ct : Value) (us : List Value), us.length = ["load", "other"].length → bindArgs (PySem.W.fnOf "is_below" "is_below" (defArgs s_is_below) (defBody s_is_below) (defScope s_is_below) .none kV doc pm an cdv ct) ⟨us, []⟩ = pure ([("load" : Str), ("other" : Str)].zip us) := fun _ _ _ _ _ _ us hl => match us, hl with | [_, _], _ => rfl
theorem hb_is_of : ∀ (kV doc pm : Value) (an : Option Addr) (cdv ct : Value) (us : List Value), us.length = ["load", "frame"].length → bindArgs (PySem.W.fnOf "is_of" "is_of" (defArgs s_is_of) (defBody s_is_of) (defScope s_is_of) .none kV doc pm an cdv ct) ⟨us, []⟩ = pure ([("load" : Str), ("frame" : Str)].zip us) := fun _ _ _ _ _ _ us hl => match us, hl with | [_, _], _ => rfl
theorem hb_greatest_of : ∀ (kV doc pm : Value) (an : Option Addr) (cdv ct : Value) (us : List Value), us.length = ["loads"].length → bindArgs (PySem.W.fnOf "greatest_of" "greatest_of" (defArgs s_greatest_of) (defBody s_greatest_of) (defScope s_greatest_of) .none kV doc pm an cdv ct) ⟨us, []⟩ = pure ([("loads" : Str)].zip us) := fun _ _ _ _ _ _ us hl => match us, hl with | [_], _ => rfl
theorem hb_best_ways : ∀ (kV doc pm : Value) (an : Option Addr) (cdv ct : Value) (us : List Value), us.length = ["box", "piece"].length → bindArgs (PySem.W.fnOf "best_ways" "best_ways" (defArgs s_best_ways) (defBody s_best_ways) (defScope s_best_ways) .none kV doc pm an cdv ct) ⟨us, []⟩ = pure ([("box" : Str), ("piece" : Str)].zip us) := fun _ _ _ _ _ _ us hl => match us, hl with | [_, _], _ => rfl
theorem hb_all_best : ∀ (kV doc pm : Value) (an : Option Addr) (cdv ct : Value) (us : List Value), us.length = ["box"].length → bindArgs (PySem.W.fnOf "all_best" "all_best" (defArgs s_all_best) (defBody s_all_best) (defScope s_all_best) .none kV doc pm an cdv ct) ⟨us, []⟩ = pure ([("box" : Str)].zip us) := fun _ _ _ _ _ _ us hl => match us, hl with | [_], _ => rfl
theorem hb_no_numbers : ∀ (kV doc pm : Value) (an : Option Addr) (cdv ct : Value) (us : List Value), us.length = ["sides"].length → bindArgs (PySem.W.fnOf "no_numbers" "no_numbers" (defArgs s_no_numbers) (defBody s_no_numbers) (defScope s_no_numbers) .none kV doc pm an cdv ct) ⟨us, []⟩ = pure ([("sides" : Str)].zip us) := fun _ _ _ _ _ _ us hl => match us, hl with | [_], _ => rfl
theorem hb_no_wires : ∀ (kV doc pm : Value) (an : Option Addr) (cdv ct : Value) (us : List Value), us.length = ["box"].length → bindArgs (PySem.W.fnOf "no_wires" "no_wires" (defArgs s_no_wires) (defBody s_no_wires) (defScope s_no_wires) .none kV doc pm an cdv ct) ⟨us, []⟩ = pure ([("box" : Str)].zip us) := fun _ _ _ _ _ _ us hl => match us, hl with | [_], _ => rfl
theorem hb_sum_of : ∀ (kV doc pm : Value) (an : Option Addr) (cdv ct : Value) (us : List Value), us.length = ["load", "other"].length → bindArgs (PySem.W.fnOf "sum_of" "sum_of" (defArgs s_sum_of) (defBody s_sum_of) (defScope s_sum_of) .none kV doc pm an cdv ct) ⟨us, []⟩ = pure ([("load" : Str), ("other" : Str)].zip us) := fun _ _ _ _ _ _ us hl => match us, hl with | [_, _], _ => rfl
theorem hb_sums_by : ∀ (kV doc pm : Value) (an : Option Addr) (cdv ct : Value) (us : List Value), us.length = ["box", "tables"].length → bindArgs (PySem.W.fnOf "sums_by" "sums_by" (defArgs s_sums_by) (defBody s_sums_by) (defScope s_sums_by) .none kV doc pm an cdv ct) ⟨us, []⟩ = pure ([("box" : Str), ("tables" : Str)].zip us) := fun _ _ _ _ _ _ us hl => match us, hl with | [_, _], _ => rfl
theorem hb_box_frame : ∀ (kV doc pm : Value) (an : Option Addr) (cdv ct : Value) (us : List Value), us.length = ["box"].length → bindArgs (PySem.W.fnOf "box_frame" "box_frame" (defArgs s_box_frame) (defBody s_box_frame) (defScope s_box_frame) .none kV doc pm an cdv ct) ⟨us, []⟩ = pure ([("box" : Str)].zip us) := fun _ _ _ _ _ _ us hl => match us, hl with | [_], _ => rfl
theorem hb_law_under : ∀ (kV doc pm : Value) (an : Option Addr) (cdv ct : Value) (us : List Value), us.length = ["_law_load", "_law_other"].length → bindArgs (PySem.W.fnOf "_law_under" "_law_under" (defArgs s_law_under) (defBody s_law_under) (defScope s_law_under) .none kV doc pm an cdv ct) ⟨us, []⟩ = pure ([("_law_load" : Str), ("_law_other" : Str)].zip us) := fun _ _ _ _ _ _ us hl => match us, hl with | [_, _], _ => rfl
theorem hb_law_is_of : ∀ (kV doc pm : Value) (an : Option Addr) (cdv ct : Value) (us : List Value), us.length = ["_law_load", "_law_tops"].length → bindArgs (PySem.W.fnOf "_law_is_of" "_law_is_of" (defArgs s_law_is_of) (defBody s_law_is_of) (defScope s_law_is_of) .none kV doc pm an cdv ct) ⟨us, []⟩ = pure ([("_law_load" : Str), ("_law_tops" : Str)].zip us) := fun _ _ _ _ _ _ us hl => match us, hl with | [_, _], _ => rfl
theorem hb_is_load_of : ∀ (kV doc pm : Value) (an : Option Addr) (cdv ct : Value) (us : List Value), us.length = ["sides", "thing", "most"].length → bindArgs (PySem.W.fnOf "is_load_of" "is_load_of" (defArgs s_is_load_of) (defBody s_is_load_of) (defScope s_is_load_of) .none kV doc pm an cdv ct) ⟨us, []⟩ = pure ([("sides" : Str), ("thing" : Str), ("most" : Str)].zip us) := fun _ _ _ _ _ _ us hl => match us, hl with | [_, _, _], _ => rfl
theorem hb_need_load : ∀ (kV doc pm : Value) (an : Option Addr) (cdv ct : Value) (us : List Value), us.length = ["sides", "load"].length → bindArgs (PySem.W.fnOf "need_load" "need_load" (defArgs s_need_load) (defBody s_need_load) (defScope s_need_load) .none kV doc pm an cdv ct) ⟨us, []⟩ = pure ([("sides" : Str), ("load" : Str)].zip us) := fun _ _ _ _ _ _ us hl => match us, hl with | [_, _], _ => rfl
theorem hb_parts_for : ∀ (kV doc pm : Value) (an : Option Addr) (cdv ct : Value) (us : List Value), us.length = ["box", "tables", "sums", "load"].length → bindArgs (PySem.W.fnOf "parts_for" "parts_for" (defArgs s_parts_for) (defBody s_parts_for) (defScope s_parts_for) .none kV doc pm an cdv ct) ⟨us, []⟩ = pure ([("box" : Str), ("tables" : Str), ("sums" : Str), ("load" : Str)].zip us) := fun _ _ _ _ _ _ us hl => match us, hl with | [_, _, _, _], _ => rfl
theorem hb_cut_down : ∀ (kV doc pm : Value) (an : Option Addr) (cdv ct : Value) (us : List Value), us.length = ["sides", "way", "load"].length → bindArgs (PySem.W.fnOf "cut_down" "cut_down" (defArgs s_cut_down) (defBody s_cut_down) (defScope s_cut_down) .none kV doc pm an cdv ct) ⟨us, []⟩ = pure ([("sides" : Str), ("way" : Str), ("load" : Str)].zip us) := fun _ _ _ _ _ _ us hl => match us, hl with | [_, _, _], _ => rfl
theorem hb_way_by : ∀ (kV doc pm : Value) (an : Option Addr) (cdv ct : Value) (us : List Value), us.length = ["box", "tables", "sums", "load"].length → bindArgs (PySem.W.fnOf "way_by" "way_by" (defArgs s_way_by) (defBody s_way_by) (defScope s_way_by) .none kV doc pm an cdv ct) ⟨us, []⟩ = pure ([("box" : Str), ("tables" : Str), ("sums" : Str), ("load" : Str)].zip us) := fun _ _ _ _ _ _ us hl => match us, hl with | [_, _, _, _], _ => rfl
theorem hb_way_for : ∀ (kV doc pm : Value) (an : Option Addr) (cdv ct : Value) (us : List Value), us.length = ["box", "load"].length → bindArgs (PySem.W.fnOf "way_for" "way_for" (defArgs s_way_for) (defBody s_way_for) (defScope s_way_for) .none kV doc pm an cdv ct) ⟨us, []⟩ = pure ([("box" : Str), ("load" : Str)].zip us) := fun _ _ _ _ _ _ us hl => match us, hl with | [_, _], _ => rfl
theorem hb_bar : ∀ (kV doc pm : Value) (an : Option Addr) (cdv ct : Value) (us : List Value), us.length = ["box", "load"].length → bindArgs (PySem.W.fnOf "bar" "bar" (defArgs s_bar) (defBody s_bar) (defScope s_bar) .none kV doc pm an cdv ct) ⟨us, []⟩ = pure ([("box" : Str), ("load" : Str)].zip us) := fun _ _ _ _ _ _ us hl => match us, hl with | [_, _], _ => rfl
theorem hb_is_way_of : ∀ (kV doc pm : Value) (an : Option Addr) (cdv ct : Value) (us : List Value), us.length = ["box", "thing"].length → bindArgs (PySem.W.fnOf "is_way_of" "is_way_of" (defArgs s_is_way_of) (defBody s_is_way_of) (defScope s_is_way_of) .none kV doc pm an cdv ct) ⟨us, []⟩ = pure ([("box" : Str), ("thing" : Str)].zip us) := fun _ _ _ _ _ _ us hl => match us, hl with | [_, _], _ => rfl
theorem hb_is_way_for : ∀ (kV doc pm : Value) (an : Option Addr) (cdv ct : Value) (us : List Value), us.length = ["box", "load", "thing"].length → bindArgs (PySem.W.fnOf "is_way_for" "is_way_for" (defArgs s_is_way_for) (defBody s_is_way_for) (defScope s_is_way_for) .none kV doc pm an cdv ct) ⟨us, []⟩ = pure ([("box" : Str), ("load" : Str), ("thing" : Str)].zip us) := fun _ _ _ _ _ _ us hl => match us, hl with | [_, _, _], _ => rfl
theorem hb_is_list_of_loads : ∀ (kV doc pm : Value) (an : Option Addr) (cdv ct : Value) (us : List Value), us.length = ["box", "thing"].length → bindArgs (PySem.W.fnOf "is_list_of_loads" "is_list_of_loads" (defArgs s_is_list_of_loads) (defBody s_is_list_of_loads) (defScope s_is_list_of_loads) .none kV doc pm an cdv ct) ⟨us, []⟩ = pure ([("box" : Str), ("thing" : Str)].zip us) := fun _ _ _ _ _ _ us hl => match us, hl with | [_, _], _ => rfl
theorem hb_is_under : ∀ (kV doc pm : Value) (an : Option Addr) (cdv ct : Value) (us : List Value), us.length = ["load", "loads"].length → bindArgs (PySem.W.fnOf "is_under" "is_under" (defArgs s_is_under) (defBody s_is_under) (defScope s_is_under) .none kV doc pm an cdv ct) ⟨us, []⟩ = pure ([("load" : Str), ("loads" : Str)].zip us) := fun _ _ _ _ _ _ us hl => match us, hl with | [_, _], _ => rfl
theorem hb_is_bar : ∀ (kV doc pm : Value) (an : Option Addr) (cdv ct : Value) (us : List Value), us.length = ["box", "load", "thing"].length → bindArgs (PySem.W.fnOf "is_bar" "is_bar" (defArgs s_is_bar) (defBody s_is_bar) (defScope s_is_bar) .none kV doc pm an cdv ct) ⟨us, []⟩ = pure ([("box" : Str), ("load" : Str), ("thing" : Str)].zip us) := fun _ _ _ _ _ _ us hl => match us, hl with | [_, _, _], _ => rfl
theorem hb_shifted : ∀ (kV doc pm : Value) (an : Option Addr) (cdv ct : Value) (us : List Value), us.length = ["switch", "more"].length → bindArgs (PySem.W.fnOf "shifted" "shifted" (defArgs s_shifted) (defBody s_shifted) (defScope s_shifted) .none kV doc pm an cdv ct) ⟨us, []⟩ = pure ([("switch" : Str), ("more" : Str)].zip us) := fun _ _ _ _ _ _ us hl => match us, hl with | [_, _], _ => rfl
theorem hb_beside : ∀ (kV doc pm : Value) (an : Option Addr) (cdv ct : Value) (us : List Value), us.length = ["one", "other"].length → bindArgs (PySem.W.fnOf "beside" "beside" (defArgs s_beside) (defBody s_beside) (defScope s_beside) .none kV doc pm an cdv ct) ⟨us, []⟩ = pure ([("one" : Str), ("other" : Str)].zip us) := fun _ _ _ _ _ _ us hl => match us, hl with | [_, _], _ => rfl
theorem hb_law : ∀ (kV doc pm : Value) (an : Option Addr) (cdv ct : Value) (us : List Value), us.length = ["_law_script"].length → bindArgs (PySem.W.fnOf "law" "law" (defArgs s_law) (defBody s_law) (defScope s_law) .none kV doc pm an cdv ct) ⟨us, []⟩ = pure ([("_law_script" : Str)].zip us) := fun _ _ _ _ _ _ us hl => match us, hl with | [_], _ => rfl
theorem law_binds {K : PySem.W.Frag} {f : Addr} {fd : FuncData} (F : Fun K "law" "law" s_law f fd) (s : Shared) (v : Value) : BindsTo s fd ⟨[v], []⟩ [("_law_script", v)] := by
  obtain ⟨oc, od, kV, doc, pm, an, cdv, ct, osl, rfl, _, _⟩ := F.ex
  exact .of_eq rfl
theorem all_mk {l : PySem.W.OpenLaw} {w : World} {K : PySem.W.Frag} {h : Heap} {mg : Str → Option Value} {fa C : Addr} (X : K.In h) (G : h.Ns mainGlobals mg) (hfa : mg "law" = some (.ref fa)) (T : Tx K mg C)
    (d_box_init : ∃ (f : Addr) (fd : FuncData), Fun K "__init__" "Box.__init__" s_box_init f fd ∧ L2.Mk K C f ∧ Binds K fd ["self", "sides", "tracks", "switches"] [])
    (d_law_begun : Df K mg "_law_begun" "_law_begun" s_law_begun ["_law_script"]) (d_law_draw : Df K mg "_law_draw" "_law_draw" s_law_draw ["_law_state", "_law_size_here"]) (d_law_pick : Df K mg "_law_pick" "_law_pick" s_law_pick ["_law_state", "_law_several"]) (d_law_pairs : Df K mg "_law_pairs" "_law_pairs" s_law_pairs ["_law_sides_here"]) (d_law_mate : Df K mg "_law_mate" "_law_mate" s_law_mate ["_law_track", "_law_many"]) (d_law_joined : Df K mg "_law_joined" "_law_joined" s_law_joined ["_law_sides_here", "_law_many", "_law_fashion"]) (d_law_mixed : Df K mg "_law_mixed" "_law_mixed" s_law_mixed ["_law_state", "_law_several"]) (d_law_scope : Df K mg "_law_scope" "_law_scope" s_law_scope ["_law_state", "_law_most"]) (d_is_number : Df K mg "is_number" "is_number" s_is_number ["thing"]) (d_is_between : Df K mg "is_between" "is_between" s_is_between ["thing", "low", "high"]) (d_need_sides : Df K mg "need_sides" "need_sides" s_need_sides ["sides"]) (d_need_tracks : Df K mg "need_tracks" "need_tracks" s_need_tracks ["tracks"]) (d_is_pin : Df K mg "is_pin" "is_pin" s_is_pin ["thing", "sides", "tracks"]) (d_is_switch : Df K mg "is_switch" "is_switch" s_is_switch ["thing", "sides", "tracks"]) (d_is_rising : Df K mg "is_rising" "is_rising" s_is_rising ["row"]) (d_law_made : Df K mg "_law_made" "_law_made" s_law_made ["_law_scope_here"]) (d_law_few : Df K mg "_law_few" "_law_few" s_law_few ["_law_state", "_law_several", "_law_most"]) (d_need_box : Df K mg "need_box" "need_box" s_need_box ["box"]) (d_is_gone : Df K mg "is_gone" "is_gone" s_is_gone ["box", "thing"]) (d_bare_of : Df K mg "bare_of" "bare_of" s_bare_of ["box", "gone"]) (d_without : Df K mg "without" "without" s_without ["box", "gone"]) (d_pieces_of : Df K mg "pieces_of" "pieces_of" s_pieces_of ["box"]) (d_switches_in : Df K mg "switches_in" "switches_in" s_switches_in ["box", "piece"]) (d_pins_of : Df K mg "pins_of" "pins_of" s_pins_of ["way"]) (d_ways_in : Df K mg "ways_in" "ways_in" s_ways_in ["switches"]) (d_sides_of : Df K mg "sides_of" "sides_of" s_sides_of ["switch"]) (d_pairs_of : Df K mg "pairs_of" "pairs_of" s_pairs_of ["sides"]) (d_load_of : Df K mg "load_of" "load_of" s_load_of ["sides", "way"]) (d_is_below : Df K mg "is_below" "is_below" s_is_below ["load", "other"]) (d_is_of : Df K mg "is_of" "is_of" s_is_of ["load", "frame"]) (d_greatest_of : Df K mg "greatest_of" "greatest_of" s_greatest_of ["loads"]) (d_best_ways : Df K mg "best_ways" "best_ways" s_best_ways ["box", "piece"]) (d_all_best : Df K mg "all_best" "all_best" s_all_best ["box"]) (d_no_numbers : Df K mg "no_numbers" "no_numbers" s_no_numbers ["sides"]) (d_no_wires : Df K mg "no_wires" "no_wires" s_no_wires ["box"]) (d_sum_of : Df K mg "sum_of" "sum_of" s_sum_of ["load", "other"]) (d_sums_by : Df K mg "sums_by" "sums_by" s_sums_by ["box", "tables"]) (d_box_frame : Df K mg "box_frame" "box_frame" s_box_frame ["box"]) (d_law_under : Df K mg "_law_under" "_law_under" s_law_under ["_law_load", "_law_other"]) (d_law_is_of : Df K mg "_law_is_of" "_law_is_of" s_law_is_of ["_law_load", "_law_tops"]) (d_is_load_of : Df K mg "is_load_of" "is_load_of" s_is_load_of ["sides", "thing", "most"]) (d_need_load : Df K mg "need_load" "need_load" s_need_load ["sides", "load"]) (d_parts_for : Df K mg "parts_for" "parts_for" s_parts_for ["box", "tables", "sums", "load"]) (d_cut_down : Df K mg "cut_down" "cut_down" s_cut_down ["sides", "way", "load"]) (d_way_by : Df K mg "way_by" "way_by" s_way_by ["box", "tables", "sums", "load"]) (d_way_for : Df K mg "way_for" "way_for" s_way_for ["box", "load"]) (d_bar : Df K mg "bar" "bar" s_bar ["box", "load"]) (d_is_way_of : Df K mg "is_way_of" "is_way_of" s_is_way_of ["box", "thing"]) (d_is_way_for : Df K mg "is_way_for" "is_way_for" s_is_way_for ["box", "load", "thing"]) (d_is_list_of_loads : Df K mg "is_list_of_loads" "is_list_of_loads" s_is_list_of_loads ["box", "thing"]) (d_is_under : Df K mg "is_under" "is_under" s_is_under ["load", "loads"]) (d_is_bar : Df K mg "is_bar" "is_bar" s_is_bar ["box", "load", "thing"]) (d_shifted : Df K mg "shifted" "shifted" s_shifted ["switch", "more"]) (d_beside : Df K mg "beside" "beside" s_beside ["one", "other"])
    (d_law : Df K mg "law" "law" s_law ["_law_script"]) :
    ∃ fd : FuncData, (∀ (s : Shared) (v : Value), BindsTo s fd ⟨[v], []⟩ [("_law_script", v)]) ∧ ∀ base : Heap, K.In base → base.Ns mainGlobals mg → FnOk l.prog w K mg base CX0 9 fa fd ["_law_script"] (sp_law K 0) := by
  obtain ⟨f, fd, F, hm, hb⟩ := d_law
  have e := hfa.symm.trans hm
  cases e
  refine ⟨fd, law_binds F, fun base _ _ => ?_⟩
  have c_law_begun := ok_law_begun (P := l.prog) (w := w) (base := base) T d_law_begun 
  have c_law_draw := ok_law_draw (P := l.prog) (w := w) (base := base) T d_law_draw 
  have c_law_pick := ok_law_pick (P := l.prog) (w := w) (base := base) T d_law_pick c_law_draw
  have c_law_pairs := ok_law_pairs (P := l.prog) (w := w) (base := base) T d_law_pairs 
  have c_law_mate := ok_law_mate (P := l.prog) (w := w) (base := base) T d_law_mate 
  have c_law_joined := ok_law_joined (P := l.prog) (w := w) (base := base) T d_law_joined c_law_pairs c_law_mate
  have c_law_mixed := ok_law_mixed (P := l.prog) (w := w) (base := base) T d_law_mixed c_law_draw
  have c_law_scope := ok_law_scope (P := l.prog) (w := w) (base := base) T d_law_scope c_law_pick c_law_joined c_law_mixed c_law_draw
  have c_is_number := ok_is_number (P := l.prog) (w := w) (base := base) T d_is_number 
  have c_is_between := ok_is_between (P := l.prog) (w := w) (base := base) T d_is_between c_is_number
  have c_need_sides := ok_need_sides (P := l.prog) (w := w) (base := base) T d_need_sides c_is_between
  have c_need_tracks := ok_need_tracks (P := l.prog) (w := w) (base := base) T d_need_tracks c_is_between
  have c_is_pin := ok_is_pin (P := l.prog) (w := w) (base := base) T d_is_pin c_is_between
  have c_is_switch := ok_is_switch (P := l.prog) (w := w) (base := base) T d_is_switch c_is_pin
  have c_is_rising := ok_is_rising (P := l.prog) (w := w) (base := base) T d_is_rising 
  have c_box_init := ok_box_init (P := l.prog) (w := w) (base := base) T d_box_init c_need_sides c_need_tracks c_is_switch c_is_rising
  have c_law_made := ok_law_made (P := l.prog) (w := w) (base := base) T d_law_made c_box_init
  have c_law_few := ok_law_few (P := l.prog) (w := w) (base := base) T d_law_few c_law_mixed c_law_draw
  have c_need_box := ok_need_box (P := l.prog) (w := w) (base := base) T d_need_box 
  have c_is_gone := ok_is_gone (P := l.prog) (w := w) (base := base) T d_is_gone c_is_switch c_is_rising
  have c_bare_of := ok_bare_of (P := l.prog) (w := w) (base := base) T d_bare_of c_box_init
  have c_without := ok_without (P := l.prog) (w := w) (base := base) T d_without c_need_box c_is_gone c_bare_of
  have c_pieces_of := ok_pieces_of (P := l.prog) (w := w) (base := base) T d_pieces_of 
  have c_switches_in := ok_switches_in (P := l.prog) (w := w) (base := base) T d_switches_in 
  have c_pins_of := ok_pins_of (P := l.prog) (w := w) (base := base) T d_pins_of 
  have c_ways_in := ok_ways_in (P := l.prog) (w := w) (base := base) T d_ways_in c_pins_of
  have c_sides_of := ok_sides_of (P := l.prog) (w := w) (base := base) T d_sides_of 
  have c_pairs_of := ok_pairs_of (P := l.prog) (w := w) (base := base) T d_pairs_of 
  have c_load_of := ok_load_of (P := l.prog) (w := w) (base := base) T d_load_of c_sides_of c_pairs_of
  have c_is_below := ok_is_below (P := l.prog) (w := w) (base := base) T d_is_below 
  have c_is_of := ok_is_of (P := l.prog) (w := w) (base := base) T d_is_of c_is_below
  have c_greatest_of := ok_greatest_of (P := l.prog) (w := w) (base := base) T d_greatest_of c_is_of
  have c_best_ways := ok_best_ways (P := l.prog) (w := w) (base := base) T d_best_ways c_switches_in c_ways_in c_load_of c_greatest_of
  have c_all_best := ok_all_best (P := l.prog) (w := w) (base := base) T d_all_best c_pieces_of c_best_ways
  have c_no_numbers := ok_no_numbers (P := l.prog) (w := w) (base := base) T d_no_numbers 
  have c_no_wires := ok_no_wires (P := l.prog) (w := w) (base := base) T d_no_wires c_no_numbers
  have c_sum_of := ok_sum_of (P := l.prog) (w := w) (base := base) T d_sum_of 
  have c_sums_by := ok_sums_by (P := l.prog) (w := w) (base := base) T d_sums_by c_no_wires c_sum_of c_greatest_of
  have c_box_frame := ok_box_frame (P := l.prog) (w := w) (base := base) T d_box_frame c_need_box c_all_best c_sums_by
  have c_law_under := ok_law_under (P := l.prog) (w := w) (base := base) T d_law_under 
  have c_law_is_of := ok_law_is_of (P := l.prog) (w := w) (base := base) T d_law_is_of c_law_under
  have c_is_load_of := ok_is_load_of (P := l.prog) (w := w) (base := base) T d_is_load_of c_pairs_of c_is_between
  have c_need_load := ok_need_load (P := l.prog) (w := w) (base := base) T d_need_load c_is_load_of
  have c_parts_for := ok_parts_for (P := l.prog) (w := w) (base := base) T d_parts_for c_is_below c_sum_of
  have c_cut_down := ok_cut_down (P := l.prog) (w := w) (base := base) T d_cut_down c_load_of c_is_below
  have c_way_by := ok_way_by (P := l.prog) (w := w) (base := base) T d_way_by c_is_below c_parts_for c_cut_down
  have c_way_for := ok_way_for (P := l.prog) (w := w) (base := base) T d_way_for c_need_box c_need_load c_all_best c_sums_by c_way_by
  have c_bar := ok_bar (P := l.prog) (w := w) (base := base) T d_bar c_need_box c_need_load c_all_best c_sums_by c_is_below
  have c_is_way_of := ok_is_way_of (P := l.prog) (w := w) (base := base) T d_is_way_of c_is_switch c_is_rising c_pins_of
  have c_is_way_for := ok_is_way_for (P := l.prog) (w := w) (base := base) T d_is_way_for c_need_box c_need_load c_is_way_of c_load_of
  have c_is_list_of_loads := ok_is_list_of_loads (P := l.prog) (w := w) (base := base) T d_is_list_of_loads c_is_load_of
  have c_is_under := ok_is_under (P := l.prog) (w := w) (base := base) T d_is_under c_is_below
  have c_is_bar := ok_is_bar (P := l.prog) (w := w) (base := base) T d_is_bar c_need_box c_need_load c_all_best c_is_list_of_loads c_no_wires c_is_under c_sum_of
  have c_shifted := ok_shifted (P := l.prog) (w := w) (base := base) T d_shifted 
  have c_beside := ok_beside (P := l.prog) (w := w) (base := base) T d_beside c_need_box c_need_tracks c_shifted c_box_init
  have c_law := ok_law (P := l.prog) (w := w) (base := base) T F c_law_begun c_law_scope c_law_made c_law_few c_without c_box_frame c_law_is_of c_law_pick c_law_draw c_way_for c_bar c_is_way_for c_is_bar c_beside
  exact c_law
theorem walk {l : PySem.W.OpenLaw} {q : Program} {loose : List Str} {XP : (Str → Option Value) → Heap → Prop} {YP : World → Heap → Prop} {d : DefRec} {K : Params → PySem.W.Frag} (hn : l.most = some 63) (hdf : d.params.defaults = [])
    (hY : ∀ (w : World) (h : Heap), YP w h → (K w.params).In h)
    (F : ∀ (w : World) (mg : Str → Option Value) (fa : Addr) (h : Heap), (K w.params).In h → h.Ns mainGlobals mg → mg d.name = some (.ref fa) →
      ∃ fd : FuncData, (∀ (s : Shared) (u : Value), BindsTo s fd ⟨[u], []⟩ [("_law_script", u)]) ∧ ∀ base : Heap, (K w.params).In base → base.Ns mainGlobals mg → FnOk l.prog w (K w.params) mg base CX0 9 fa fd ["_law_script"] (sp_law (K w.params) 0)) :
    PySem.W.WalkO q loose XP YP l.row.toRowW d [] (fun f vs => PySem.call f vs) :=
  L2.walk_of (n := 63) (k := 9) (x := "_law_script") (CX := fun _ => CX0) (sp := fun w => sp_law (K w.params) 0) hn (by decide) hdf ⟨rfl, by decide, by decide⟩ hY F (fun _ _ a ns hl _ hS => ⟨a, ns, rfl, hS, hl, fun _ => rfl⟩) fun _ _ _ _ _ z => z
end Bx

open PySem PySem.W PyProof.Rows in
set_option maxRecDepth 100000 in
set_option maxHeartbeats 0 in
theorem PySem.Challenge.cw_allcalls_k10_whole_loads_beside_and_with_holds : PySem.Challenge.rw_allcalls_k10_whole_loads_beside_and_with.Holds := by
  w_on; o_law; k_head; (case hw => w_witness2)
  k_fill
  refine Bx.walk (l := PySem.Challenge.rw_allcalls_k10_whole_loads_beside_and_with) rfl rfl (fun w h Y => PySem.W.kIn_of Y) ?F
  case F =>
    intro w mg fa h KX G hmg
    refine' Bx.all_mk KX G hmg ⟨⟨?pg, ?hd, ?po, ?sa⟩, Bx.no_attr ?fS, Bx.no_attr ?fT, Bx.no_attr ?fW, PySem.W.mg_of KX G ?aC, Bx.kit_self _ _, ?kCls, ?kGet, ?kTk, ?kMro, PySem.W.mg_none_of KX G ?n_isinstance, PySem.W.mg_none_of KX G ?n_len, PySem.W.mg_none_of KX G ?n_all, PySem.W.mg_none_of KX G ?n_any, PySem.W.mg_none_of KX G ?n_sum, PySem.W.mg_none_of KX G ?n_sorted, PySem.W.mg_none_of KX G ?n_set, PySem.W.mg_none_of KX G ?n_list, PySem.W.mg_none_of KX G ?n_tuple, PySem.W.mg_none_of KX G ?n_int, PySem.W.mg_none_of KX G ?n_bool, PySem.W.mg_none_of KX G ?n_abs, PySem.W.mg_none_of KX G ?n_max, PySem.W.mg_none_of KX G ?n_min, PySem.W.mg_none_of KX G ?n_range, PySem.W.mg_none_of KX G ?n_enumerate, PySem.W.mg_none_of KX G ?n_zip, Bx.cst_mk KX G ?c_LEAST_SIDES, Bx.cst_mk KX G ?c_MOST_SIDES, Bx.cst_mk KX G ?c_MOST_TRACKS, Bx.cst_mk KX G ?c_MOST_WIRES, Bx.cst_mk KX G ?c_MOST_WAYS, Bx.cst_mk KX G ?c_MOST_NUMBER, Bx.cst_mk KX G ?c_MOST_SUMS⟩ ⟨_, _, L2.fun_mk (st := Bx.s_box_init) ?li ?ci ?ki, ⟨?mk, ?ai, ?ii, ?kc⟩, (L2.fun_mk (st := Bx.s_box_init) ?li ?ci ?ki).binds Bx.hb_box_init⟩ (Bx.df_mk KX G ?a_law_begun ?l_law_begun ?c_law_begun ?k_law_begun Bx.hb_law_begun) (Bx.df_mk KX G ?a_law_draw ?l_law_draw ?c_law_draw ?k_law_draw Bx.hb_law_draw) (Bx.df_mk KX G ?a_law_pick ?l_law_pick ?c_law_pick ?k_law_pick Bx.hb_law_pick) (Bx.df_mk KX G ?a_law_pairs ?l_law_pairs ?c_law_pairs ?k_law_pairs Bx.hb_law_pairs) (Bx.df_mk KX G ?a_law_mate ?l_law_mate ?c_law_mate ?k_law_mate Bx.hb_law_mate) (Bx.df_mk KX G ?a_law_joined ?l_law_joined ?c_law_joined ?k_law_joined Bx.hb_law_joined) (Bx.df_mk KX G ?a_law_mixed ?l_law_mixed ?c_law_mixed ?k_law_mixed Bx.hb_law_mixed) (Bx.df_mk KX G ?a_law_scope ?l_law_scope ?c_law_scope ?k_law_scope Bx.hb_law_scope) (Bx.df_mk KX G ?a_is_number ?l_is_number ?c_is_number ?k_is_number Bx.hb_is_number) (Bx.df_mk KX G ?a_is_between ?l_is_between ?c_is_between ?k_is_between Bx.hb_is_between) (Bx.df_mk KX G ?a_need_sides ?l_need_sides ?c_need_sides ?k_need_sides Bx.hb_need_sides) (Bx.df_mk KX G ?a_need_tracks ?l_need_tracks ?c_need_tracks ?k_need_tracks Bx.hb_need_tracks) (Bx.df_mk KX G ?a_is_pin ?l_is_pin ?c_is_pin ?k_is_pin Bx.hb_is_pin) (Bx.df_mk KX G ?a_is_switch ?l_is_switch ?c_is_switch ?k_is_switch Bx.hb_is_switch) (Bx.df_mk KX G ?a_is_rising ?l_is_rising ?c_is_rising ?k_is_rising Bx.hb_is_rising) (Bx.df_mk KX G ?a_law_made ?l_law_made ?c_law_made ?k_law_made Bx.hb_law_made) (Bx.df_mk KX G ?a_law_few ?l_law_few ?c_law_few ?k_law_few Bx.hb_law_few) (Bx.df_mk KX G ?a_need_box ?l_need_box ?c_need_box ?k_need_box Bx.hb_need_box) (Bx.df_mk KX G ?a_is_gone ?l_is_gone ?c_is_gone ?k_is_gone Bx.hb_is_gone) (Bx.df_mk KX G ?a_bare_of ?l_bare_of ?c_bare_of ?k_bare_of Bx.hb_bare_of) (Bx.df_mk KX G ?a_without ?l_without ?c_without ?k_without Bx.hb_without) (Bx.df_mk KX G ?a_pieces_of ?l_pieces_of ?c_pieces_of ?k_pieces_of Bx.hb_pieces_of) (Bx.df_mk KX G ?a_switches_in ?l_switches_in ?c_switches_in ?k_switches_in Bx.hb_switches_in) (Bx.df_mk KX G ?a_pins_of ?l_pins_of ?c_pins_of ?k_pins_of Bx.hb_pins_of) (Bx.df_mk KX G ?a_ways_in ?l_ways_in ?c_ways_in ?k_ways_in Bx.hb_ways_in) (Bx.df_mk KX G ?a_sides_of ?l_sides_of ?c_sides_of ?k_sides_of Bx.hb_sides_of) (Bx.df_mk KX G ?a_pairs_of ?l_pairs_of ?c_pairs_of ?k_pairs_of Bx.hb_pairs_of) (Bx.df_mk KX G ?a_load_of ?l_load_of ?c_load_of ?k_load_of Bx.hb_load_of) (Bx.df_mk KX G ?a_is_below ?l_is_below ?c_is_below ?k_is_below Bx.hb_is_below) (Bx.df_mk KX G ?a_is_of ?l_is_of ?c_is_of ?k_is_of Bx.hb_is_of) (Bx.df_mk KX G ?a_greatest_of ?l_greatest_of ?c_greatest_of ?k_greatest_of Bx.hb_greatest_of) (Bx.df_mk KX G ?a_best_ways ?l_best_ways ?c_best_ways ?k_best_ways Bx.hb_best_ways) (Bx.df_mk KX G ?a_all_best ?l_all_best ?c_all_best ?k_all_best Bx.hb_all_best) (Bx.df_mk KX G ?a_no_numbers ?l_no_numbers ?c_no_numbers ?k_no_numbers Bx.hb_no_numbers) (Bx.df_mk KX G ?a_no_wires ?l_no_wires ?c_no_wires ?k_no_wires Bx.hb_no_wires) (Bx.df_mk KX G ?a_sum_of ?l_sum_of ?c_sum_of ?k_sum_of Bx.hb_sum_of) (Bx.df_mk KX G ?a_sums_by ?l_sums_by ?c_sums_by ?k_sums_by Bx.hb_sums_by) (Bx.df_mk KX G ?a_box_frame ?l_box_frame ?c_box_frame ?k_box_frame Bx.hb_box_frame) (Bx.df_mk KX G ?a_law_under ?l_law_under ?c_law_under ?k_law_under Bx.hb_law_under) (Bx.df_mk KX G ?a_law_is_of ?l_law_is_of ?c_law_is_of ?k_law_is_of Bx.hb_law_is_of) (Bx.df_mk KX G ?a_is_load_of ?l_is_load_of ?c_is_load_of ?k_is_load_of Bx.hb_is_load_of) (Bx.df_mk KX G ?a_need_load ?l_need_load ?c_need_load ?k_need_load Bx.hb_need_load) (Bx.df_mk KX G ?a_parts_for ?l_parts_for ?c_parts_for ?k_parts_for Bx.hb_parts_for) (Bx.df_mk KX G ?a_cut_down ?l_cut_down ?c_cut_down ?k_cut_down Bx.hb_cut_down) (Bx.df_mk KX G ?a_way_by ?l_way_by ?c_way_by ?k_way_by Bx.hb_way_by) (Bx.df_mk KX G ?a_way_for ?l_way_for ?c_way_for ?k_way_for Bx.hb_way_for) (Bx.df_mk KX G ?a_bar ?l_bar ?c_bar ?k_bar Bx.hb_bar) (Bx.df_mk KX G ?a_is_way_of ?l_is_way_of ?c_is_way_of ?k_is_way_of Bx.hb_is_way_of) (Bx.df_mk KX G ?a_is_way_for ?l_is_way_for ?c_is_way_for ?k_is_way_for Bx.hb_is_way_for) (Bx.df_mk KX G ?a_is_list_of_loads ?l_is_list_of_loads ?c_is_list_of_loads ?k_is_list_of_loads Bx.hb_is_list_of_loads) (Bx.df_mk KX G ?a_is_under ?l_is_under ?c_is_under ?k_is_under Bx.hb_is_under) (Bx.df_mk KX G ?a_is_bar ?l_is_bar ?c_is_bar ?k_is_bar Bx.hb_is_bar) (Bx.df_mk KX G ?a_shifted ?l_shifted ?c_shifted ?k_shifted Bx.hb_shifted) (Bx.df_mk KX G ?a_beside ?l_beside ?c_beside ?k_beside Bx.hb_beside) (Bx.df_mk KX G ?a_law ?l_law ?c_law ?k_law Bx.hb_law)
    (case aC => k_is)
    (case ai => k_is)
    (case ii => k_is)
    (case li => k_is)
    (case ci => k_is)
    (case ki => k_is)
    (case pg => k_is)
    (case hd => k_is)
    (case po => k_is)
    (case sa => k_is)
    (case fS => k_is)
    (case fT => k_is)
    (case fW => k_is)
    (case kCls => k_is)
    (case kGet => k_is)
    (case kTk => k_is)
    (case kMro => k_is)
    (case mk => k_is)
    (case kc => k_is)
    (case n_isinstance => k_is)
    (case n_len => k_is)
    (case n_all => k_is)
    (case n_any => k_is)
    (case n_sum => k_is)
    (case n_sorted => k_is)
    (case n_set => k_is)
    (case n_list => k_is)
    (case n_tuple => k_is)
    (case n_int => k_is)
    (case n_bool => k_is)
    (case n_abs => k_is)
    (case n_max => k_is)
    (case n_min => k_is)
    (case n_range => k_is)
    (case n_enumerate => k_is)
    (case n_zip => k_is)
    (case c_LEAST_SIDES => k_is)
    (case c_MOST_SIDES => k_is)
    (case c_MOST_TRACKS => k_is)
    (case c_MOST_WIRES => k_is)
    (case c_MOST_WAYS => k_is)
    (case c_MOST_NUMBER => k_is)
    (case c_MOST_SUMS => k_is)
    (case a_law_begun => k_is)
    (case l_law_begun => k_is)
    (case c_law_begun => k_is)
    (case k_law_begun => k_is)
    (case a_law_draw => k_is)
    (case l_law_draw => k_is)
    (case c_law_draw => k_is)
    (case k_law_draw => k_is)
    (case a_law_pick => k_is)
    (case l_law_pick => k_is)
    (case c_law_pick => k_is)
    (case k_law_pick => k_is)
    (case a_law_pairs => k_is)
    (case l_law_pairs => k_is)
    (case c_law_pairs => k_is)
    (case k_law_pairs => k_is)
    (case a_law_mate => k_is)
    (case l_law_mate => k_is)
    (case c_law_mate => k_is)
    (case k_law_mate => k_is)
    (case a_law_joined => k_is)
    (case l_law_joined => k_is)
    (case c_law_joined => k_is)
    (case k_law_joined => k_is)
    (case a_law_mixed => k_is)
    (case l_law_mixed => k_is)
    (case c_law_mixed => k_is)
    (case k_law_mixed => k_is)
    (case a_law_scope => k_is)
    (case l_law_scope => k_is)
    (case c_law_scope => k_is)
    (case k_law_scope => k_is)
    (case a_is_number => k_is)
    (case l_is_number => k_is)
    (case c_is_number => k_is)
    (case k_is_number => k_is)
    (case a_is_between => k_is)
    (case l_is_between => k_is)
    (case c_is_between => k_is)
    (case k_is_between => k_is)
    (case a_need_sides => k_is)
    (case l_need_sides => k_is)
    (case c_need_sides => k_is)
    (case k_need_sides => k_is)
    (case a_need_tracks => k_is)
    (case l_need_tracks => k_is)
    (case c_need_tracks => k_is)
    (case k_need_tracks => k_is)
    (case a_is_pin => k_is)
    (case l_is_pin => k_is)
    (case c_is_pin => k_is)
    (case k_is_pin => k_is)
    (case a_is_switch => k_is)
    (case l_is_switch => k_is)
    (case c_is_switch => k_is)
    (case k_is_switch => k_is)
    (case a_is_rising => k_is)
    (case l_is_rising => k_is)
    (case c_is_rising => k_is)
    (case k_is_rising => k_is)
    (case a_law_made => k_is)
    (case l_law_made => k_is)
    (case c_law_made => k_is)
    (case k_law_made => k_is)
    (case a_law_few => k_is)
    (case l_law_few => k_is)
    (case c_law_few => k_is)
    (case k_law_few => k_is)
    (case a_need_box => k_is)
    (case l_need_box => k_is)
    (case c_need_box => k_is)
    (case k_need_box => k_is)
    (case a_is_gone => k_is)
    (case l_is_gone => k_is)
    (case c_is_gone => k_is)
    (case k_is_gone => k_is)
    (case a_bare_of => k_is)
    (case l_bare_of => k_is)
    (case c_bare_of => k_is)
    (case k_bare_of => k_is)
    (case a_without => k_is)
    (case l_without => k_is)
    (case c_without => k_is)
    (case k_without => k_is)
    (case a_pieces_of => k_is)
    (case l_pieces_of => k_is)
    (case c_pieces_of => k_is)
    (case k_pieces_of => k_is)
    (case a_switches_in => k_is)
    (case l_switches_in => k_is)
    (case c_switches_in => k_is)
    (case k_switches_in => k_is)
    (case a_pins_of => k_is)
    (case l_pins_of => k_is)
    (case c_pins_of => k_is)
    (case k_pins_of => k_is)
    (case a_ways_in => k_is)
    (case l_ways_in => k_is)
    (case c_ways_in => k_is)
    (case k_ways_in => k_is)
    (case a_sides_of => k_is)
    (case l_sides_of => k_is)
    (case c_sides_of => k_is)
    (case k_sides_of => k_is)
    (case a_pairs_of => k_is)
    (case l_pairs_of => k_is)
    (case c_pairs_of => k_is)
    (case k_pairs_of => k_is)
    (case a_load_of => k_is)
    (case l_load_of => k_is)
    (case c_load_of => k_is)
    (case k_load_of => k_is)
    (case a_is_below => k_is)
    (case l_is_below => k_is)
    (case c_is_below => k_is)
    (case k_is_below => k_is)
    (case a_is_of => k_is)
    (case l_is_of => k_is)
    (case c_is_of => k_is)
    (case k_is_of => k_is)
    (case a_greatest_of => k_is)
    (case l_greatest_of => k_is)
    (case c_greatest_of => k_is)
    (case k_greatest_of => k_is)
    (case a_best_ways => k_is)
    (case l_best_ways => k_is)
    (case c_best_ways => k_is)
    (case k_best_ways => k_is)
    (case a_all_best => k_is)
    (case l_all_best => k_is)
    (case c_all_best => k_is)
    (case k_all_best => k_is)
    (case a_no_numbers => k_is)
    (case l_no_numbers => k_is)
    (case c_no_numbers => k_is)
    (case k_no_numbers => k_is)
    (case a_no_wires => k_is)
    (case l_no_wires => k_is)
    (case c_no_wires => k_is)
    (case k_no_wires => k_is)
    (case a_sum_of => k_is)
    (case l_sum_of => k_is)
    (case c_sum_of => k_is)
    (case k_sum_of => k_is)
    (case a_sums_by => k_is)
    (case l_sums_by => k_is)
    (case c_sums_by => k_is)
    (case k_sums_by => k_is)
    (case a_box_frame => k_is)
    (case l_box_frame => k_is)
    (case c_box_frame => k_is)
    (case k_box_frame => k_is)
    (case a_law_under => k_is)
    (case l_law_under => k_is)
    (case c_law_under => k_is)
    (case k_law_under => k_is)
    (case a_law_is_of => k_is)
    (case l_law_is_of => k_is)
    (case c_law_is_of => k_is)
    (case k_law_is_of => k_is)
    (case a_is_load_of => k_is)
    (case l_is_load_of => k_is)
    (case c_is_load_of => k_is)
    (case k_is_load_of => k_is)
    (case a_need_load => k_is)
    (case l_need_load => k_is)
    (case c_need_load => k_is)
    (case k_need_load => k_is)
    (case a_parts_for => k_is)
    (case l_parts_for => k_is)
    (case c_parts_for => k_is)
    (case k_parts_for => k_is)
    (case a_cut_down => k_is)
    (case l_cut_down => k_is)
    (case c_cut_down => k_is)
    (case k_cut_down => k_is)
    (case a_way_by => k_is)
    (case l_way_by => k_is)
    (case c_way_by => k_is)
    (case k_way_by => k_is)
    (case a_way_for => k_is)
    (case l_way_for => k_is)
    (case c_way_for => k_is)
    (case k_way_for => k_is)
    (case a_bar => k_is)
    (case l_bar => k_is)
    (case c_bar => k_is)
    (case k_bar => k_is)
    (case a_is_way_of => k_is)
    (case l_is_way_of => k_is)
    (case c_is_way_of => k_is)
    (case k_is_way_of => k_is)
    (case a_is_way_for => k_is)
    (case l_is_way_for => k_is)
    (case c_is_way_for => k_is)
    (case k_is_way_for => k_is)
    (case a_is_list_of_loads => k_is)
    (case l_is_list_of_loads => k_is)
    (case c_is_list_of_loads => k_is)
    (case k_is_list_of_loads => k_is)
    (case a_is_under => k_is)
    (case l_is_under => k_is)
    (case c_is_under => k_is)
    (case k_is_under => k_is)
    (case a_is_bar => k_is)
    (case l_is_bar => k_is)
    (case c_is_bar => k_is)
    (case k_is_bar => k_is)
    (case a_shifted => k_is)
    (case l_shifted => k_is)
    (case c_shifted => k_is)
    (case k_shifted => k_is)
    (case a_beside => k_is)
    (case l_beside => k_is)
    (case c_beside => k_is)
    (case k_beside => k_is)
    (case a_law => k_is)
    (case l_law => k_is)
    (case c_law => k_is)
    (case k_law => k_is)

