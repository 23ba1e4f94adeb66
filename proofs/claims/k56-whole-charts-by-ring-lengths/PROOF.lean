import PyProof.Rows.All
import Wide.All
import OpenK.AllK
import Wide.FinOn
import HandS.ForMost
import HandS.ForExc
import HandS.Gcd
import HandS.IsInst
import HandS.SetFor
import HandS.TupMul
import KE.KMathGC
import KE.GoesEnum
import PyProof.WalksMore
import HandS.Walk
import PyProof.ReprRoads
import PyProof.FitsInt
import HandS.TryMany
import HandS.RaiseMore
import HandS.TupAny
import HandS.Conv
import HandS.SortInts
import HandS.Wide
import HandS.Flow
import HandS.ExcIs
import PySem.Challenge.RW_everynext_k56_whole_charts_by_ring_lengt
set_option Elab.async false
set_option linter.all false
set_option maxRecDepth 100000
set_option maxHeartbeats 4000000
/-! my own rules: comb, factorial, sum and enumerate of a tuple, tuple.count, (x,) * k, xs[i] += e -/
namespace RLX
open PySem PySem.Spec PyProof.Rows L2
section
variable {X : Cx}
/-! ### math.comb, math.factorial -/
def rComb : List V → Hp → VK → Prop := fun vs H Q => ∃ a b : Int, vs = [.int a, .int b] ∧ 0 ≤ b ∧ b ≤ a ∧ a ≤ 9000 ∧ Q (.int (PySem.W.mcComb a b)) H
theorem my_comb : CallR X (.builtin "math.comb") rComb := by
  intro pins s σ H vs us Q I r h
  obtain ⟨a, b, rfl, h0, h1, h2, q⟩ := h
  obtain ⟨t, u, rfl⟩ := Vals.int2 r
  exact call_function_meets PySem.W.MGF.kind_comb PySem.W.MGF.plain_comb PySem.W.MGF.entry_comb (PySem.W.MGF.args_comb _ _)
    (PySem.W.mc_gives_comb t u (by omega) h0 (by omega) (by omega)).meets ⟨.int _, H, I.tok _, ⟨_, rfl⟩, q⟩
def rFact : List V → Hp → VK → Prop := fun vs H Q => ∃ a : Int, vs = [.int a] ∧ 0 ≤ a ∧ a ≤ 20000 ∧ Q (.int ((Builtin.Math.factorialNat a.toNat : Nat) : Int)) H
theorem my_fact : CallR X (.builtin "math.factorial") rFact := by
  intro pins s σ H vs us Q I r h
  obtain ⟨a, rfl, h0, h1, q⟩ := h
  obtain ⟨u, rfl, t, rfl⟩ := vals1 r
  have hs : (((Builtin.Math.factorialNat a.toNat : Nat) : Int)).natAbs.log2 < bitsLine := by
    rw [Int.natAbs_natCast]
    exact PySem.W.mc_size (PySem.W.mc_fac_le a.toNat (by omega)) (by omega)
  exact PySem.W.mg_factorial (by show ¬ a > 2 ^ 63 - 1; omega) (by omega) (by show ¬ a > 20000; omega) hs ⟨.int _, H, I.tok _, ⟨_, rfl⟩, q⟩
/-! ### sum of a tuple of ints -/
def rSumTup (K : PySem.W.Frag) : List V → Hp → VK → Prop := fun vs H Q => ∃ (a : Addr) (ns : List Int), vs = [V.ref a] ∧ SqT K H a (ns.map V.int) ∧ Q (.int ns.sum) H
theorem sum_tuple_raw {prog : Program} {w : World} {A : Around} {E : Value → Shared → Prop} {s : Shared} {l : Addr} {xs : Array (Int × Tok)} {Q : Value → Shared → Prop} (hh : A.handled = none) (hl : s.heap.IsTuple l (intItems xs))
    (h : ∀ h' tk t', (∀ b o, s.heap.get? b = some o → h'.get? b = some o) → Q (.int (preSum (numAt xs) xs.size) t') { s with heap := h', toks := tk }) :
    wpAny (model prog w) A (call (.builtin "sum") [.ref l]) Q E s := by
  have hlt : l < s.heap.objs.size := by
    obtain ⟨_, e, _⟩ := hl
    exact Heap.lt_size e
  refine call_sum_walkG (wpAny_pyIter_tuple hl ?_)
  refine ⟨_, _, _, _, _, _, numAt xs, rfl, Walks.tuple (A := A.in1) hh s.heap.objs.size l (Nat.ne_of_lt hlt) (intItems xs), ⟨⟨_, Heap.get?_push_size _ rfl, rfl, rfl⟩, hl.push _⟩, fun b hb => ?_, (fun _ _ => intItems_at), fun h' tk t' hk => ?_⟩
  · show b < (s.heap.push _).objs.size
    rw [Heap.size_push]
    have hb' : b = s.heap.objs.size ∨ b = l := by simpa using hb
    rcases hb' with e | e
    · rw [e]
      exact Nat.lt_succ_self _
    · rw [e]
      exact Nat.lt_succ_of_lt hlt
  · have q := h h' tk t' fun b o e => hk b o (fun hb => by
      have e' : b = s.heap.objs.size := by simpa using hb
      rw [e'] at e
      exact absurd (Heap.lt_size e) (Nat.lt_irrefl _)) (Heap.get?_push_of_some _ e)
    simpa [intItems] using q
theorem my_sum_tup (hc : X.calm = true) : CallR X (.builtin "sum") (rSumTup X.K) := by
  intro pins s σ H vs us Q I r h
  obtain ⟨a, ns, rfl, hs, q⟩ := h
  obtain ⟨its, rv, hl, _⟩ := I.tuple hs
  rw [Vals.ref1 r]
  have hi : IntsAre its ns := rv.ints
  obtain ⟨xs, e⟩ := hi.allInts.items
  have hn : numsOf (intItems xs).toList = ns := by
    rw [← e]
    exact hi.numsOf
  rw [nums_intItems] at hn
  rw [e] at hl
  refine sum_tuple_raw (I.ok.hd hc) hl fun h' tk t' hk => ?_
  rw [preSum_eq, List.take_of_length_le (by simp), hn]
  exact ⟨.int _, H, I.kept hk, ⟨_, rfl⟩, q⟩
/-! ### t.count(n), t a tuple of ints -/
def rCntTup (K : PySem.W.Frag) : V → List V → Hp → VK → Prop := fun x xs H Q => ∃ (p : Addr) (ns : List Int) (k : Int), x = .ref p ∧ xs = [.int k] ∧ SqT K H p (ns.map V.int) ∧ Q (.int (ns.count k : Nat)) H
theorem my_tcount : MtR X "tuple.count" (rCntTup X.K) := by
  intro pins s σ H x xs v us Q I rx rxs h
  obtain ⟨p, ns, k, rfl, rfl, hs, q⟩ := h
  cases rx
  obtain ⟨u, rfl, t, rfl⟩ := vals1 rxs
  obtain ⟨its, rv, ⟨⟨cls, dd, data, sl⟩, ho, hc, n, hd⟩, hlen⟩ := I.tuple hs
  simp only at hc hd
  subst hc hd
  have hi : IntsAre its ns := rv.ints
  have ec : its.toArray.toList.countP (eqk k) = ns.count k := eqk_count hi
  refine call_meets PySem.F.slot_tuple_count ⟨_, ho, rfl⟩ PySem.F.entry_tuple_count (PySem.F.args_tuple_count_2 _ _)
    (SeqAt.tuple_countAt p its.toArray n dd sl (.int k t) (eqk k)) ⟨ho, fun y hy => (eqk_gives hi y (by simpa using hy)).at _ _, ?_⟩
  refine ⟨.int (ns.count k : Nat), H, I.tok _, ⟨s.toks, ?_⟩, q⟩
  show Value.int ((its.toArray.toList.countP (eqk k) : Nat) : Int) s.toks = _
  rw [ec]
end
end RLX

namespace RLX
open PySem PySem.Spec PyProof.Rows L2
/-! ### (x,) * k -/
theorem tup_times_one (l : Addr) (items : Array Value) (n : Nat) (dd : Option Addr) (sl : Array (Option Value)) (u : Tok) :
    Meets (Builtin.«tuple.__mul__» ⟨[.ref l, .int 1 u], []⟩) (fun _ R s => s.heap.get? l = some { cls := .type "tuple", dict := dd, data := .seq items n, slots := sl } ∧ R (.ok (.ret (Value.ref l))) s) :=
  .of_wp fun prog w A R s h => by
    obtain ⟨hp, g, d, tk, os⟩ := s
    obtain ⟨hl, h⟩ := h
    have f1 := AutoSeq1.idx_int
    have c0 : (decide ((1 : Int) < -(2 ^ 63)) || decide ((1 : Int) ≥ 2 ^ 63)) = false := by decide
    have c1 : (items.isEmpty || (1 : Int) == 1) = true := by simp
    wp_walk using AutoSeq1.wpAny_loadPart' hl
    repeat (first
      | (refine wpAny_ite_false (decide_eq_false (by rw [c0]; exact Bool.false_ne_true)) ?_; wp_walk using AutoSeq1.wpAny_loadPart' hl)
      | (refine wpAny_ite_true (decide_eq_true c1) ?_; wp_walk using AutoSeq1.wpAny_loadPart' hl))
    exact ⟨_, rfl, h⟩
/-- (x,) * k -/
def rRepOne (K : PySem.W.Frag) : R2 := fun x y H Q => ∃ (l : Addr) (k : Int) (v : V), x = .ref l ∧ y = .int k ∧ SqT K H l [v] ∧ 1 ≤ k ∧ k ≤ 100000 ∧ (k = 1 → Q (.ref l) H) ∧ (k ≠ 1 → ∀ p, H p = none → Q (.ref p) (upd H p (.tup (List.replicate k.toNat v))))
section
variable {X : Cx}
theorem flat_rep {α : Type} (v : α) : ∀ m : Nat, (List.replicate m [v]).flatten = List.replicate m v
  | 0 => rfl
  | m + 1 => by
    rw [List.replicate_succ, List.flatten_cons, flat_rep v m, List.replicate_succ]
    rfl
theorem vals_rep {v : V} {u : Value} (r : RelV v u) : ∀ m : Nat, Vals (List.replicate m v) (List.replicate m u)
  | 0 => .nil
  | m + 1 => .cons r (vals_rep r m)
theorem my_rep_one : OpR X (binaryOp .Mult) (rRepOne X.K) := by
  intro pins s σ H x y v u Q I rx ry h
  obtain ⟨l, k, v1, rfl, rfl, hT, h1, h2, q1, qn⟩ := h
  cases rx
  obtain ⟨t, rfl⟩ := ry
  obtain ⟨its, r, ⟨⟨cls, dd, data, sl⟩, ho, hc, n, hd⟩, hs⟩ := I.tuple hT
  simp only at hc hd
  subst hc hd
  obtain ⟨u1, rfl, r1⟩ := vals1 r
  by_cases hk : k = 1
  · subst hk
    refine wpAny_binaryOp_repeat_ref (T := "tuple") (U := "int") (by decide) ⟨_, ho, rfl⟩ (fun s' => typeIs_int s' 1 t) noFill_tuple_mul F.fills_int_mul F.slot_int_rmul repeat_tuple F.slot_int_index.lookup
      (call_meets F.slot_int_rmul (typeIs_int s 1 t) F.entry_int_rmul (F.args_int_rmul_2 _ _) (int_rmul_tuple 1 t l [u1].toArray n dd sl)
        ⟨ho, rfl, ⟨_, ho, rfl⟩, call_meets F.slot_tuple_mul ⟨_, ho, rfl⟩ F.entry_tuple_mul (F.args_tuple_mul_2 _ _) (tup_times_one l [u1].toArray n dd sl t) ⟨ho, ?_⟩⟩)
    exact ⟨.ref l, H, I, rfl, q1 rfl⟩
  · have c0 : (decide (k < -(2 ^ 63)) || decide (k ≥ 2 ^ 63)) = false := by
      rw [decide_eq_false (by omega), decide_eq_false (by omega)] <;> rfl
    have c1 : ([u1].toArray.isEmpty || k == 1) = false := by
      rw [show [u1].toArray.isEmpty = false from rfl, Bool.false_or]
      exact beq_eq_false_iff_ne.mpr hk
    have c2 : (decide (k ≤ 0) || [u1].toArray.isEmpty) = false := by
      rw [show [u1].toArray.isEmpty = false from rfl, Bool.or_false]
      exact decide_eq_false (by omega)
    have sz1 : (([u1].toArray.size : Nat) : Int) * k = k := by
      show (1 : Int) * k = k
      omega
    have c4 : Builtin.Tuple.tupleTooMany ((([u1].toArray.size : Nat) : Int) * k) = false := by
      rw [sz1]
      unfold Builtin.Tuple.tupleTooMany
      rw [sizeLine_eq]
      exact decide_eq_false (by omega)
    have flen : (List.replicate k.toNat u1).length ≤ sizeLine := by
      rw [List.length_replicate, sizeLine_eq]
      omega
    refine wpAny_binaryOp_repeat_ref (T := "tuple") (U := "int") (by decide) ⟨_, ho, rfl⟩ (fun s' => typeIs_int s' k t) noFill_tuple_mul F.fills_int_mul F.slot_int_rmul repeat_tuple F.slot_int_index.lookup
      (call_meets F.slot_int_rmul (typeIs_int s k t) F.entry_int_rmul (F.args_int_rmul_2 _ _) (int_rmul_tuple k t l [u1].toArray n dd sl)
        ⟨ho, rfl, ⟨_, ho, rfl⟩, call_meets F.slot_tuple_mul ⟨_, ho, rfl⟩ F.entry_tuple_mul (F.args_tuple_mul_2 _ _) (tuple_mulW l [u1].toArray n dd sl k t c0 c1 c2 (by rw [sz1]; omega) c4 (by rw [size_rep, List.size_toArray, flat_rep]; exact flen)) ⟨ho, ?_⟩⟩)
    rw [size_rep, flat_rep]
    refine ⟨.ref s.heap.objs.size, _, I.laid (t' := s.toks) (o := .tup (List.replicate k.toNat v1)) (fun b ob q => Heap.get?_push_of_some _ q) (Nat.le_refl _) ?_, rfl, qn hk _ (I.hok.fresh (Nat.le_refl _))⟩
    exact ⟨by rw [List.length_replicate, sizeLine_eq]; omega, _, vals_rep r1 k.toNat, IsTup.new _ _⟩
/-! ### o[i] by values, a list at a place from 0 on -/
def rGetL (K : PySem.W.Frag) : V → V → Hp → VK → Prop := fun o i H Q => ∃ (p : Addr) (xs : List V) (j : Nat) (v : V), o = .ref p ∧ i = .int (j : Int) ∧ SqL K H p xs ∧ xs[j]? = some v ∧ j < 1000000 ∧ Q v H
theorem my_get_list : PGet X (rGetL X.K) := by
  intro pins s σ H o i ov iv Q I ro ri h
  obtain ⟨p, xs, j, z, rfl, rfl, hq, he, hj, q⟩ := h
  cases ro
  obtain ⟨t, rfl⟩ := ri
  obtain ⟨its, r, pl, hz⟩ := I.list hq
  obtain ⟨w, ew, rw'⟩ := r.get he
  refine wpAny_getItem_list pl.isList (x := w) (by omega) (by omega) (by simpa using ew) ⟨z, H, I, rw', q⟩
end
end RLX

namespace RLX
open PySem PySem.Spec PyProof.Rows L2
/-! ### enumerate(t), t a tuple -/
theorem enum_one {v : Value} {o : Obj} {G : Heap → Prop} (B : Begins v o G) :
    Meets (Builtin.«enumerate.__new__» ⟨[.type "enumerate", v], []⟩) (fun _ R s => G s.heap ∧
      R (.ok (.ret (.ref (s.heap.push o).objs.size))) { s with heap := (s.heap.push o).push { cls := .type "enumerate", data := .fields #[.none, .bool false, .ref s.heap.objs.size, rawInt 0, .none, .none] } }) :=
  .of_wp fun prog w A R s h => by
    obtain ⟨hp, g, d, tk, os⟩ := s
    obtain ⟨h1, h⟩ := h
    have hsub := sub_enumerate
    have q1 : ∀ {A' : Around} {E : Value → Shared → Prop} {Q : Value → Shared → Prop}, Q (.ref hp.objs.size) ⟨hp.push o, g, d, tk, os⟩ → wpAny (model prog w) A' (pyIter v) Q E ⟨hp, g, d, tk, os⟩ := fun q =>
      B.iter prog w _ _ _ _ h1 q
    wp_walk using q1
    refine wpAny_stack_any fun st => wpAny_pure ?_
    split
    · rename_i c _ _ _ _ _
      cases (c == Value.type "enumerate")
      · (wp_walk using q1); exact ⟨_, rfl, h⟩
      · (wp_walk using q1); exact ⟨_, rfl, h⟩
    · (wp_walk using q1); exact ⟨_, rfl, h⟩
theorem enum_of_tuple {prog : Program} {w : World} {A : Around} {E : Value → Shared → Prop} {s : Shared} {t : Addr} {items : Array Value} {Q : Value → Shared → Prop} (hT : s.heap.IsTuple t items)
    (h : ∀ h', IsEnum h' (s.heap.objs.size + 1) s.heap.objs.size 0 .none → h'.IsTupleIter s.heap.objs.size t 0 → (∀ b o, s.heap.get? b = some o → h'.get? b = some o) → Q (.ref (s.heap.objs.size + 1)) { s with heap := h' }) :
    wpAny (model prog w) A (call (.type "enumerate") [.ref t]) Q E s := by
  refine callType_new F.called_enumerate (by decide) (F.typeCall_enumerate_1 _) (F.newCall_enumerate_1 _) (fun obj => F.args_object_init_2 obj _) F.entry_enumerate_new (enum_one (begins_tuple t items)) ⟨hT, ?_⟩
  have hz : (s.heap.push { cls := .type "tuple_iterator", data := .fields #[.ref t, .int 0 0] }).objs.size = s.heap.objs.size + 1 := Heap.size_push ..
  show _ ∧ _
  rw [hz]
  have he : IsEnum ((s.heap.push { cls := .type "tuple_iterator", data := .fields #[.ref t, .int 0 0] }).push { cls := .type "enumerate", data := .fields #[.none, .bool false, .ref s.heap.objs.size, rawInt 0, .none, .none] }) (s.heap.objs.size + 1) s.heap.objs.size 0 .none := by
    have q := Heap.get?_push_size (s.heap.push { cls := .type "tuple_iterator", data := .fields #[.ref t, .int 0 0] }) (o := { cls := .type "enumerate", data := .fields #[.none, .bool false, .ref s.heap.objs.size, rawInt 0, .none, .none] }) rfl
    rw [hz] at q
    exact q
  exact ⟨⟨_, he, rfl⟩, h _ he ⟨_, Heap.get?_push_of_some _ (Heap.get?_push_size _ rfl), rfl, rfl⟩ fun b o x => Heap.get?_push_of_some _ (Heap.get?_push_of_some _ x)⟩
/-- the tuple at a, each item in a new pair -/
def ItEt (K : PySem.W.Frag) (a : Addr) : It :=
  ⟨fun i H => ∃ (xs : List V) (x : V), SqT K H a xs ∧ xs[i]? = some x, fun i H v H' => ∃ T x, v = .ref T ∧ H T = none ∧ H' = upd H T (.tup [.int (i : Nat), x]) ∧ ∀ xs, SqT K H a xs → xs[i]? = some x, fun i H => ∃ xs : List V, SqT K H a xs ∧ xs.length = i⟩
theorem turn_et {P : Program} {w : World} {K : PySem.W.Frag} {elts : List Expr} {kk : Nat} {tpos : Pos} (a e it : Addr) (hai : a ≠ it) :
    Turn P w K (.Tuple elts kk tpos) (ItEt K a) [e, it] e (fun i h => (∃ old, IsEnum h e it ((i : Nat) : Int) old) ∧ h.IsTupleIter it a i ∧ e ≠ it ∧ e ≠ a) where
  mem := by simp
  obj := fun i h st b hb => by
    obtain ⟨⟨old, he⟩, ⟨o, ho, hc, hd⟩, _⟩ := st
    have e' : b = e ∨ b = it := by simpa using hb
    rcases e' with z | z
    · subst z
      exact ⟨_, he, fun v q => nomatch q⟩
    · subst z
      exact ⟨o, ho, fun v q => by rw [hd] at q; cases q⟩
  keep := fun i h h' st k => let ⟨⟨old, he⟩, hi, hne, hea⟩ := st; ⟨⟨old, k e (by simp) _ he⟩, hi.at fun o q => k it (by simp) o q, hne, hea⟩
  item := by
    intro X hP hw hK hc i pins s σ H E I hf st hg
    subst hP hw hK
    obtain ⟨⟨old, he⟩, hit, hne, hea⟩ := st
    obtain ⟨xs, x, hq, hx⟩ := hg
    obtain ⟨its, rv, p, hz⟩ := I.tuple hq
    obtain ⟨u, hu, ru⟩ := rv.get hx
    have hel : e < s.heap.objs.size := Heap.lt_size he
    have hil : it < s.heap.objs.size := by obtain ⟨_, q, _⟩ := hit; exact Heap.lt_size q
    have hlt : i < its.toArray.size := by
      rw [List.size_toArray]
      exact (List.getElem?_eq_some_iff.mp hu).1
    have hea' : e ∉ [it, a] := by
      intro q
      have q' : e = it ∨ e = a := by simpa using q
      exact q'.elim hne hea
    refine wpAny_pyNext_enum_itemD (Draws.tuple (prog := X.prog) (w := X.w) (A := X.A.in1) (I.ok.hd hc) it a hai its.toArray) he ⟨hit, p⟩ hlt hne hea' fun x1 h' tk hP' ho hst' hT hsz hk => ?_
    have ex1 : x1 = u := by
      have q : its.toArray[i]? = some u := by simpa using hu
      have hP2 : its.toArray[i]? = some x1 := hP'
      rw [q] at hP2
      exact (Option.some.inj hP2).symm
    subst ex1
    refine ⟨_, rfl, wpAny_letOwnedTupleGo_enum (s := { s with heap := h', toks := tk + 1 }) ho fun h'' he' sb => ?_⟩
    have hT2 : h''.get? s.heap.objs.size = some { cls := .type "tuple", data := .seq #[.int i tk, x1] } := (sb.2 _ (Nat.ne_of_gt hel)).trans hT
    have new : ObjOk X.prog X.w (upd H s.heap.objs.size (.tup [.int (i : Nat), x])) h'' s.heap.objs.size (.tup [.int (i : Nat), x]) :=
      ⟨by show 2 ≤ sizeLine; decide, [.int i tk, x1], .cons ⟨_, rfl⟩ (.cons ru .nil), ⟨_, hT2, rfl, _, rfl⟩⟩
    have I1 : Inv X pins σ (upd H s.heap.objs.size (.tup [.int (i : Nat), x])) { s with heap := h'', toks := tk + 1 } :=
      I.turnedNew (ch := [e, it]) (fun b ob hb q => (sb.2 b (fun z => hb (by simp [z]))).trans (hk b ob (fun z => hb (by simp [z])) (fun z => hb (by simp [z])) q)) hf (Nat.le_refl _) new
    refine ⟨.ref s.heap.objs.size, _, I1, rfl, ⟨_, x, rfl, I.hok.fresh (Nat.le_refl _), rfl, fun ys hy => by rw [I.tuple_inj hy hq]; exact hx⟩, ⟨⟨x1, ?_⟩, hst'.1.at fun o q => (sb.2 it (Ne.symm hne)).trans q, hne, hea⟩, fun b hb => ?_⟩
    · have e1 : ((i + 1 : Nat) : Int) = (i : Int) + 1 := by omega
      rw [e1]
      exact he'
    · have hb' : b < s.heap.objs.size := by
        have e' : b = e ∨ b = it := by simpa using hb
        rcases e' with z | z
        · rw [z]; exact hel
        · rw [z]; exact hil
      rw [upd_ne (Nat.ne_of_lt hb')]
      exact (hf b hb).1
  done := by
    intro X hP hw hK hc i pins s σ H E I hf st hg
    subst hP hw hK
    obtain ⟨⟨old, he⟩, hit, hne, hea⟩ := st
    obtain ⟨xs, hq, hx⟩ := hg
    obtain ⟨its, rv, p, hz⟩ := I.tuple hq
    obtain ⟨f0, f1, f2, f3, f4, f5⟩ := hf it (by simp)
    have hl := rv.length
    have hi : i = its.toArray.size := by
      rw [List.size_toArray]
      omega
    subst hi
    exact wpAny_pyNext_enum_endD (Draws.tuple (prog := X.prog) (w := X.w) (A := X.A.in1) (I.ok.hd hc) it a hai its.toArray) he ⟨hit, p⟩ fun h' eb => ⟨rfl, I.turned (t' := s.toks) (fun b o hb q => eb b o hb q) f0 f1 f3 f4 f5⟩
  self := fun A i s Q E st h => let ⟨⟨_, he⟩, _⟩ := st; wpAny_pyIter_enum he h
def iEnumT (K : PySem.W.Frag) (ta : TA) : TI := fun σ H R => ta σ H fun vs H1 => ∃ a xs, vs = [.ref a] ∧ SqT K H1 a xs ∧ R (ItEt K a) H1
theorem my_pi_enumT {X : Cx} {e : Expr} {ta : TA} {p pos tpos : Pos} {elts : List Expr} {kk : Nat} (hg : Gl X "enumerate") (hm : X.mg "enumerate" = none) (ha : PA X [e] ta) (hs : starEach [e] X.env = [(false, eval e X.env)] := by rfl) :
    PI X (.Tuple elts kk tpos) (.Call (.Name "enumerate" p) [e] [] pos) (iEnumT X.K ta) := by
  refine ⟨fun pins s σ H R I h => ?_⟩
  refine Call_ (ld_blt I hg hm boot_enumerate (PyProof.Rows.callWith_type1 (thn (ha.run pos pins s σ H _ I h) fun us s1 ⟨vs, H1, I1, r1, q1⟩ => ?_) hs rfl))
  obtain ⟨a, xs, ex, hq, q⟩ := q1
  subst ex
  rw [Vals.ref1 r1]
  obtain ⟨its, rv, p', hz⟩ := I1.tuple hq
  have hal : a < s1.heap.objs.size := p'.lt
  refine enum_of_tuple p' fun h' he hit hk => wpAny_pyIter_enum he ?_
  have I2 : Inv X pins σ H1 { s1 with heap := h' } := I1.kept (t' := s1.toks) hk
  refine ⟨s1.heap.objs.size + 1, [s1.heap.objs.size + 1, s1.heap.objs.size], _, _, H1, rfl, I2, turn_et a (s1.heap.objs.size + 1) s1.heap.objs.size (Nat.ne_of_lt hal), ⟨⟨.none, he⟩, hit, Nat.succ_ne_self _, Nat.ne_of_gt (Nat.lt_succ_of_lt hal)⟩, fun b hb => ?_, q⟩
  have e' : b = s1.heap.objs.size + 1 ∨ b = s1.heap.objs.size := by simpa using hb
  have hle : s1.heap.objs.size ≤ b := by
    rcases e' with z | z
    · rw [z]; exact Nat.le_add_right _ _
    · rw [z]; exact Nat.le_refl _
  exact I1.fpOk hle (I1.hok.fresh hle)
theorem my_walk_et {K : PySem.W.Frag} {a : Addr} {xs : List V} : Walk (ItEt K a) xs.length (fun H => SqT K H a xs) (YPair (fun i => some (.int (i : Nat))) (fun i => xs[i]?)) := by
  refine ⟨fun i _ hi q => ⟨xs, xs[i], q, by simp [hi]⟩, fun _ q => ⟨xs, q, rfl⟩, fun i H v H' _ q y => ?_⟩
  obtain ⟨T, x, h1, h2, h3, h4⟩ := y
  exact ⟨T, .int (i : Nat), x, h1, h2, h3, rfl, h4 xs q⟩
end RLX

namespace RLX
open PySem PySem.Spec PyProof.Rows L2
section
variable {X : Cx}
/-! ### repr of a list of data, where no repr is under way -/
def rReprD (K : PySem.W.Frag) : List V → Hp → VK → Prop := fun vs H Q => ∃ (a : Addr) (d : PyData), vs = [V.ref a] ∧ Dp K H (.ref a) d ∧ d.showable = true ∧ d.hasDict = false ∧ d.depth ≤ 60 ∧ d.shown.length ≤ sizeLine ∧ Q (.str d.shown) H
theorem my_repr_data (hg : X.A.guards = some []) (hu : X.A.units + 64 < cLine) : CallR X (.builtin "repr") (rReprD X.K) := by
  intro pins s σ H vs us Q I r h
  obtain ⟨a, d, rfl, hd, h1, h2, h3, h4, q⟩ := h
  rw [Vals.ref1 r]
  obtain ⟨as, rd⟩ := Dp.reads I d (.ref a) (.ref a) hd rfl
  exact repr_of_reads' rd h1 (PyData.noDict_hsm h2) hg (by omega) (fun _ _ e => e) (fun h' u tk hk => ⟨.str _, H, I.kept hk, ⟨u, rfl⟩, q⟩) h4
theorem two_len {i j : Int} (h1 : i.natAbs.log2 < 1920) (h2 : j.natAbs.log2 < 1920) : (PyData.list [.int i, .int j]).shown.length ≤ sizeLine := by
  have e1 : (Str.ofString (toString i)).length ≤ 1921 := int_text_len_1921 h1
  have e2 : (Str.ofString (toString j)).length ≤ 1921 := int_text_len_1921 h2
  have e3 := listText_len_le [Str.ofString (toString i), Str.ofString (toString j)]
  have e4 : ([Str.ofString (toString i), Str.ofString (toString j)].map (·.length)).sum = (Str.ofString (toString i)).length + ((Str.ofString (toString j)).length + 0) := rfl
  have e5 : [Str.ofString (toString i), Str.ofString (toString j)].length = 2 := rfl
  have e6 : (PyData.list [.int i, .int j]).shown = listText [Str.ofString (toString i), Str.ofString (toString j)] := rfl
  rw [e6, sizeLine_eq]
  omega
/-- repr of a list of two ints -/
theorem repr_two {K : PySem.W.Frag} {H : Hp} {Q : VK} {a : Addr} {i j : Int} (h : H a = some (.lst [.int i, .int j])) (h1 : i.natAbs.log2 < 1920) (h2 : j.natAbs.log2 < 1920) (q : Q (.str (PyData.list [.int i, .int j]).shown) H) : rReprD K [.ref a] H Q := by
  refine ⟨a, _, rfl, .lst (SqL.of h) (.cons (.int i) (.cons (.int j) .nil)), ?_, rfl, (by show 1 ≤ 60; decide), two_len h1 h2, q⟩
  show (decide (i.natAbs.log2 < 1920) && (decide (j.natAbs.log2 < 1920) && true)) = true
  rw [decide_eq_true h1, decide_eq_true h2]
  rfl
end
end RLX

namespace RLX
open PySem PySem.Spec PyProof.Rows L2
/-! ### the law's own def, called by the claim's caller alone: there no repr is under way -/
/-- as FnOk, at one Around -/
def AtCaller (P : Program) (w : World) (K : PySem.W.Frag) (mg : Str → Option Value) (base : Heap) (f : Addr) (fd : FuncData) (x : Str) (sp : Sp) : Prop :=
  ∀ (s : Shared) (H : Hp) (u : Value) (v : V) (Q : VK) (E : XK), Env0 P w K mg base callerA [] s H → BindsTo s fd ⟨[u], []⟩ [(x, u)] → RelV v u → sp [v] H Q E →
    codeAny (model P w) callerA (.call (.ref f) ⟨[u], []⟩) (CR CX0 [] P w H s Q E) s
theorem room_law : Room 40 callerA := ⟨rfl, by decide, by decide⟩
theorem at_caller {P : Program} {w : World} {K : PySem.W.Frag} {mg : Str → Option Value} {base : Heap} {name qual x : Str} {st : Stmt} {f : Addr} {fd : FuncData} {N : List Str} {sp : Sp}
    (F : Fun K name qual st f fd) (S : FnScope N [x] (defScope st))
    (B : ∀ (cdv : Value) (s : Shared) (H : Hp) (v : V) (Q : VK) (E : XK), sp [v] H Q E →
      ∃ t, PSs (cxOf CX0 P w K mg base N qual (defScope st) f cdv callerA [] s H E).nox (defBody st) t ∧ t { nx := fun _ H' => Q .non H', rt := Q } (start N [v]) H) :
    AtCaller P w K mg base f fd x sp := by
  obtain ⟨oc, od, kV, doc, pm, an, cdv, ct, osl, rfl, lk, hcd⟩ := F.ex
  intro s H u v Q E e0 hb rv hsp
  have old : ∀ b o, base.get? b = some o → s.heap.get? b = some o := fun b o e => (e0.bs b o e).1
  have KX : K.In s.heap := e0.mod.kin.keeps old
  have hx : (defScope st).names.lookup x = some .local ∨ (defScope st).names.lookup x = some .cell := S.par x (List.mem_singleton.mpr rfl)
  have hkind : ∀ y ∈ [(x, u)], (defScope st).names.lookup y.1 = some .local ∨ ((defScope st).names.lookup y.1 = some .cell ∧ ((cellsFrom (s.heap.objs.size + 1) (defScope st).names []).lookup y.1).isSome = true) := fun y hy => by
    have ey : y = (x, u) := List.mem_singleton.mp hy
    subst ey
    exact hx.imp (fun q => q) fun q => ⟨q, PySem.W.cellsFrom_some _ _ _ (.inl q)⟩
  refine codeAny_call_function room_law.depth (KX _ _ lk) rfl S.co S.gen rfl (PySem.W.codeRec_of KX hcd) (hb _ _ _ _ ?_)
  refine wpAny_newFunctionEnv_cells S.kind hkind fun env he s1 ic => ?_
  subst he
  refine ⟨(e0.mod.nolimit.keeps old).keeps ic.toInCall.keep, codeAny_func ?_⟩
  obtain ⟨t, ht, hq⟩ := B cdv s H v Q E hsp
  have I := inv_start (CX := CX0) (E := E) (N := N) (ps := [x]) (us := [u]) (vs := [v]) S rfl e0 rfl (.cons rv .nil) ic
  refine wpAny_mono (ht.nox.run [] s1 (start N [v]) H _ I hq) (fun fl s' hs => ?_) (fun _ _ z => z)
  cases fl with
  | next =>
    obtain ⟨σ', H', J, q⟩ := hs
    exact ⟨.non, H', J.os, J.bare, J.base, J.hok, rfl, q⟩
  | ret u' =>
    obtain ⟨v', σ', H', J, r', q⟩ := hs
    exact ⟨v', H', J.os, J.bare, J.base, J.hok, r', q⟩
  | brk =>
    obtain ⟨_, _, _, q⟩ := hs
    exact q.elim
  | cont =>
    obtain ⟨_, _, _, q⟩ := hs
    exact q.elim
/-- the law's call from its promise: nothing is tracked but (perhaps) the script -/
theorem call_law {P : Program} {w : World} {K : PySem.W.Frag} {mg mb : Str → Option Value} {fa a : Addr} {fd : FuncData} {x : Str} {sp : Sp} {s₁ : Shared} {vs : List Value} {ns : List Int}
    (KX : K.In s₁.heap) (G : s₁.heap.Ns mainGlobals mg) (hb : s₁.heap.Ns builtinsNs mb) (hbb : ∀ y : Str, y ≠ "__name__" → mb y = bootBuiltins y) (hlim : s₁.heap.NoLimit) (hg : s₁.gens = #[])
    (ha : s₁.heap.get? a = some { cls := .type "list", data := .seq vs.toArray }) (hi : IntsAre vs ns) (hl : ns.length ≤ sizeLine)
    (F : ∀ base : Heap, K.In base → base.Ns mainGlobals mg → AtCaller P w K mg base fa fd x sp) (hbind : ∀ (s : Shared) (u : Value), BindsTo s fd ⟨[u], []⟩ [(x, u)])
    (hsp : ∀ H : Hp, SqL K H a (ns.map V.int) → sp [.ref a] H (fun v _ => v = .bl true) E0) :
    codeAny (model P w) callerA (.call (.ref fa) ⟨[.ref a], []⟩) (fun r s' => r = .ok (.ret (.bool true)) ∧ OldK s₁.heap s'.heap ∧ s'.os = s₁.os ∧ AllBare s'.gens) s₁ := by
  have rv := vals_ints hi
  have go : ∀ H : Hp, (∀ b u, H b = some u → b = a ∧ u = .frz { cls := .type "list", data := .seq vs.toArray } (.lst (ns.map V.int)) ∧ K.lookup a = none) → SqL K H a (ns.map V.int) →
      codeAny (model P w) callerA (.call (.ref fa) ⟨[.ref a], []⟩) (fun r s' => r = .ok (.ret (.bool true)) ∧ OldK s₁.heap s'.heap ∧ s'.os = s₁.os ∧ AllBare s'.gens) s₁ := by
    intro H only hS
    have hok : HOk P w H s₁.heap := fun b u e => by
      obtain ⟨e1, e2, _⟩ := only b u e
      subst e1 e2
      exact ⟨ha, by rw [List.length_map]; exact hl, vs, _, rv, ha⟩
    have noD : ∀ {b : Addr} {o : Obj} {es : Array DictEntry} {ep : Nat}, s₁.heap.get? b = some o → o.data = .dict es ep → H b = none := fun {b o es ep} e d => by
      cases q : H b with
      | none => rfl
      | some u =>
        obtain ⟨e1, _, _⟩ := only b u q
        subst e1
        rw [ha] at e
        cases e
        cases d
    have ns1 : ∀ {b : Addr} {m : Str → Option Value}, s₁.heap.Ns b m → (hidT s₁.heap H).Ns b m := fun {b m} ⟨o, es, ep, e, d, r⟩ => ⟨o, es, ep, hidT_get e (noD e d), d, r⟩
    have kb : K.In (hidT s₁.heap H) := fun b o e => hidT_get (KX b o e) (by
      cases q : H b with
      | none => rfl
      | some u =>
        obtain ⟨e1, _, e3⟩ := only b u q
        subst e1
        rw [e3] at e
        cases e)
    have mod : Mod K mg (hidT s₁.heap H) := ⟨kb, ns1 G, ⟨mb, ns1 hb, hbb⟩, let ⟨mc, h1, h2⟩ := hlim; ⟨mc, ns1 h1, h2⟩⟩
    have none_in : ∀ b : Addr, b ∉ frs [] := fun b z => absurd (show b ∈ ([] : List Addr) from z) List.not_mem_nil
    have e0 : Env0 P w K mg (hidT s₁.heap H) callerA [] s₁ H := ⟨rfl, mod, fun b o e => of_hidT e, Nat.le_of_eq (hidT_size _ _), trivial, fun b z => absurd z (none_in b), hok, .of_eq hg⟩
    refine codeAny_mono (F _ kb (ns1 G) s₁ H (.ref a) (.ref a) _ E0 e0 (hbind s₁ _) rfl (hsp H hS)) fun r s' h => ?_
    match r, h with
    | .error _, h => exact False.elim h
    | .ok .next, h => exact False.elim h
    | .ok .brk, h => exact False.elim h
    | .ok .cont, h => exact False.elim h
    | .ok (.ret u), h =>
      obtain ⟨v, H', os, bare, un, hok', r', q⟩ := h
      have ev : v = .bl true := q
      subst ev
      have eu : u = Value.bool true := r'
      subst eu
      refine ⟨rfl, OldK.of_keep fun b o e => ?_, os, bare⟩
      cases hH : H b with
      | none => exact un.keep b o e hH (none_in b) List.not_mem_nil
      | some z =>
        obtain ⟨_, e2, _⟩ := only b z hH
        rw [e2] at hH
        obtain ⟨k1, _⟩ := hok b _ hH
        obtain ⟨k2, _⟩ := hok' b _ (un.frzs b _ _ hH)
        rw [e] at k1
        cases k1
        exact k2
  cases hk : K.lookup a with
  | some o =>
    have e := KX a o hk
    rw [ha] at e
    cases e
    exact go (fun _ => none) (fun b u z => nomatch z) (.inr ⟨_, vs.toArray, _, hk, rfl, rfl, rfl, by rw [List.size_toArray, hi.length]; exact hl, by simpa using rv⟩)
  | none =>
    refine go (fun b => if b = a then some (.frz { cls := .type "list", data := .seq vs.toArray } (.lst (ns.map V.int))) else none) (fun b u z => ?_) (.inl (.inr ⟨_, if_pos rfl⟩))
    by_cases hb : b = a
    · exact ⟨hb, (Option.some.inj ((if_pos hb).symm.trans z)).symm, hk⟩
    · exact nomatch (if_neg hb).symm.trans z
/-- what the head leaves to be shown, from the law's promise -/
theorem walk_law {l : PySem.W.OpenLaw} {n : Nat} {q : Program} {loose : List Str} {XP : (Str → Option Value) → Heap → Prop} {YP : World → Heap → Prop} {d : DefRec} {K : Params → PySem.W.Frag} {sp : PySem.W.Frag → Sp} {x : Str}
    (hn : l.most = some n) (hn2 : n ≤ sizeLine) (hdf : d.params.defaults = []) (hY : ∀ (w : World) (h : Heap), YP w h → (K w.params).In h)
    (F : ∀ (w : World) (mg : Str → Option Value) (fa : Addr) (h : Heap), (K w.params).In h → h.Ns mainGlobals mg → mg d.name = some (.ref fa) →
      ∃ fd : FuncData, (∀ (s : Shared) (u : Value), BindsTo s fd ⟨[u], []⟩ [(x, u)]) ∧ ∀ base : Heap, (K w.params).In base → base.Ns mainGlobals mg → AtCaller l.prog w (K w.params) mg base fa fd x (sp (K w.params)))
    (hsp : ∀ (K : PySem.W.Frag) (H : Hp) (a : Addr) (ns : List Int), ns.length ≤ n → SqL K H a (ns.map V.int) → sp K [.ref a] H (fun v _ => v = .bl true) E0) :
    PySem.W.WalkO q loose XP YP l.row.toRowW d [] (fun f vs => PySem.call f vs) := by
  refine Att.attach_call hn hdf fun w s₀ s₁ mg mb fa o pm cd doc a vs ns G Y ho hd hcd hmg hobj hints hlen hg => ?_
  obtain ⟨fd, hb, hF⟩ := F w mg fa _ (hY w _ Y) G.T.g hmg
  exact call_law (hY w _ Y) G.T.g G.T.b G.T.builtins G.T.nolimit hg hobj hints (Nat.le_trans hlen hn2) hF hb fun H hS => hsp _ H a ns hlen hS
end RLX

namespace RLX
open PySem PySem.Spec PyProof.Rows L2
/-! ### the text by places -/
def topS (i : Nat) : Stmt := PySem.Challenge.pw_everynext_k56_whole_charts_by_ring_lengt.main.body.getD i (.Pass ⟨0, 0, 0, 0⟩)
abbrev sIsInteger : Stmt := topS 8
abbrev sIsFrom : Stmt := topS 9
abbrev sIsBetween : Stmt := topS 10
abbrev sIsLotOf : Stmt := topS 11
abbrev sCheckMany : Stmt := topS 13
abbrev sTimesItself : Stmt := topS 14
abbrev sCheckRoots : Stmt := topS 15
abbrev sForestsOn : Stmt := topS 16
abbrev sForestCount : Stmt := topS 17
abbrev sRingWays : Stmt := topS 19
abbrev sRingPlaceCounts : Stmt := topS 20
abbrev sRowsInRings : Stmt := topS 21
abbrev sPieceCounts : Stmt := topS 22
abbrev sCheckLengths : Stmt := topS 23
abbrev sRingLengthCount : Stmt := topS 24
abbrev sSource : Stmt := topS 26
abbrev sDraw : Stmt := topS 27
abbrev sChoose : Stmt := topS 28
abbrev sTimes : Stmt := topS 29
abbrev sDown : Stmt := topS 30
abbrev sBadMany : Stmt := topS 31
abbrev sPartings : Stmt := topS 32
abbrev sWays : Stmt := topS 33
abbrev sTold : Stmt := topS 34
abbrev sRefused : Stmt := topS 35
abbrev sLaw : Stmt := topS 36
theorem scIsInteger : FnScope ["value"] ["value"] (defScope sIsInteger) := ⟨rfl, rfl, rfl, by decide +kernel, rfl, by decide +kernel, by decide +kernel⟩
theorem scIsFrom : FnScope ["low", "value"] ["low", "value"] (defScope sIsFrom) := ⟨rfl, rfl, rfl, by decide +kernel, rfl, by decide +kernel, by decide +kernel⟩
theorem scIsBetween : FnScope ["low", "value", "high"] ["low", "value", "high"] (defScope sIsBetween) := ⟨rfl, rfl, rfl, by decide +kernel, rfl, by decide +kernel, by decide +kernel⟩
theorem scIsLotOf : FnScope ["many", "value", "place", "k"] ["many", "value"] (defScope sIsLotOf) := ⟨rfl, rfl, rfl, by decide +kernel, rfl, by decide +kernel, by decide +kernel⟩
theorem scCheckMany : FnScope ["value"] ["value"] (defScope sCheckMany) := ⟨rfl, rfl, rfl, by decide +kernel, rfl, by decide +kernel, by decide +kernel⟩
theorem scTimesItself : FnScope ["base", "times", "found", "turn"] ["base", "times"] (defScope sTimesItself) := ⟨rfl, rfl, rfl, by decide +kernel, rfl, by decide +kernel, by decide +kernel⟩
theorem scCheckRoots : FnScope ["many", "lot"] ["many", "lot"] (defScope sCheckRoots) := ⟨rfl, rfl, rfl, by decide +kernel, rfl, by decide +kernel, by decide +kernel⟩
theorem scForestsOn : FnScope ["many", "roots"] ["many", "roots"] (defScope sForestsOn) := ⟨rfl, rfl, rfl, by decide +kernel, rfl, by decide +kernel, by decide +kernel⟩
theorem scForestCount : FnScope ["many", "lot"] ["many", "lot"] (defScope sForestCount) := ⟨rfl, rfl, rfl, by decide +kernel, rfl, by decide +kernel, by decide +kernel⟩
theorem scRingWays : FnScope ["many", "places"] ["many", "places"] (defScope sRingWays) := ⟨rfl, rfl, rfl, by decide +kernel, rfl, by decide +kernel, by decide +kernel⟩
theorem scRingPlaceCounts : FnScope ["many", "places"] ["many"] (defScope sRingPlaceCounts) := ⟨rfl, rfl, rfl, by decide +kernel, rfl, by decide +kernel, by decide +kernel⟩
theorem scRowsInRings : FnScope ["places", "found", "here", "longer", "rings", "count"] ["places"] (defScope sRowsInRings) := ⟨rfl, rfl, rfl, by decide +kernel, rfl, by decide +kernel, by decide +kernel⟩
theorem scPieceCounts : FnScope ["many", "found", "places", "rings", "count"] ["many"] (defScope sPieceCounts) := ⟨rfl, rfl, rfl, by decide +kernel, rfl, by decide +kernel, by decide +kernel⟩
theorem scCheckLengths : FnScope ["value", "length", "k"] ["value"] (defScope sCheckLengths) := ⟨rfl, rfl, rfl, by decide +kernel, rfl, by decide +kernel, by decide +kernel⟩
theorem scRingLengthCount : FnScope ["many", "lengths", "places", "ways", "k", "length"] ["many", "lengths"] (defScope sRingLengthCount) := ⟨rfl, rfl, rfl, by decide +kernel, rfl, by decide +kernel, by decide +kernel⟩
theorem scSource : FnScope ["_law_cell", "_law_digits"] ["_law_cell"] (defScope sSource) := ⟨rfl, rfl, rfl, by decide +kernel, rfl, by decide +kernel, by decide +kernel⟩
theorem scDraw : FnScope ["_law_source_here", "_law_many", "_law_rest", "_law_found", "_law_turn", "_law_mixed"] ["_law_source_here", "_law_many"] (defScope sDraw) := ⟨rfl, rfl, rfl, by decide +kernel, rfl, by decide +kernel, by decide +kernel⟩
theorem scChoose : FnScope ["_law_many", "_law_few", "_law_found", "_law_k"] ["_law_many", "_law_few"] (defScope sChoose) := ⟨rfl, rfl, rfl, by decide +kernel, rfl, by decide +kernel, by decide +kernel⟩
theorem scTimes : FnScope ["_law_base", "_law_count", "_law_found", "_law_turn"] ["_law_base", "_law_count"] (defScope sTimes) := ⟨rfl, rfl, rfl, by decide +kernel, rfl, by decide +kernel, by decide +kernel⟩
theorem scDown : FnScope ["_law_many", "_law_few", "_law_found", "_law_k"] ["_law_many", "_law_few"] (defScope sDown) := ⟨rfl, rfl, rfl, by decide +kernel, rfl, by decide +kernel, by decide +kernel⟩
theorem scBadMany : FnScope ["_law_source_here"] ["_law_source_here"] (defScope sBadMany) := ⟨rfl, rfl, rfl, by decide +kernel, rfl, by decide +kernel, by decide +kernel⟩
theorem scPartings : FnScope ["_law_total", "_law_least", "_law_found", "_law_first", "_law_rest"] ["_law_total", "_law_least"] (defScope sPartings) := ⟨rfl, rfl, rfl, by decide +kernel, rfl, by decide +kernel, by decide +kernel⟩
theorem scWays : FnScope ["_law_many", "_law_lengths", "_law_left", "_law_found", "_law_k", "_law_places"] ["_law_many", "_law_lengths"] (defScope sWays) := ⟨rfl, rfl, rfl, by decide +kernel, rfl, by decide +kernel, by decide +kernel⟩
theorem scTold : FnScope ["_law_many", "_law_lengths", "_law_found"] ["_law_many", "_law_lengths"] (defScope sTold) := ⟨rfl, rfl, rfl, by decide +kernel, rfl, by decide +kernel, by decide +kernel⟩
theorem scRefused : FnScope ["_law_source_here", "_law_many", "_law_lengths", "_law_bad", "_law_at", "_law_odd", "_law_some", "_law_k", "_law_last", "_law_wrong"] ["_law_source_here", "_law_many", "_law_lengths"] (defScope sRefused) := ⟨rfl, rfl, rfl, by decide +kernel, rfl, by decide +kernel, by decide +kernel⟩
theorem scLaw : FnScope ["_law_script", "_law_cell", "_law_source_here", "_law_many", "_law_places", "_law_pieces", "_law_k", "_law_total", "_law_lengths", "_law_due", "_law_beyond", "_law_turn"] ["_law_script"] (defScope sLaw) := ⟨rfl, rfl, rfl, by decide +kernel, rfl, by decide +kernel, by decide +kernel⟩
end RLX

namespace RLX
open PySem PySem.Spec PyProof.Rows L2
/-! ### plain values -/
def Plain (H : Hp) : V → Prop
  | .non | .bl _ | .int _ | .str _ => True
  | .ref a => (∃ xs, H a = some (.lst xs)) ∨ (∃ xs, H a = some (.tup xs))
  | _ => False
theorem Plain.same {H H' : Hp} (s : Same H H') : ∀ {v : V}, Plain H v → Plain H' v
  | .non, _ => trivial
  | .bl _, _ => trivial
  | .int _, _ => trivial
  | .str _, _ => trivial
  | .ref a, h => h.imp (fun ⟨xs, e⟩ => ⟨xs, s _ _ e⟩) fun ⟨xs, e⟩ => ⟨xs, s _ _ e⟩
def isInt : V → Bool
  | .int _ => true
  | _ => false
def isBl : V → Bool
  | .bl _ => true
  | _ => false
/-- from a number on -/
def fromB (lo : Int) : V → Bool
  | .int i => decide (i ≥ lo)
  | _ => false
def betw (lo : Int) (v : V) (hi : Int) : Bool := match v with
  | .int i => decide (lo ≤ i) && decide (i ≤ hi)
  | _ => false
theorem kit_plain {K : PySem.W.Frag} {H : Hp} : ∀ {v : V}, Plain H v → ∃ t, TyX K H v (.type t) ∧ PySem.W.kitOne K (.type t) (.type "int") = some (isInt v || isBl v) ∧ PySem.W.kitOne K (.type t) (.type "bool") = some (isBl v)
  | .non, _ => ⟨_, .base .non, kit_ty (by decide +kernel), kit_ty (by decide +kernel)⟩
  | .bl b, _ => ⟨_, .base (.bl b), kit_ty (r := true) (by decide +kernel), kit_ty (r := true) (by decide +kernel)⟩
  | .int i, _ => ⟨_, .base (.int i), kit_ty (r := true) (by decide +kernel), kit_ty (r := false) (by decide +kernel)⟩
  | .str x, _ => ⟨_, .base (.str x), kit_ty (r := false) (by decide +kernel), kit_ty (r := false) (by decide +kernel)⟩
  | .ref a, .inl ⟨_, e⟩ => ⟨_, .base (.lst e), kit_ty (r := false) (by decide +kernel), kit_ty (r := false) (by decide +kernel)⟩
  | .ref a, .inr ⟨_, e⟩ => ⟨_, .base (.tup e), kit_ty (r := false) (by decide +kernel), kit_ty (r := false) (by decide +kernel)⟩
/-! ### promises -/
def spIsInteger : Sp := fun vs H Q _ => ∃ v, vs = [v] ∧ Plain H v ∧ Q (.bl (isInt v)) H
def spIsFrom : Sp := fun vs H Q _ => ∃ (lo : Int) (v : V), vs = [.int lo, v] ∧ Plain H v ∧ Q (.bl (fromB lo v)) H
def spIsBetween : Sp := fun vs H Q _ => ∃ (lo : Int) (v : V) (hi : Int), vs = [.int lo, v, .int hi] ∧ Plain H v ∧ Q (.bl (betw lo v hi)) H
section
variable {P : Program} {w : World} {K : PySem.W.Frag} {mg : Str → Option Value} {base : Heap} {f g : Addr} {fd gd : FuncData}
theorem ok_isInteger (F : Fun K "is_integer" "is_integer" sIsInteger f fd) (m1 : mg "isinstance" = none) (m2 : mg "int" = none) (m3 : mg "bool" = none) : FnOk P w K mg base CX0 1 f fd ["value"] spIsInteger := by
  refine F.ok scIsInteger (fun vs H Q E h => ?_) (fun cdv A outer s H vs Q E hr h => ?_)
  · obtain ⟨v, rfl, _⟩ := h
    rfl
  obtain ⟨v, rfl, hv, q⟩ := h
  obtain ⟨t, ty, k1, k2⟩ := kit_plain (K := K) hv
  refine ⟨_, pss_one (ps_ret (pe_and (pe_callB call_isi (by rfl) m1 (by decide +kernel) (pa_cons (pv 0) (pa_cons (pe_bltn (v := .ty "int") (by rfl) m2 (by decide +kernel) rfl) pa_nil)))
    (pe_one (pe_not (pe_callB call_isi (by rfl) m1 (by decide +kernel) (pa_cons (pv 0) (pa_cons (pe_bltn (v := .ty "bool") (by rfl) m3 (by decide +kernel) rfl) pa_nil))))))), ?_⟩
  refine ⟨_, rfl, v, .ty "int", _, _, _, rfl, .ty _, ty, k1, _, rfl, ite2 (fun c => ?_) (fun c => ?_)⟩
  · refine ⟨_, rfl, v, .ty "bool", _, _, _, rfl, .ty _, ty, k2, _, rfl, ?_⟩
    have e : (!isBl v) = isInt v := by
      cases v <;> first | rfl | (exact absurd c Bool.false_ne_true)
    rw [e]
    exact q
  · have e : isInt v = false := by
      cases v <;> first | rfl | (exact absurd rfl c)
    rw [e] at q
    exact q
theorem ok_isFrom (F : Fun K "is_from" "is_from" sIsFrom f fd) (G : FnOk P w K mg base CX0 1 g gd ["value"] spIsInteger) (bG : Binds K gd ["value"] []) (kG : PySem.W.keepIn K (.ref g) = true) (mG : mg "is_integer" = some (.ref g)) : FnOk P w K mg base CX0 2 f fd ["low", "value"] spIsFrom := by
  refine F.ok scIsFrom (fun vs H Q E h => ?_) (fun cdv A outer s H vs Q E hr h => ?_)
  · obtain ⟨lo, v, rfl, _⟩ := h
    rfl
  obtain ⟨lo, v, rfl, hv, q⟩ := h
  refine ⟨_, pss_one (ps_ret (pe_and (pe_call G hr rfl mG kG bG .nil pass0 (pa_cons (pv 1) pa_nil)) (pe_one (pe_cmpR op_ge (pv 1) (pv 0) (nomark _))))), ?_⟩
  refine ⟨_, rfl, v, rfl, hv, _, rfl, ite2 (fun c => ?_) (fun c => ?_)⟩
  · cases v with
    | int i => exact ⟨_, rfl, _, rfl, i, lo, rfl, rfl, q⟩
    | _ => exact absurd c Bool.false_ne_true
  · have e : fromB lo v = false := by
      cases v <;> first | rfl | (exact absurd rfl c)
    rw [e] at q
    exact q
theorem ok_isBetween (F : Fun K "is_between" "is_between" sIsBetween f fd) (G : FnOk P w K mg base CX0 1 g gd ["value"] spIsInteger) (bG : Binds K gd ["value"] []) (kG : PySem.W.keepIn K (.ref g) = true) (mG : mg "is_integer" = some (.ref g)) : FnOk P w K mg base CX0 2 f fd ["low", "value", "high"] spIsBetween := by
  refine F.ok scIsBetween (fun vs H Q E h => ?_) (fun cdv A outer s H vs Q E hr h => ?_)
  · obtain ⟨lo, v, hi, rfl, _⟩ := h
    rfl
  obtain ⟨lo, v, hi, rfl, hv, q⟩ := h
  refine ⟨_, pss_one (ps_ret (pe_and (pe_call G hr rfl mG kG bG .nil pass0 (pa_cons (pv 1) pa_nil)) (pe_one (pe_chain op_le op_le (pv 0) (pv 1) (pv 2))))), ?_⟩
  refine ⟨_, rfl, v, rfl, hv, _, rfl, ite2 (fun c => ?_) (fun c => ?_)⟩
  · cases v with
    | int i =>
      refine ⟨_, rfl, _, rfl, lo, i, rfl, rfl, _, rfl, ite2 (fun c1 => ?_) (fun c1 => ?_)⟩
      · refine ⟨_, rfl, i, hi, rfl, rfl, ?_⟩
        have e : betw lo (.int i) hi = decide (i ≤ hi) := by
          show (decide (lo ≤ i) && decide (i ≤ hi)) = _
          rw [c1, Bool.true_and]
        rw [e] at q
        exact q
      · have e : betw lo (.int i) hi = false := by
          show (decide (lo ≤ i) && decide (i ≤ hi)) = _
          rw [Bool.eq_false_iff.mpr c1, Bool.false_and]
        rw [e] at q
        exact q
    | _ => exact absurd c Bool.false_ne_true
  · have e : betw lo v hi = false := by
      cases v <;> first | rfl | (exact absurd rfl c)
    rw [e] at q
    exact q
end
end RLX

/-! the mathematics: what the small defs compute -/
namespace RL
/-- product of so many factors -/
def pw (b : Int) : Nat → Int
  | 0 => 1
  | n + 1 => pw b n * b
/-- falling product -/
def down (b : Int) : Nat → Int
  | 0 => 1
  | n + 1 => down b n * (b - n)
def choose (n : Int) : Nat → Int
  | 0 => 1
  | k + 1 => choose n k * (n - k) / ((k : Int) + 1)
def forestsOn (n r : Int) : Int := if r < n then r * pw n (n - r - 1).toNat else 1
def ringWays (n p : Int) : Int := PySem.W.mcComb n p * forestsOn n p
def fact (n : Int) : Int := ((PySem.Builtin.Math.factorialNat n.toNat : Nat) : Int)
theorem upto {p : Int → Prop} {m : Nat} (h : ∀ i ∈ List.range (m + 1), p (i : Int)) {n : Int} (h0 : 0 ≤ n) (h1 : n ≤ m) : p n := by
  have q := h n.toNat (List.mem_range.mpr (by omega))
  rw [show ((n.toNat : Nat) : Int) = n by omega] at q
  exact q
theorem comb_small {n p : Int} (h0 : 0 ≤ n) (h1 : n ≤ 10) (h2 : 0 ≤ p) (h3 : p ≤ 10) : -(2 ^ 64) < PySem.W.mcComb n p ∧ PySem.W.mcComb n p < 2 ^ 64 :=
  upto (p := fun n => ∀ p : Int, 0 ≤ p → p ≤ 10 → -(2 ^ 64) < PySem.W.mcComb n p ∧ PySem.W.mcComb n p < 2 ^ 64) (m := 10)
    (fun i hi p h2 h3 => upto (p := fun p => -(2 ^ 64) < PySem.W.mcComb i p ∧ PySem.W.mcComb i p < 2 ^ 64) (m := 10) (fun j hj =>
      (by decide +kernel : ∀ i ∈ List.range 11, ∀ j ∈ List.range 11, -(2 ^ 64) < PySem.W.mcComb (i : Int) (j : Int) ∧ PySem.W.mcComb (i : Int) (j : Int) < 2 ^ 64) i hi j hj) h2 h3) h0 h1 p h2 h3
end RL
namespace RLX
open PySem PySem.Spec PyProof.Rows L2 RL
/-! ### what is known of the classes of errors -/
abbrev veBases : List Value := [.type "ValueError", .type "Exception", .type "BaseException", .type "object"]
structure ErrAt (K : PySem.W.Frag) (mg : Str → Option Value) (x : Str) (C : Addr) : Prop where
  g : mg x = some (.ref C)
  x : PySem.W.excIn K C veBases "ValueError.__new__" = true
  k : PySem.W.keepIn K (.ref C) = true
  b : PySem.W.subIn K (.ref C) (.type "BaseException") = some true
  t : PySem.W.typeIn K (.ref C) = some (.type "type")
/-- check_many: InvalidCount unless 1 to 10 -/
def spCheckMany (C : Addr) : Sp := fun vs H Q E => ∃ v, vs = [v] ∧ Plain H v ∧ (betw 1 v 10 = true → Q .non H) ∧ (betw 1 v 10 = false → E (.ref C) none H)
def spTimesItself : Sp := fun vs H Q _ => ∃ b t : Int, vs = [.int b, .int t] ∧ (-(2 ^ 64) < b ∧ b < 2 ^ 64) ∧ -1000 ≤ t ∧ t ≤ 1000 ∧ Q (.int (pw b t.toNat)) H
def spForestsOn : Sp := fun vs H Q _ => ∃ n r : Int, vs = [.int n, .int r] ∧ 0 ≤ n ∧ n ≤ 10 ∧ 0 ≤ r ∧ r ≤ 10 ∧ Q (.int (forestsOn n r)) H
def spRingWays : Sp := fun vs H Q _ => ∃ n p : Int, vs = [.int n, .int p] ∧ 0 ≤ n ∧ n ≤ 10 ∧ 0 ≤ p ∧ p ≤ n ∧ Q (.int (ringWays n p)) H
def spChoose : Sp := fun vs H Q _ => ∃ n k : Int, vs = [.int n, .int k] ∧ (-1000 ≤ n ∧ n ≤ 1000) ∧ -1000 ≤ k ∧ k ≤ 1000 ∧ Q (.int (choose n k.toNat)) H
def spDown : Sp := fun vs H Q _ => ∃ n k : Int, vs = [.int n, .int k] ∧ (-1000 ≤ n ∧ n ≤ 1000) ∧ -1000 ≤ k ∧ k ≤ 1000 ∧ Q (.int (down n k.toNat)) H
section
variable {P : Program} {w : World} {K : PySem.W.Frag} {mg : Str → Option Value} {base : Heap} {f g : Addr} {fd gd : FuncData}
theorem ok_checkMany {C : Addr} {tk : Tok} (F : Fun K "check_many" "check_many" sCheckMany f fd) (G : FnOk P w K mg base CX0 2 g gd ["low", "value", "high"] spIsBetween) (bG : Binds K gd ["low", "value", "high"] []) (kG : PySem.W.keepIn K (.ref g) = true) (mG : mg "is_between" = some (.ref g))
    (mM : mg "MOST_PLACES" = some (.int 10 tk)) (T : ErrAt K mg "InvalidCount" C) : FnOk P w K mg base (L2.CX P w) 3 f fd ["value"] (spCheckMany C) := by
  refine F.okX scCheckMany (fun vs H Q E h => ?_) (fun cdv A outer s H vs Q E hr h => ?_)
  · obtain ⟨v, rfl, _⟩ := h
    rfl
  obtain ⟨v, rfl, hv, q1, q2⟩ := h
  refine ⟨_, pss_one (ps_if (pt_not (pt_val (pe_call G hr rfl mG kG bG .nil pass0 (pa_cons pe_int (pa_cons (pv 0) (pa_cons (pe_glob (v := .int 10) rfl mM ⟨_, rfl⟩) pa_nil))))))
    (pss_one (ps_raise rfl (takes_of rfl rfl rfl rfl) (pmk_own PySem.F.excBase_ValueError T.x T.g T.k (raises_own T.b T.t) (by exact rfl)))) pss_nil), ?_⟩
  refine ⟨_, rfl, 1, v, 10, rfl, hv, _, rfl, ite2 (fun c => ?_) (fun c => ?_)⟩
  · exact q2 (by simpa using c)
  · exact q1 (by simpa using c)
theorem ok_timesItself (F : Fun K "times_itself" "times_itself" sTimesItself f fd) (mr : mg "range" = none) : FnOk P w K mg base CX0 1 f fd ["base", "times"] spTimesItself := by
  refine F.ok scTimesItself (fun vs H Q E h => ?_) (fun cdv A outer s H vs Q E hr h => ?_)
  · obtain ⟨b, t, rfl, _⟩ := h
    rfl
  obtain ⟨b, t, rfl, hb, h0, h1, q⟩ := h
  refine ⟨_, pss_cons (ps_set (i := 2) scTimesItself.nd rfl (.inl rfl) pe_int)
    (pss_cons (ps_for PassesOwn.never rfl (pi_range1 rfl mr (pa_cons (pv 1) pa_nil)) (pg_name (i := 3) scTimesItself.nd rfl (.inl rfl)) (pss_one (ps_aug (i := 2) scTimesItself.nd rfl (.inl rfl) (pv 0) iop_mul)))
    (pss_one (ps_ret (pv 2)))), ?_⟩
  refine ⟨_, rfl, t, rfl, by omega, by omega, for_range (lo := 0) (n := t.toNat) (fun i σ H' => ∃ y, σ = [some (.int b), some (.int t), some (.int (pw b i)), y] ∧ H' = H) ⟨none, rfl, rfl⟩ ?_ ?_⟩
  · rintro i σ H' hi ⟨y, rfl, rfl⟩
    exact ⟨_, rfl, _, rfl, pw b i, b, rfl, rfl, .inr hb, _, rfl, rfl⟩
  · rintro σ H' ⟨y, rfl, rfl⟩
    exact ⟨_, rfl, q⟩
theorem ok_forestsOn (F : Fun K "forests_on" "forests_on" sForestsOn f fd) (G : FnOk P w K mg base CX0 1 g gd ["base", "times"] spTimesItself) (bG : Binds K gd ["base", "times"] []) (kG : PySem.W.keepIn K (.ref g) = true) (mG : mg "times_itself" = some (.ref g)) : FnOk P w K mg base CX0 2 f fd ["many", "roots"] spForestsOn := by
  refine F.ok scForestsOn (fun vs H Q E h => ?_) (fun cdv A outer s H vs Q E hr h => ?_)
  · obtain ⟨n, r, rfl, _⟩ := h
    rfl
  obtain ⟨n, r, rfl, h0, h1, h2, h3, q⟩ := h
  refine ⟨_, pss_one (ps_ret (pe_ifExp (pt_cmpR op_lt (pv 1) (pv 0) (nomark _)) (pe_op op_mul (pv 1) (pe_call G hr rfl mG kG bG .nil pass0 (pa_cons (pv 0) (pa_cons (pe_op op_sub (pe_op op_sub (pv 0) (pv 1)) pe_int) pa_nil)))) pe_int)), ?_⟩
  refine ⟨_, rfl, _, rfl, r, n, rfl, rfl, _, rfl, ite2 (fun c => ?_) (fun c => ?_)⟩
  · have c' : r < n := of_decide_eq_true c
    refine ⟨_, rfl, _, rfl, _, rfl, _, rfl, n, r, rfl, rfl, n - r, 1, rfl, rfl, n, n - r - 1, rfl, by omega, by omega, by omega, r, _, rfl, rfl, .inl (by omega), ?_⟩
    have e : forestsOn n r = r * pw n (n - r - 1).toNat := if_pos c'
    rw [e] at q
    exact q
  · have e : forestsOn n r = 1 := if_neg (fun z => c (decide_eq_true z))
    rw [e] at q
    exact q
theorem ok_ringWays (F : Fun K "ring_ways" "ring_ways" sRingWays f fd) (mC : mg "comb" = some (.builtin "math.comb")) (G : FnOk P w K mg base CX0 2 g gd ["many", "roots"] spForestsOn) (bG : Binds K gd ["many", "roots"] []) (kG : PySem.W.keepIn K (.ref g) = true) (mG : mg "forests_on" = some (.ref g)) : FnOk P w K mg base CX0 3 f fd ["many", "places"] spRingWays := by
  refine F.ok scRingWays (fun vs H Q E h => ?_) (fun cdv A outer s H vs Q E hr h => ?_)
  · obtain ⟨n, r, rfl, _⟩ := h
    rfl
  obtain ⟨n, p, rfl, h0, h1, h2, h3, q⟩ := h
  refine ⟨_, pss_one (ps_ret (pe_op op_mul (pe_callBfun my_comb rfl mC (pa_cons (pv 0) (pa_cons (pv 1) pa_nil))) (pe_call G hr rfl mG kG bG .nil pass0 (pa_cons (pv 0) (pa_cons (pv 1) pa_nil))))), ?_⟩
  refine ⟨_, rfl, _, rfl, n, p, rfl, h2, h3, by omega, _, rfl, _, rfl, n, p, rfl, h0, h1, h2, by omega, _, _, rfl, rfl, .inl (comb_small h0 h1 h2 (by omega)), q⟩
theorem ok_choose (F : Fun K "_law_choose" "_law_choose" sChoose f fd) (mr : mg "range" = none) : FnOk P w K mg base CX0 1 f fd ["_law_many", "_law_few"] spChoose := by
  refine F.ok scChoose (fun vs H Q E h => ?_) (fun cdv A outer s H vs Q E hr h => ?_)
  · obtain ⟨n, k, rfl, _⟩ := h
    rfl
  obtain ⟨n, k, rfl, hn, h0, h1, q⟩ := h
  refine ⟨_, pss_cons (ps_set (i := 2) scChoose.nd rfl (.inl rfl) pe_int)
    (pss_cons (ps_for PassesOwn.never rfl (pi_range1 rfl mr (pa_cons (pv 1) pa_nil)) (pg_name (i := 3) scChoose.nd rfl (.inl rfl))
      (pss_one (ps_set (i := 2) scChoose.nd rfl (.inl rfl) (pe_op op_fdiv (pe_op op_mul (pv 2) (pe_op op_sub (pv 0) (pv 3))) (pe_op op_add (pv 3) pe_int)))))
    (pss_one (ps_ret (pv 2)))), ?_⟩
  refine ⟨_, rfl, k, rfl, by omega, by omega, for_range (lo := 0) (n := k.toNat) (fun i σ H' => ∃ y, σ = [some (.int n), some (.int k), some (.int (choose n i)), y] ∧ H' = H) ⟨none, rfl, rfl⟩ ?_ ?_⟩
  · rintro i σ H' hi ⟨y, rfl, rfl⟩
    refine ⟨_, rfl, _, rfl, _, rfl, n, 0 + i, rfl, rfl, choose n i, n - (0 + i), rfl, rfl, .inr (by omega), _, rfl, 0 + i, 1, rfl, rfl, _, (0 : Int) + i + 1, rfl, rfl, ⟨by omega, by omega⟩, some (.int (0 + i)), ?_, rfl⟩
    have e : choose n (i + 1) = choose n i * (n - (0 + i)) / ((0 : Int) + i + 1) := by
      rw [Int.zero_add]
      rfl
    rw [e]
    rfl
  · rintro σ H' ⟨y, rfl, rfl⟩
    exact ⟨_, rfl, q⟩
theorem ok_times (F : Fun K "_law_times" "_law_times" sTimes f fd) (mr : mg "range" = none) : FnOk P w K mg base CX0 1 f fd ["_law_base", "_law_count"] spTimesItself := by
  refine F.ok scTimes (fun vs H Q E h => ?_) (fun cdv A outer s H vs Q E hr h => ?_)
  · obtain ⟨b, t, rfl, _⟩ := h
    rfl
  obtain ⟨b, t, rfl, hb, h0, h1, q⟩ := h
  refine ⟨_, pss_cons (ps_set (i := 2) scTimes.nd rfl (.inl rfl) pe_int)
    (pss_cons (ps_for PassesOwn.never rfl (pi_range1 rfl mr (pa_cons (pv 1) pa_nil)) (pg_name (i := 3) scTimes.nd rfl (.inl rfl)) (pss_one (ps_set (i := 2) scTimes.nd rfl (.inl rfl) (pe_op op_mul (pv 2) (pv 0)))))
    (pss_one (ps_ret (pv 2)))), ?_⟩
  refine ⟨_, rfl, t, rfl, by omega, by omega, for_range (lo := 0) (n := t.toNat) (fun i σ H' => ∃ y, σ = [some (.int b), some (.int t), some (.int (pw b i)), y] ∧ H' = H) ⟨none, rfl, rfl⟩ ?_ ?_⟩
  · rintro i σ H' hi ⟨y, rfl, rfl⟩
    exact ⟨_, rfl, _, rfl, pw b i, b, rfl, rfl, .inr hb, _, rfl, rfl⟩
  · rintro σ H' ⟨y, rfl, rfl⟩
    exact ⟨_, rfl, q⟩
theorem ok_down (F : Fun K "_law_down" "_law_down" sDown f fd) (mr : mg "range" = none) : FnOk P w K mg base CX0 1 f fd ["_law_many", "_law_few"] spDown := by
  refine F.ok scDown (fun vs H Q E h => ?_) (fun cdv A outer s H vs Q E hr h => ?_)
  · obtain ⟨n, k, rfl, _⟩ := h
    rfl
  obtain ⟨n, k, rfl, hn, h0, h1, q⟩ := h
  refine ⟨_, pss_cons (ps_set (i := 2) scDown.nd rfl (.inl rfl) pe_int)
    (pss_cons (ps_for PassesOwn.never rfl (pi_range1 rfl mr (pa_cons (pv 1) pa_nil)) (pg_name (i := 3) scDown.nd rfl (.inl rfl))
      (pss_one (ps_set (i := 2) scDown.nd rfl (.inl rfl) (pe_op op_mul (pv 2) (pe_op op_sub (pv 0) (pv 3))))))
    (pss_one (ps_ret (pv 2)))), ?_⟩
  refine ⟨_, rfl, k, rfl, by omega, by omega, for_range (lo := 0) (n := k.toNat) (fun i σ H' => ∃ y, σ = [some (.int n), some (.int k), some (.int (down n i)), y] ∧ H' = H) ⟨none, rfl, rfl⟩ ?_ ?_⟩
  · rintro i σ H' hi ⟨y, rfl, rfl⟩
    refine ⟨_, rfl, _, rfl, _, rfl, n, 0 + i, rfl, rfl, down n i, n - (0 + i), rfl, rfl, .inr (by omega), some (.int (0 + i)), ?_, rfl⟩
    have e : down n (i + 1) = down n i * (n - (0 + i)) := by
      rw [Int.zero_add]
      rfl
    rw [e]
    rfl
  · rintro σ H' ⟨y, rfl, rfl⟩
    exact ⟨_, rfl, q⟩
end
end RLX

namespace RLX
open PySem PySem.Spec PyProof.Rows L2 RL
/-! ### the law's source of numbers -/
def spSource : Sp := fun vs H Q _ => ∃ c : Int, vs = [.int c] ∧ ∀ (p : Addr) (d s : Int), H p = none → 0 ≤ d → 0 ≤ s → s < 2 ^ 61 → Q (.ref p) (upd H p (.lst [.int d, .int s, .int 0]))
def spDraw : Sp := fun vs H Q _ => ∃ (a : Addr) (m x y t : Int), vs = [.ref a, .int m] ∧ H a = some (.lst [.int x, .int y, .int t]) ∧ 1 ≤ m ∧ m ≤ 1000000 ∧ 0 ≤ x ∧ 0 ≤ y ∧ y < 2 ^ 61 ∧ 0 ≤ t ∧ t ≤ 1000 ∧
  ∀ v x' t' : Int, 0 ≤ v → v < m → 0 ≤ x' → t ≤ t' → t' ≤ t + 1 → Q (.int v) (upd H a (.lst [.int x', .int y, .int t']))
theorem rest_draw {x m : Int} (hm : 1 ≤ m) : 0 ≤ x - x / m * m ∧ x - x / m * m < m := by
  have e : x - x / m * m = x % m := by
    rw [Int.emod_def, Int.mul_comm]
  rw [e]
  exact ⟨Int.emod_nonneg _ (by omega), Int.emod_lt_of_pos _ (by omega)⟩
theorem and_road {k : Bool} {R E : Prop} (hE : E) (hR : k = true → E → R) : if k = true then R else E := by
  cases k with
  | false => exact iteF hE
  | true => exact iteT (hR rfl hE)
section
variable {P : Program} {w : World} {K : PySem.W.Frag} {mg : Str → Option Value} {base : Heap} {f g : Addr} {fd gd : FuncData}
theorem ok_source (F : Fun K "_law_source" "_law_source" sSource f fd) (mi : mg "int" = none) : FnOk P w K mg base CX0 1 f fd ["_law_cell"] spSource := by
  refine F.ok scSource (fun vs H Q E h => ?_) (fun cdv A outer s H vs Q E hr h => ?_)
  · obtain ⟨c, rfl, _⟩ := h
    rfl
  obtain ⟨c, rfl, q⟩ := h
  refine ⟨_, pss_cons (ps_set (i := 1) scSource.nd rfl (.inl rfl) (pe_ifExp (pt_cmpR op_ge (pv 0) (pe_op op_pow pe_int pe_int) (nomark _)) (pe_op op_sub (pv 0) (pe_op op_pow pe_int pe_int)) pe_int))
    (pss_one (ps_ret (pe_lst (pa_cons (pv 1) (pa_cons (pe_op op_mod (pe_callTy call_int1 (by rfl) mi (by decide +kernel) (pa_cons (pv 0) pa_nil)) pe_int) (pa_cons pe_int pa_nil)))))), ?_⟩
  have tail : ∀ d : Int, 0 ≤ d → ∀ p, H p = none → Q (.ref p) (upd H p (.lst [.int d, .int (c % 2305843009213693951), .int 0])) := fun d hd p hp =>
    q p d _ hp hd (Int.emod_nonneg _ (by decide)) (Int.lt_trans (Int.emod_lt_of_pos _ (by decide)) (by decide))
  refine ⟨_, rfl, 10, 18, rfl, rfl, ⟨by decide, by decide, by decide⟩, c, _, rfl, rfl, _, rfl, ite2 (fun z => ?_) (fun z => ?_)⟩
  · have z' : c ≥ 10 ^ (18 : Int).toNat := of_decide_eq_true z
    refine ⟨_, rfl, 10, 18, rfl, rfl, ⟨by decide, by decide, by decide⟩, c, _, rfl, rfl, ?_⟩
    refine ⟨_, rfl, _, rfl, .inl ⟨c, rfl, c, 2305843009213693951, rfl, rfl, (by decide : (0 : Int) < 2305843009213693951), (by show 3 ≤ sizeLine; decide), tail _ (by omega)⟩⟩
  · exact ⟨_, rfl, _, rfl, .inl ⟨c, rfl, c, 2305843009213693951, rfl, rfl, (by decide : (0 : Int) < 2305843009213693951), (by show 3 ≤ sizeLine; decide), tail _ (Int.le_refl 0)⟩⟩
theorem ok_draw (F : Fun K "_law_draw" "_law_draw" sDraw f fd) (mi : mg "int" = none) : FnOk P w K mg base CX0 1 f fd ["_law_source_here", "_law_many"] spDraw := by
  refine F.ok scDraw (fun vs H Q E h => ?_) (fun cdv A outer s H vs Q E hr h => ?_)
  · obtain ⟨a, m, x, y, t, rfl, _⟩ := h
    rfl
  obtain ⟨a, m, x, y, t, rfl, hH, hm1, hm2, hx, hy0, hy1, ht0, ht1, q⟩ := h
  refine ⟨_, pss_cons (ps_if (PW.pt (pw_and (pt_cmpR op_gt (pe_ix ix_list (pv 0) pe_int (fun _ _ => rfl)) pe_int (nomark _)) (pw_and1 (pt_cmpR op_gt (pv 1) pe_int (nomark _)))))
      (pss_cons (ps_set (i := 2) scDraw.nd rfl (.inl rfl) (pe_op op_fdiv (pe_ix ix_list (pv 0) pe_int (fun _ _ => rfl)) (pv 1)))
      (pss_cons (ps_set (i := 3) scDraw.nd rfl (.inl rfl) (pe_op op_sub (pe_ix ix_list (pv 0) pe_int (fun _ _ => rfl)) (pe_op op_mul (pv 2) (pv 1))))
      (pss_cons (ps_asg (pv 2) (pg_sub (pv 0) pe_int set_list))
      (pss_one (ps_ret (pv 3))))))
      pss_nil)
    (pss_cons (ps_asg (pe_op op_add (pe_ix ix_list (pv 0) pe_int (fun _ _ => rfl)) pe_int) (pg_sub (pv 0) pe_int set_list))
    (pss_cons (ps_set (i := 4) scDraw.nd rfl (.inl rfl) (pe_ix ix_list (pv 0) pe_int (fun _ _ => rfl)))
    (pss_cons (ps_set (i := 5) scDraw.nd rfl (.inl rfl) (pe_op op_mod (pe_callTy call_int1 (by rfl) mi (by decide +kernel) (pa_cons
        (pe_op op_add (pe_op op_add (pe_op op_mul (pe_ix ix_list (pv 0) pe_int (fun _ _ => rfl)) (pe_op op_add (pe_op op_mul pe_int (pv 4)) pe_int)) (pe_op op_mul (pe_op op_mul pe_int (pv 4)) (pv 4))) pe_int) pa_nil)) pe_int))
    (pss_cons (ps_set (i := 5) scDraw.nd rfl (.inl rfl) (pe_op op_fdiv (pe_op op_mod (pe_callTy call_int1 (by rfl) mi (by decide +kernel) (pa_cons
        (pe_op op_add (pe_op op_add (pe_op op_mul (pv 5) (pv 5)) (pe_op op_mul pe_int (pv 5))) (pv 4)) pa_nil)) pe_int) pe_int))
    (pss_cons (ps_set (i := 5) scDraw.nd rfl (.inl rfl) (pe_op op_fdiv (pe_op op_mod (pe_callTy call_int1 (by rfl) mi (by decide +kernel) (pa_cons
        (pe_op op_add (pe_op op_mul (pv 5) (pv 5)) (pe_op op_mul pe_int (pv 4))) pa_nil)) pe_int) pe_int))
    (pss_one (ps_ret (pe_op op_mod (pe_callTy call_int1 (by rfl) mi (by decide +kernel) (pa_cons (pv 5) pa_nil)) (pv 1))))))))), ?_⟩
  by_cases c : x > 0 ∧ m > 1
  · obtain ⟨c1, c2⟩ := c
    obtain ⟨r1, r2⟩ := rest_draw (x := x) hm1
    refine ⟨_, rfl, a, _, 0, .int x, rfl, rfl, SqL.of hH, atI_nat (j := 0) rfl, x, 0, rfl, rfl, _, rfl, ?_⟩
    rw [decide_eq_true c1]
    refine iteT ⟨_, rfl, m, 1, rfl, rfl, _, rfl, ?_⟩
    rw [decide_eq_true c2]
    refine iteT ?_
    refine ⟨_, rfl, a, _, 0, .int x, rfl, rfl, SqL.of hH, atI_nat (j := 0) rfl, _, rfl, x, m, rfl, rfl, ⟨by omega, by omega⟩, ?_⟩
    refine ⟨_, rfl, a, _, 0, .int x, rfl, rfl, SqL.of hH, atI_nat (j := 0) rfl, _, rfl, _, rfl, x / m, m, rfl, rfl, .inr (by omega), x, x / m * m, rfl, rfl, ?_⟩
    refine ⟨_, rfl, _, rfl, a, _, 0, 0, rfl, rfl, hH, rfl, ?_⟩
    exact ⟨_, rfl, q _ _ _ r1 r2 (Int.ediv_nonneg hx (by omega)) (Int.le_refl _) (by omega)⟩
  · refine ⟨_, rfl, a, _, 0, .int x, rfl, rfl, SqL.of hH, atI_nat (j := 0) rfl, x, 0, rfl, rfl, _, rfl, and_road ?_ fun c1 e => ?_⟩
    · refine iteF ?_
      have g1 : (upd H a (.lst [.int x, .int y, .int (t + 1)])) a = some (.lst [.int x, .int y, .int (t + 1)]) := upd_same
      refine ⟨_, rfl, a, _, 2, .int t, rfl, rfl, SqL.of hH, atI_nat (j := 2) rfl, t, 1, rfl, rfl, _, rfl, a, _, 2, 2, rfl, rfl, hH, rfl, ?_⟩
      refine ⟨_, rfl, a, _, 2, .int (t + 1), rfl, rfl, SqL.of g1, atI_nat (j := 2) rfl, ?_⟩
      -- the mixed number
      refine ⟨_, rfl, a, _, 1, .int y, rfl, rfl, SqL.of g1, atI_nat (j := 1) rfl, _, rfl, 2, t + 1, rfl, rfl, .inl (by omega), 2 * (t + 1), 31, rfl, rfl, y, 2 * (t + 1) + 31, rfl, rfl, .inl (by omega), _, rfl, 7919, t + 1, rfl, rfl, .inl (by omega), _, rfl, 7919 * (t + 1), t + 1, rfl, rfl, .inl (by omega), _, _, rfl, rfl, _, 17, rfl, rfl, .inl ⟨_, rfl, _, 2305843009213693951, rfl, rfl, (by decide : (0 : Int) < 2305843009213693951), ?_⟩⟩
      dsimp only
      generalize hn1 : (y * (2 * (t + 1) + 31) + 7919 * (t + 1) * (t + 1) + 17) % 2305843009213693951 = n1
      have a1 : 0 ≤ n1 := by
        rw [← hn1]
        exact Int.emod_nonneg _ (by decide)
      have a2 : n1 < 2305843009213693951 := by
        rw [← hn1]
        exact Int.emod_lt_of_pos _ (by decide)
      refine ⟨_, rfl, _, rfl, n1, n1, rfl, rfl, .inl (by omega), _, rfl, 104729, n1, rfl, rfl, .inl (by omega), _, _, rfl, rfl, _, rfl, _, t + 1, rfl, rfl, .inl ⟨_, rfl, _, 2305843009213693951, rfl, rfl, (by decide : (0 : Int) < 2305843009213693951), _, 1021, rfl, rfl, ⟨by decide, by decide⟩, ?_⟩⟩
      dsimp only
      generalize hn2 : (n1 * n1 + 104729 * n1 + (t + 1)) % 2305843009213693951 / 1021 = n2
      have b1 : 0 ≤ n2 := by
        rw [← hn2]
        exact Int.ediv_nonneg (Int.emod_nonneg _ (by decide)) (by decide)
      have b2 : n2 < 2305843009213693951 := by
        have z1 := Int.emod_nonneg (n1 * n1 + 104729 * n1 + (t + 1)) (by decide : (2305843009213693951 : Int) ≠ 0)
        have z2 := Int.emod_lt_of_pos (n1 * n1 + 104729 * n1 + (t + 1)) (by decide : (0 : Int) < 2305843009213693951)
        omega
      refine ⟨_, rfl, _, rfl, n2, n2, rfl, rfl, .inl (by omega), _, rfl, 611953, t + 1, rfl, rfl, .inl (by omega), _, _, rfl, rfl, .inl ⟨_, rfl, _, 1152921504606846883, rfl, rfl, (by decide : (0 : Int) < 1152921504606846883), _, 4099, rfl, rfl, ⟨by decide, by decide⟩, ?_⟩⟩
      dsimp only
      generalize (n2 * n2 + 611953 * (t + 1)) % 1152921504606846883 / 4099 = n3
      refine ⟨_, rfl, .inl ⟨n3, rfl, _, rfl, n3, m, rfl, rfl, (by omega : (0 : Int) < m), ?_⟩⟩
      exact q (n3 % m) x (t + 1) (Int.emod_nonneg _ (by omega)) (Int.emod_lt_of_pos _ (by omega)) hx (by omega) (Int.le_refl _)
    · refine ⟨_, rfl, m, 1, rfl, rfl, _, rfl, ?_⟩
      have c1' : x > 0 := of_decide_eq_true c1
      rw [decide_eq_false (fun z => c ⟨c1', z⟩)]
      exact e
end
end RLX

namespace RL
def rpcL (n : Int) (i : Nat) : List Int := (List.range i).map fun (k : Nat) => ringWays n (1 + k) * fact (1 + k)
def rpc (n : Int) : List Int := 0 :: rpcL n n.toNat
/-- l[0] += h * f[0], l[1] += h * f[1], .. -/
def addTo (h : Int) (f l : List Int) : Nat → List Int
  | 0 => l
  | i + 1 => (addTo h f l i).set i ((addTo h f l i).getD i 0 + h * f.getD i 0)
def rows : Nat → List Int
  | 0 => [1]
  | m + 1 => addTo m (rows m) (0 :: rows m) (rows m).length
def pcs (n : Int) : Nat → List Int
  | 0 => List.replicate (n + 1).toNat 0
  | i + 1 => addTo (ringWays n (1 + i)) (rows (1 + i)) (pcs n i) (rows (1 + i)).length
def pieces (n : Int) : List Int := pcs n n.toNat
theorem addTo_len (h : Int) (f l : List Int) : ∀ i, (addTo h f l i).length = l.length
  | 0 => rfl
  | i + 1 => by
    show ((addTo h f l i).set i _).length = l.length
    rw [List.length_set, addTo_len h f l i]
theorem rows_len : ∀ m, (rows m).length = m + 1
  | 0 => rfl
  | m + 1 => by
    show (addTo m (rows m) (0 :: rows m) (rows m).length).length = m + 1 + 1
    rw [addTo_len, List.length_cons, rows_len m]
theorem pcs_len (n : Int) : ∀ i, (pcs n i).length = (n + 1).toNat
  | 0 => List.length_replicate
  | i + 1 => by
    show (addTo _ _ (pcs n i) _).length = _
    rw [addTo_len, pcs_len n i]
theorem rpcL_more (n : Int) (i : Nat) : rpcL n (i + 1) = rpcL n i ++ [ringWays n (1 + i) * fact (1 + i)] := by
  unfold rpcL
  rw [List.range_succ, List.map_append]
  rfl
theorem ways_small {n p : Int} (h0 : 0 ≤ n) (h1 : n ≤ 10) (h2 : 0 ≤ p) (h3 : p ≤ 10) : -(2 ^ 64) < ringWays n p ∧ ringWays n p < 2 ^ 64 :=
  upto (p := fun n => ∀ p : Int, 0 ≤ p → p ≤ 10 → -(2 ^ 64) < ringWays n p ∧ ringWays n p < 2 ^ 64) (m := 10)
    (fun i hi p h2 h3 => upto (p := fun p => -(2 ^ 64) < ringWays i p ∧ ringWays i p < 2 ^ 64) (m := 10) (fun j hj =>
      (by decide +kernel : ∀ i ∈ List.range 11, ∀ j ∈ List.range 11, -(2 ^ 64) < ringWays (i : Int) (j : Int) ∧ ringWays (i : Int) (j : Int) < 2 ^ 64) i hi j hj) h2 h3) h0 h1 p h2 h3
theorem fact_small {p : Int} (h2 : 0 ≤ p) (h3 : p ≤ 10) : -(2 ^ 64) < fact p ∧ fact p < 2 ^ 64 :=
  upto (p := fun p => -(2 ^ 64) < fact p ∧ fact p < 2 ^ 64) (m := 10) (by decide +kernel) h2 h3
end RL
namespace RLX
open PySem PySem.Spec PyProof.Rows L2 RL
/-! ### heaps -/
theorem same_new {H : Hp} {p : Addr} (h : H p = none) (o : HO) : Same H (upd H p o) := fun b u q => by
  rw [upd_ne (ne_of_none q h)]
  exact q
/-- a store to an object that is new against H -/
theorem same_old {H H' : Hp} {p : Addr} (s : Same H H') (h : H p = none) (o : HO) : Same H (upd H' p o) := fun b u q => by
  rw [upd_ne (ne_of_none q h)]
  exact s b u q
theorem map_get {l : List Int} {i : Nat} (h : i < l.length) : (l.map V.int)[i]? = some (.int (l.getD i 0)) := by
  rw [List.getElem?_map, List.getElem?_eq_getElem h, List.getD_eq_getElem?_getD, List.getElem?_eq_getElem h]
  rfl
theorem map_get_inv {l : List Int} {i : Nat} {y : V} (h : (l.map V.int)[i]? = some y) : i < l.length ∧ y = .int (l.getD i 0) := by
  have hi : i < l.length := by
    have q := (List.getElem?_eq_some_iff.mp h).1
    rw [List.length_map] at q
    exact q
  rw [map_get hi] at h
  exact ⟨hi, (Option.some.inj h).symm⟩
theorem map_set (l : List Int) (i : Nat) (y : Int) : (l.map V.int).set i (.int y) = (l.set i y).map V.int := by
  rw [List.map_set]
theorem ixN_nat {n i : Nat} (h : i < n) (hn : n < 1000000) : ixN n (i : Int) = some i := by
  unfold ixN
  first
    | (rw [if_pos (by omega)]; simp; omega)
    | simp [h]
    | (split <;> simp <;> omega)
def spRpc : Sp := fun vs H Q _ => ∃ n : Int, vs = [.int n] ∧ 1 ≤ n ∧ n ≤ 10 ∧ ∀ H' p, Same H H' → H p = none → H' p = some (.lst ((rpc n).map V.int)) → Q (.ref p) H'
def spRows : Sp := fun vs H Q _ => ∃ m : Int, vs = [.int m] ∧ 0 ≤ m ∧ m ≤ 10 ∧ ∀ H' p, Same H H' → H p = none → H' p = some (.lst ((rows m.toNat).map V.int)) → Q (.ref p) H'
def spPieces : Sp := fun vs H Q _ => ∃ n : Int, vs = [.int n] ∧ 1 ≤ n ∧ n ≤ 10 ∧ ∀ H' p, Same H H' → H p = none → H' p = some (.lst ((pieces n).map V.int)) → Q (.ref p) H'
section
variable {P : Program} {w : World} {K : PySem.W.Frag} {mg : Str → Option Value} {base : Heap} {f g g2 C : Addr} {fd gd gd2 : FuncData}
theorem ok_rpc (F : Fun K "ring_place_counts" "ring_place_counts" sRingPlaceCounts f fd) (mr : mg "range" = none) (mF : mg "factorial" = some (.builtin "math.factorial"))
    (G : FnOk P w K mg base (L2.CX P w) 3 g gd ["value"] (spCheckMany C)) (bG : Binds K gd ["value"] []) (kG : PySem.W.keepIn K (.ref g) = true) (mG : mg "check_many" = some (.ref g))
    (G2 : FnOk P w K mg base CX0 3 g2 gd2 ["many", "places"] spRingWays) (bG2 : Binds K gd2 ["many", "places"] []) (kG2 : PySem.W.keepIn K (.ref g2) = true) (mG2 : mg "ring_ways" = some (.ref g2)) : FnOk P w K mg base CX0 4 f fd ["many"] spRpc := by
  refine F.ok scRingPlaceCounts (fun vs H Q E h => ?_) (fun cdv A outer s H vs Q E hr h => ?_)
  · obtain ⟨n, rfl, _⟩ := h
    rfl
  obtain ⟨n, rfl, h0, h1, q⟩ := h
  refine ⟨_, pss_cons (ps_expr (pe_call G hr rfl mG kG bG .nil passL (pa_cons (pv 0) pa_nil)))
    (pss_one (ps_ret (pe_op op_cat (pe_lst (pa_cons pe_int pa_nil))
      (pe_lc (own := [("places", 1)]) (g := gName 1) (tt := tYes) rfl scRingPlaceCounts.nd (pi_range2 (by rfl) mr (pa_cons pe_int (pa_cons (pe_op op_add (pv 0) pe_int) pa_nil)))
        (blkOk_by (own := [("places", 1)]) (N := ["many", "places"]) (sc := defScope sRingPlaceCounts) (by decide +kernel)) (fun _ _ _ _ _ => pg_name (i := 1) scRingPlaceCounts.nd rfl (Or.inl rfl)) (fun _ _ _ _ _ => pts_nil)
        (fun _ _ _ _ _ => pe_op op_mul (pe_call G2 hr rfl mG2 kG2 bG2 .nil pass0 (pa_cons (pv 0) (pa_cons (pv 1) pa_nil))) (pe_callBfun my_fact rfl mF (pa_cons (pv 1) pa_nil))))))), ?_⟩
  have hb : betw 1 (.int n) 10 = true := by
    show (decide (1 ≤ n) && decide (n ≤ 10)) = true
    rw [decide_eq_true h0, decide_eq_true h1]
    rfl
  refine ⟨_, rfl, .int n, rfl, trivial, fun _ => ?_, fun z => Bool.noConfusion (hb.symm.trans z)⟩
  refine ⟨(by show 1 ≤ sizeLine; decide), fun p0 hp0 => ?_⟩
  refine ⟨_, rfl, n, 1, rfl, rfl, 1, n + 1, rfl, ⟨by omega, by omega, by omega, by omega⟩, fun D hD => ?_⟩
  refine lc_range (lo := 1) (n := (n + 1 - 1).toNat) (fun i H' => H' D = some (.lst ((rpcL n i).map V.int)) ∧ Same (upd H p0 (.lst [.int 0])) H') ⟨upd_same, same_new hD _⟩ ?_ ?_
  · rintro i H' hi ⟨hl, sm⟩
    refine ⟨rfl, ?_⟩
    refine ⟨_, rfl, _, rfl, n, 1 + i, rfl, by omega, h1, by omega, by omega, _, rfl, 1 + i, rfl, by omega, by omega, _, _, rfl, rfl, .inl (ways_small (by omega) h1 (by omega) (by omega)), _, hl, ?_, ?_, same_old sm hD _⟩
    · rw [List.length_map]
      unfold rpcL
      rw [List.length_map, List.length_range]
      exact small1000 (by omega)
    · rw [upd_same, rpcL_more, List.map_append]
      rfl
  · rintro H' ⟨hl, sm⟩
    have e : (n + 1 - 1).toNat = n.toNat := by omega
    rw [e] at hl
    have hp1 : H' p0 = some (.lst [.int 0]) := sm _ _ upd_same
    refine ⟨p0, D, _, _, rfl, rfl, hp1, hl, ?_, fun r hr' => ?_⟩
    · rw [List.length_map]
      unfold rpcL
      rw [List.length_map, List.length_range]
      exact Nat.le_of_lt (small1000 (by show 1 + n.toNat ≤ 1000; omega))
    · have s1 : Same H H' := (same_new hp0 _).trans sm
      refine q _ r (s1.trans (same_new hr' _)) (s1.free hr') ?_
      rw [upd_same]
      rfl
theorem ok_rows (F : Fun K "rows_in_rings" "rows_in_rings" sRowsInRings f fd) (mr : mg "range" = none) (me : mg "enumerate" = none) : FnOk P w K mg base CX0 1 f fd ["places"] spRows := by
  refine F.ok scRowsInRings (fun vs H Q E h => ?_) (fun cdv A outer s H vs Q E hr h => ?_)
  · obtain ⟨n, rfl, _⟩ := h
    rfl
  obtain ⟨m, rfl, h0, h1, q⟩ := h
  refine ⟨_, pss_cons (ps_set (i := 1) scRowsInRings.nd rfl (.inl rfl) (pe_lst (pa_cons pe_int pa_nil)))
    (pss_cons (ps_for PassesOwn.never rfl (pi_range1 rfl mr (pa_cons (pv 0) pa_nil)) (pg_name (i := 2) scRowsInRings.nd rfl (.inl rfl))
      (pss_cons (ps_set (i := 3) scRowsInRings.nd rfl (.inl rfl) (pe_op op_cat (pe_lst (pa_cons pe_int pa_nil)) (pv 1)))
      (pss_cons (ps_for PassesOwn.never rfl (pi_enum (by rfl) me (pa_cons (pv 1) pa_nil)) (pg_tup rfl (pgs_cons (pg_name (i := 4) scRowsInRings.nd rfl (.inl rfl)) (pgs_cons (pg_name (i := 5) scRowsInRings.nd rfl (.inl rfl)) pgs_nil)))
        (pss_one (ps_augS (pv 3) (pv 4) my_get_list (pe_op op_mul (pv 2) (pv 5)) ip_add set_list)))
      (pss_one (ps_set (i := 1) scRowsInRings.nd rfl (.inl rfl) (pv 3))))))
    (pss_one (ps_ret (pv 1)))), ?_⟩
  refine ⟨(by show 1 ≤ sizeLine; decide), fun a0 ha0 => ?_⟩
  refine ⟨_, rfl, m, rfl, by omega, by omega, for_range (lo := 0) (n := m.toNat) (fun i σ H' => ∃ a y2 y3 y4 y5, σ = [some (.int m), some (.ref a), y2, y3, y4, y5] ∧ H' a = some (.lst ((rows i).map V.int)) ∧ H a = none ∧ Same H H')
    ⟨a0, none, none, none, none, rfl, upd_same, ha0, same_new ha0 _⟩ ?_ ?_⟩
  · rintro i σ H' hi ⟨a, y2, y3, y4, y5, rfl, hl, hn, sm⟩
    have hlen := rows_len i
    refine ⟨(by show 1 ≤ sizeLine; decide), fun p0 hp0 => ?_⟩
    have s1 : Same H' (upd H' p0 (.lst [.int 0])) := same_new hp0 _
    refine ⟨_, rfl, p0, a, _, _, rfl, rfl, upd_same, s1 _ _ hl, ?_, fun l hnl => ?_⟩
    · rw [List.length_map]
      exact Nat.le_of_lt (small1000 (by show 1 + _ ≤ 1000; omega))
    have s2 : Same H' (upd (upd H' p0 (.lst [.int 0])) l (.lst ([.int 0] ++ (rows i).map V.int))) := s1.trans (same_new hnl _)
    have hl0 : H l = none := (sm.trans s1).free hnl
    have hl1 : H' l = none := s1.free hnl
    refine ⟨_, rfl, a, _, rfl, SqL.of (s2 _ _ hl), for_it walk_enum (fun j σ H2 => ∃ y4 y5, σ = [some (.int m), some (.ref a), some (.int (0 + i)), some (.ref l), y4, y5] ∧ H2 l = some (.lst ((addTo i (rows i) (0 :: rows i) j).map V.int)) ∧ Same H' H2)
      ⟨y4, y5, rfl, upd_same, s2⟩ (fun j σ H2 _ ⟨_, _, _, _, s⟩ => SqL.of (s _ _ hl)) ?_ ?_⟩
    · rintro j x σ H2 H3 hj ⟨y4, y5, rfl, hl2, sm2⟩ ⟨T, x1, x2, rfl, hT, rfl, e1, e2⟩
      cases e1
      obtain ⟨hj', rfl⟩ := map_get_inv e2
      have eT : (upd H2 T (.tup [.int (j : Nat), .int ((rows i).getD j 0)])) T = some (.tup [.int (j : Nat), .int ((rows i).getD j 0)]) := upd_same
      have hl3 : (upd H2 T (.tup [.int (j : Nat), .int ((rows i).getD j 0)])) l = some (.lst ((addTo i (rows i) (0 :: rows i) j).map V.int)) := same_new hT _ _ _ hl2
      have hlt : j < (addTo i (rows i) (0 :: rows i) j).length := by
        rw [addTo_len, List.length_cons]
        omega
      refine ⟨T, _, rfl, SqT.of eT, rfl, _, _, rfl, _, _, rfl, rfl, ?_⟩
      refine ⟨_, rfl, _, rfl, l, _, j, _, rfl, rfl, SqL.of hl3, map_get hlt, by omega, _, rfl, _, rfl, 0 + i, (rows i).getD j 0, rfl, rfl, .inl ⟨by omega, by omega⟩, _, _, rfl, rfl, l, _, j, j, rfl, rfl, hl3, ?_, some (.int (j : Nat)), some (.int ((rows i).getD j 0)), rfl, ?_, ?_⟩
      · rw [List.length_map]
        exact ixN_nat hlt (by rw [addTo_len, List.length_cons]; omega)
      · rw [upd_same, map_set, Int.zero_add]
        rfl
      · exact same_old (sm2.trans (same_new hT _)) hl1 _
    · rintro σ H2 ⟨y4, y5, rfl, hl2, sm2⟩
      refine ⟨_, rfl, l, some (.int (0 + i)), some (.ref l), y4, y5, rfl, ?_, hl0, sm.trans sm2⟩
      rw [List.length_map] at hl2
      exact hl2
  · rintro σ H' ⟨a, y2, y3, y4, y5, rfl, hl, hn, sm⟩
    exact ⟨_, rfl, q H' a sm hn hl⟩
theorem ok_pieces (F : Fun K "piece_counts" "piece_counts" sPieceCounts f fd) (mr : mg "range" = none) (me : mg "enumerate" = none)
    (G : FnOk P w K mg base (L2.CX P w) 3 g gd ["value"] (spCheckMany C)) (bG : Binds K gd ["value"] []) (kG : PySem.W.keepIn K (.ref g) = true) (mG : mg "check_many" = some (.ref g))
    (G2 : FnOk P w K mg base CX0 3 g2 gd2 ["many", "places"] spRingWays) (bG2 : Binds K gd2 ["many", "places"] []) (kG2 : PySem.W.keepIn K (.ref g2) = true) (mG2 : mg "ring_ways" = some (.ref g2))
    {g3 : Addr} {gd3 : FuncData} (G3 : FnOk P w K mg base CX0 1 g3 gd3 ["places"] spRows) (bG3 : Binds K gd3 ["places"] []) (kG3 : PySem.W.keepIn K (.ref g3) = true) (mG3 : mg "rows_in_rings" = some (.ref g3)) : FnOk P w K mg base CX0 4 f fd ["many"] spPieces := by
  refine F.ok scPieceCounts (fun vs H Q E h => ?_) (fun cdv A outer s H vs Q E hr h => ?_)
  · obtain ⟨n, rfl, _⟩ := h
    rfl
  obtain ⟨n, rfl, h0, h1, q⟩ := h
  refine ⟨_, pss_cons (ps_expr (pe_call G hr rfl mG kG bG .nil passL (pa_cons (pv 0) pa_nil)))
    (pss_cons (ps_set (i := 1) scPieceCounts.nd rfl (.inl rfl) (pe_op op_rep (pe_lst (pa_cons pe_int pa_nil)) (pe_op op_add (pv 0) pe_int)))
    (pss_cons (ps_for PassesOwn.never rfl (pi_range2 (by rfl) mr (pa_cons pe_int (pa_cons (pe_op op_add (pv 0) pe_int) pa_nil))) (pg_name (i := 2) scPieceCounts.nd rfl (.inl rfl))
      (pss_one (ps_for PassesOwn.never rfl (pi_enum (by rfl) me (pa_cons (pe_call G3 (hr.mono (by decide)) rfl mG3 kG3 bG3 .nil pass0 (pa_cons (pv 2) pa_nil)) pa_nil)) (pg_tup rfl (pgs_cons (pg_name (i := 3) scPieceCounts.nd rfl (.inl rfl)) (pgs_cons (pg_name (i := 4) scPieceCounts.nd rfl (.inl rfl)) pgs_nil)))
        (pss_one (ps_augS (pv 1) (pv 3) my_get_list (pe_op op_mul (pe_call G2 hr rfl mG2 kG2 bG2 .nil pass0 (pa_cons (pv 0) (pa_cons (pv 2) pa_nil))) (pv 4)) ip_add set_list)))))
    (pss_one (ps_ret (pv 1))))), ?_⟩
  have hb : betw 1 (.int n) 10 = true := by
    show (decide (1 ≤ n) && decide (n ≤ 10)) = true
    rw [decide_eq_true h0, decide_eq_true h1]
    rfl
  refine ⟨_, rfl, .int n, rfl, trivial, fun _ => ?_, fun z => Bool.noConfusion (hb.symm.trans z)⟩
  refine ⟨(by show 1 ≤ sizeLine; decide), fun p0 hp0 => ?_⟩
  have s0 : Same H (upd H p0 (.lst [.int 0])) := same_new hp0 _
  refine ⟨_, rfl, n, 1, rfl, rfl, p0, n + 1, _, rfl, rfl, upd_same, by omega, by omega, ?_, fun l hnl => ?_⟩
  · exact Nat.le_of_lt (small1000 (by show 1 * (n + 1).toNat ≤ 1000; omega))
  have hl0 : H l = none := s0.free hnl
  have e0 : (List.replicate (n + 1).toNat [V.int 0]).flatten = (pcs n 0).map V.int := by
    rw [flat_rep]
    show _ = (List.replicate (n + 1).toNat 0).map V.int
    rw [List.map_replicate]
  rw [e0]
  refine ⟨_, rfl, n, 1, rfl, rfl, 1, n + 1, rfl, ⟨by omega, by omega, by omega, by omega⟩, for_range (lo := 1) (n := (n + 1 - 1).toNat) (fun i σ H' => ∃ y2 y3 y4, σ = [some (.int n), some (.ref l), y2, y3, y4] ∧ H' l = some (.lst ((pcs n i).map V.int)) ∧ Same H H')
    ⟨none, none, none, rfl, upd_same, s0.trans (same_new hnl _)⟩ ?_ ?_⟩
  · rintro i σ H' hi ⟨y2, y3, y4, rfl, hl, sm⟩
    refine ⟨_, rfl, 1 + i, rfl, by omega, by omega, fun H1 a sm1 hna hla => ?_⟩
    have et : (1 + (i : Int)).toNat = 1 + i := by omega
    rw [et] at hla
    have hlen := rows_len (1 + i)
    refine ⟨a, _, rfl, SqL.of hla, for_it walk_enum (fun j σ H2 => ∃ y3 y4, σ = [some (.int n), some (.ref l), some (.int (1 + i)), y3, y4] ∧ H2 l = some (.lst ((addTo (ringWays n (1 + i)) (rows (1 + i)) (pcs n i) j).map V.int)) ∧ Same H H2 ∧ H2 a = some (.lst ((rows (1 + i)).map V.int)))
      ⟨y3, y4, rfl, sm1 _ _ hl, sm.trans sm1, hla⟩ (fun j σ H2 _ ⟨_, _, _, _, _, s⟩ => SqL.of s) ?_ ?_⟩
    · rintro j x σ H2 H3 hj ⟨y3, y4, rfl, hl2, sm2, ha2⟩ ⟨T, x1, x2, rfl, hT, rfl, e1, e2⟩
      cases e1
      obtain ⟨hj', rfl⟩ := map_get_inv e2
      have eT : (upd H2 T (.tup [.int (j : Nat), .int ((rows (1 + i)).getD j 0)])) T = some (.tup [.int (j : Nat), .int ((rows (1 + i)).getD j 0)]) := upd_same
      have hl3 : (upd H2 T (.tup [.int (j : Nat), .int ((rows (1 + i)).getD j 0)])) l = some (.lst ((addTo (ringWays n (1 + i)) (rows (1 + i)) (pcs n i) j).map V.int)) := same_new hT _ _ _ hl2
      have hla0 : a ≠ l := (ne_of_none hl hna).symm
      have hlt : j < (addTo (ringWays n (1 + i)) (rows (1 + i)) (pcs n i) j).length := by
        rw [addTo_len, pcs_len]
        omega
      refine ⟨T, _, rfl, SqT.of eT, rfl, _, _, rfl, _, _, rfl, rfl, ?_⟩
      refine ⟨_, rfl, _, rfl, l, _, j, _, rfl, rfl, SqL.of hl3, map_get hlt, by omega, _, rfl, _, rfl, n, 1 + i, rfl, by omega, h1, by omega, by omega, _, rfl, ringWays n (1 + i), (rows (1 + i)).getD j 0, rfl, rfl, .inl (ways_small (by omega) h1 (by omega) (by omega)), _, _, rfl, rfl, l, _, j, j, rfl, rfl, hl3, ?_, some (.int (j : Nat)), some (.int ((rows (1 + i)).getD j 0)), rfl, ?_, ?_, ?_⟩
      · rw [List.length_map]
        exact ixN_nat hlt (by rw [addTo_len, pcs_len]; omega)
      · rw [upd_same, map_set]
        rfl
      · exact same_old (sm2.trans (same_new hT _)) hl0 _
      · rw [upd_ne hla0]
        exact same_new hT _ _ _ ha2
    · rintro σ H2 ⟨y3, y4, rfl, hl2, sm2, ha2⟩
      refine ⟨some (.int (1 + i)), y3, y4, rfl, ?_, sm2⟩
      rw [List.length_map] at hl2
      exact hl2
  · rintro σ H' ⟨y2, y3, y4, rfl, hl, sm⟩
    have e : (n + 1 - 1).toNat = n.toNat := by omega
    rw [e] at hl
    exact ⟨_, rfl, q H' l sm hl0 hl⟩
end
end RLX

namespace RLX
open PySem PySem.Spec PyProof.Rows L2 RL
section
variable {X : Cx}
/-! ### t == () -/
def rEqNil (K : PySem.W.Frag) : R2 := fun x y H Q => ∃ (a b : Addr) (xs : List V), x = .ref a ∧ y = .ref b ∧ SqT K H a xs ∧ SqT K H b [] ∧ Q (.bl xs.isEmpty) H
theorem my_eq_nil (hu : X.A.units < cLine) : OpR X (compareOp .Eq) (rEqNil X.K) := by
  intro pins s σ H x y v u Q I rx ry h
  obtain ⟨a, b, xs, rfl, rfl, ha, hb, q⟩ := h
  cases rx
  cases ry
  obtain ⟨its, r, pa, _⟩ := I.tuple ha
  obtain ⟨its2, r2, pb, _⟩ := I.tuple hb
  cases r2
  refine SeqAt.RcAt.tuples (e := fun _ => true) pa pb hu (fun j h1 h2 => absurd h2 (Nat.not_lt_zero j)) X.prog X.w X.xe _ ?_
  have e : ((List.range (min its.toArray.size ([] : List Value).toArray.size)).all (fun _ => true) && its.toArray.size == ([] : List Value).toArray.size) = xs.isEmpty := by
    cases r with
    | nil => rfl
    | cons _ _ => simp
  rw [e]
  exact ⟨.bl xs.isEmpty, H, I, rfl, q⟩
/-! ### t[:k].count(n): the slice's own new tuple -/
def afterCut (K : PySem.W.Frag) (x : V) (tc : TE) (σ : L2.St) (Q : VK) : Option Int → Hp → Prop := fun o H2 => ∃ (a : Addr) (ns : List Int) (k : Nat), x = .ref a ∧ o = some (k : Int) ∧ SqT K H2 a (ns.map V.int) ∧ k < ns.length ∧
  ∀ p, H2 p = none → tc σ (upd H2 p (.tup ((ns.take k).map V.int))) fun z H3 => ∃ l : Int, [z] = [.int l] ∧ H3 p = some (.tup ((ns.take k).map V.int)) ∧ Q (.int ((ns.take k).count l : Nat)) H3
def tCutCount (K : PySem.W.Frag) (te th tc : TE) : TE := fun σ H Q => te σ H fun x H1 => th σ H1 fun y H2 => ∃ i, y = .int i ∧ afterCut K x tc σ Q (some i) H2
theorem cut_front (xs : List V) (k : Nat) (h : k < xs.length) : cutV xs none (some (k : Int)) = xs.take k ∧ ¬ (HT.sIx xs.length 0 none = 0 ∧ HT.sIx xs.length xs.length (some (k : Int)) = xs.length) := by
  rw [HT.sIx_none, HT.sIx_nat, Nat.min_eq_left (Nat.le_of_lt h)]
  refine ⟨?_, fun z => by omega⟩
  unfold cutV
  rw [HT.sIx_none, HT.sIx_nat, Nat.min_eq_left (Nat.le_of_lt h)]
  rfl
theorem my_cut_count {e hi c : Expr} {te th tc : TE} {p2 pos apos cpos : Pos} (he : PE X e te) (hu : PE X hi th) (hcnt : PE X c tc)
    (hbase : attributeBase (.Subscript e (.Slice none (some hi) none p2) pos) "count" X.env (eval (.Subscript e (.Slice none (some hi) none p2) pos) X.env) = eval (.Subscript e (.Slice none (some hi) none p2) pos) X.env := by rfl)
    (hfew : ((backTo cpos (starEach [c] X.env)).all (fun x => !x.1) && (backToKw cpos (keywordEach [] X.env)).all (fun x => x.1.isSome)
      && decide ([c].length + ([] : List Keyword).length + (if ([] : List Keyword).isEmpty then 0 else 1) < 30)) = true := by rfl)
    (hline : (apos.endLine == cpos.line) = true := by rfl) (hs : starEach [c] X.env = (false, eval c X.env) :: starEach [] X.env := by rfl) :
    PE X (.Call (.Attribute (.Subscript e (.Slice none (some hi) none p2) pos) "count" apos) [c] [] cpos) (tCutCount X.K te th tc) := by
  refine ⟨fun pins s σ H Q I h => ?_⟩
  refine wpAny_Call_method_late hbase hfew hline rfl ?_
  refine Subscript_ (thn (he.run pins s σ H _ I h) fun v s1 ⟨x, H1, I1, r1, q1⟩ => ?_)
  have q2 : tPart th σ H1 (afterCut X.K x tc σ Q) := q1
  refine wpAny_Slice (thn (po_none.run pins s1 σ H1 (fun o H' => o = none ∧ H' = H1) I1 ⟨rfl, rfl⟩) fun vl s2 ⟨l, H2, I2, pl, el, eh⟩ => ?_)
  subst el eh
  refine thn ((po_some hu).run pins s2 σ H2 _ I2 q2) fun vu s3 ⟨u, H3, I3, pu, a, ns, k, ex, eu, hT, hk, q⟩ => ?_
  subst ex eu
  cases r1
  rw [evalPart_none]
  refine wpAny_pure ?_
  have I4 : Inv X pins σ H3 { s3 with heap := s3.heap.push { cls := .type "slice", data := .fields #[vl, vu, .none] } } := I3.kept (t' := s3.toks) fun b ob q => Heap.get?_push_of_some _ q
  obtain ⟨its, r, ht, hz⟩ := I4.tuple hT
  have hlen : its.toArray.size = (ns.map V.int).length := by
    rw [List.size_toArray]
    exact r.length.symm
  obtain ⟨ec, hw⟩ := cut_front (ns.map V.int) k (by rw [List.length_map]; exact hk)
  rw [← List.map_take] at ec
  show wpAny (model X.prog X.w) X.A (subscriptTail e (.Slice none (some hi) none p2) (.ref a) (.ref s3.heap.objs.size)) _ _ _
  refine tail_any (ops := [.ref s3.heap.objs.size, .ref a]) ht.typeIs PyProof.Rows.slot_tuple_getitem.lookup (HT.getItem_tuple_cut ht (Heap.IsSliceOf.new ..) pl pu (by rw [hlen]; exact hw) ?_ (by rw [hlen]; exact hz)) (by with_unfolding_all rfl)
  rw [hlen]
  generalize hs4 : s3.heap.push { cls := .type "slice", data := .fields #[vl, vu, .none] } = h4 at I4 ht
  have nw : ObjOk X.prog X.w (upd H3 h4.objs.size (.tup ((ns.take k).map V.int))) (h4.push { cls := .type "tuple", data := .seq ((its.toArray.toList.drop (HT.sIx (ns.map V.int).length 0 none)).take (HT.sIx (ns.map V.int).length (ns.map V.int).length (some (k : Int)) - HT.sIx (ns.map V.int).length 0 none)).toArray }) h4.objs.size (.tup ((ns.take k).map V.int)) := by
    refine ⟨?_, _, ?_, IsTup.new _ _⟩
    · rw [← ec]
      exact Nat.le_trans (cutV_length _ _ _) hz
    · rw [← ec]
      exact (r.drop _).take _
  have I5 : Inv X pins σ (upd H3 h4.objs.size (.tup ((ns.take k).map V.int))) { s3 with heap := h4.push { cls := .type "tuple", data := .seq ((its.toArray.toList.drop (HT.sIx (ns.map V.int).length 0 none)).take (HT.sIx (ns.map V.int).length (ns.map V.int).length (some (k : Int)) - HT.sIx (ns.map V.int).length 0 none)).toArray } } :=
    I4.laid (t' := s3.toks) (fun b ob q => Heap.get?_push_of_some _ q) (Nat.le_refl _) nw
  refine ⟨"tuple", "tuple.count", PySem.F.plainAttrs_tuple, PySem.F.slot_tuple_count, PySem.F.type_tuple_count, ⟨_, Heap.get?_push_size _ rfl, rfl⟩, fun b eb => ?_, ?_⟩
  · cases eb
    exact ⟨_, Heap.get?_push_size _ rfl, rfl⟩
  · have hA := (pa_cons hcnt pa_nil (hs := hs)).run cpos pins _ σ _ (fun zs H' => ∃ l : Int, zs = [.int l] ∧ H' h4.objs.size = some (.tup ((ns.take k).map V.int)) ∧ Q (.int ((ns.take k).count l : Nat)) H') I5 (q _ (I4.hok.fresh (Nat.le_refl _)))
    rw [hs] at hA ⊢
    refine Calls.callWith_builtin (by rfl) (Calls.evalArgs_plain (thn hA fun us s6 ⟨zs, H6, I6, r6, l, ez, hp, q6⟩ => ?_))
    exact my_tcount pins s6 σ H6 (.ref h4.objs.size) zs (.ref h4.objs.size) us Q I6 rfl r6 ⟨_, _, l, rfl, ez, SqT.of hp, q6⟩
end
end RLX

namespace RLX
open PySem PySem.Spec PyProof.Rows L2 RL
def leV : V → V → Bool
  | .int i, .int j => decide (i ≤ j)
  | _, _ => false
/-- lengths: not empty, from 1 on, none less than the one ahead -/
def lensB (xs : List V) : Bool := !xs.isEmpty && (xs.all (fromB 1) && (List.range (xs.length - 1)).all fun k => leV (xs.getD k .non) (xs.getD (k + 1) .non))
def tupOf (H : Hp) : V → Option (List V)
  | .ref a => match H a with
    | some (.tup xs) => some xs
    | _ => none
  | _ => none
def goodB (H : Hp) (v : V) : Bool := match tupOf H v with
  | some xs => lensB xs
  | none => false
def ItemsOk (H : Hp) (v : V) : Prop := ∀ a xs, v = .ref a → H a = some (.tup xs) → xs.length ≤ 5000 ∧ ∀ x ∈ xs, Plain H x
theorem tupOf_ref {H : Hp} {a : Addr} {xs : List V} (h : H a = some (.tup xs)) : tupOf H (.ref a) = some xs := by
  simp only [tupOf, h]
theorem kit_tup {K : PySem.W.Frag} {H : Hp} : ∀ {v : V}, Plain H v → ∃ t, TyX K H v (.type t) ∧ PySem.W.kitOne K (.type t) (.type "tuple") = some (tupOf H v).isSome
  | .non, _ => ⟨_, .base .non, kit_ty (r := false) (by decide +kernel)⟩
  | .bl b, _ => ⟨_, .base (.bl b), kit_ty (r := false) (by decide +kernel)⟩
  | .int i, _ => ⟨_, .base (.int i), kit_ty (r := false) (by decide +kernel)⟩
  | .str x, _ => ⟨_, .base (.str x), kit_ty (r := false) (by decide +kernel)⟩
  | .ref a, .inl ⟨xs, e⟩ => ⟨_, .base (.lst e), by
      have q : tupOf H (.ref a) = none := by simp only [tupOf, e]
      rw [q]
      exact kit_ty (r := false) (by decide +kernel)⟩
  | .ref a, .inr ⟨xs, e⟩ => ⟨_, .base (.tup e), by
      rw [tupOf_ref e]
      exact kit_ty (r := true) (by decide +kernel)⟩
theorem tup_some {H : Hp} : ∀ {v : V} {xs : List V}, tupOf H v = some xs → ∃ a, v = .ref a ∧ H a = some (.tup xs)
  | .ref a, xs, h => by
    refine ⟨a, rfl, ?_⟩
    unfold tupOf at h
    dsimp only at h
    split at h
    · rename_i ys e
      rw [e, Option.some.inj h]
    · cases h
  | .non, _, h => nomatch h
  | .bl _, _, h => nomatch h
  | .int _, _, h => nomatch h
  | .str _, _, h => nomatch h
  | .byt _, _, h => nomatch h
  | .flt _, _, h => nomatch h
  | .ty _, _, h => nomatch h
theorem all_ints : ∀ {xs : List V}, xs.all (fromB 1) = true → ∃ ns : List Int, xs = ns.map V.int ∧ ∀ n ∈ ns, 1 ≤ n
  | [], _ => ⟨[], rfl, fun _ h => absurd h List.not_mem_nil⟩
  | x :: xs, h => by
    rw [List.all_cons, Bool.and_eq_true] at h
    obtain ⟨ns, e, hn⟩ := all_ints h.2
    cases x with
    | int i =>
      refine ⟨i :: ns, by rw [e]; rfl, fun n hm => ?_⟩
      rcases List.mem_cons.mp hm with z | z
      · rw [z]
        exact of_decide_eq_true h.1
      · exact hn n z
    | _ => exact absurd h.1 Bool.false_ne_true
theorem all_on {α : Type} {p q : α → Bool} : ∀ {l : List α}, (∀ x ∈ l, p x = q x) → l.all p = l.all q
  | [], _ => rfl
  | x :: l, h => by
    rw [List.all_cons, List.all_cons, h x List.mem_cons_self, all_on fun y hy => h y (List.mem_cons_of_mem _ hy)]
theorem getD_map {ns : List Int} {k : Nat} (h : k < ns.length) : (ns.map V.int).getD k .non = .int (ns.getD k 0) := by
  rw [List.getD_eq_getElem?_getD, map_get h]
  rfl
/-- check_lengths: InvalidLengths unless lengths -/
def spCheckLengths (C : Addr) : Sp := fun vs H Q E => ∃ v, vs = [v] ∧ Plain H v ∧ ItemsOk H v ∧ (goodB H v = true → ∀ H', Same H H' → Q .non H') ∧ (goodB H v = false → ∀ H', Same H H' → E (.ref C) none H')
section
variable {P : Program} {w : World} {K : PySem.W.Frag} {mg : Str → Option Value} {base : Heap} {f g g2 C : Addr} {fd gd gd2 : FuncData}
theorem ok_checkLengths (F : Fun K "check_lengths" "check_lengths" sCheckLengths f fd) (m1 : mg "isinstance" = none) (m2 : mg "tuple" = none) (m3 : mg "all" = none) (m4 : mg "range" = none) (m5 : mg "len" = none) (T : ErrAt K mg "InvalidLengths" C)
    (G : FnOk P w K mg base CX0 2 g gd ["low", "value"] spIsFrom) (bG : Binds K gd ["low", "value"] []) (kG : PySem.W.keepIn K (.ref g) = true) (mG : mg "is_from" = some (.ref g)) : FnOk P w K mg base (L2.CX P w) 3 f fd ["value"] (spCheckLengths C) := by
  refine F.okX scCheckLengths (fun vs H Q E h => ?_) (fun cdv A outer s H vs Q E hr h => ?_)
  · obtain ⟨v, rfl, _⟩ := h
    rfl
  obtain ⟨v, rfl, hv, hit, qt, qf⟩ := h
  obtain ⟨t, ty, k1⟩ := kit_tup (K := K) hv
  refine ⟨_, pss_cons (ps_if (PW.pt (pw_or (pt_not (pt_val (pe_callB call_isi (by rfl) m1 (by decide +kernel) (pa_cons (pv 0) (pa_cons (pe_bltn (v := .ty "tuple") (by rfl) m2 (by decide +kernel) rfl) pa_nil)))))
      (pw_or (pt_cmpR (my_eq_nil (Nat.lt_of_le_of_lt (Nat.le_add_right _ _) hr.units)) (pv 0) (pe_tup pa_nil) (nomark _))
      (pw_or1 (pt_not (pt_val (pe_callB (cr_all rfl) (by rfl) m3 (by decide +kernel) (pa_cons
        (pe_lc (own := [("length", 1)]) (g := gName 1) (tt := tYes) rfl scCheckLengths.nd (pi_tup (pv 0)) (blkOk_by (own := [("length", 1)]) (N := ["value", "length", "k"]) (sc := defScope sCheckLengths) (by decide +kernel))
          (fun _ _ _ _ _ => pg_name (i := 1) scCheckLengths.nd rfl (Or.inl rfl)) (fun _ _ _ _ _ => pts_nil) (fun _ _ _ _ _ => pe_call G hr rfl mG kG bG .nil pass0 (pa_cons pe_int (pa_cons (pv 1) pa_nil)))) pa_nil))))))))
      (pss_one (ps_raise rfl (takes_of rfl rfl rfl rfl) (pmk_own PySem.F.excBase_ValueError T.x T.g T.k (raises_own T.b T.t) (by exact rfl)))) pss_nil)
    (pss_one (ps_if (pt_not (pt_val (pe_callB (cr_all rfl) (by rfl) m3 (by decide +kernel) (pa_cons
        (pe_lc (own := [("k", 2)]) (g := gName 2) (tt := tYes) rfl scCheckLengths.nd (pi_range1 rfl m4 (pa_cons (pe_op op_sub (pe_callB call_len_seq (by rfl) m5 PySem.boot_len (pa_cons (pv 0) pa_nil)) pe_int) pa_nil)) (blkOk_by (own := [("k", 2)]) (N := ["value", "length", "k"]) (sc := defScope sCheckLengths) (by decide +kernel))
          (fun _ _ _ _ _ => pg_name (i := 2) scCheckLengths.nd rfl (Or.inl rfl)) (fun _ _ _ _ _ => pts_nil) (fun _ _ _ _ _ => pe_cmpR op_le (pe_ix (r := rIxT K) ix_tup (pv 0) (pv 2) (fun _ _ => rfl)) (pe_ix (r := rIxT K) ix_tup (pv 0) (pe_op op_add (pv 2) pe_int) (fun _ _ => rfl)) (nomark _))) pa_nil))))
      (pss_one (ps_raise rfl (takes_of rfl rfl rfl rfl) (pmk_own PySem.F.excBase_ValueError T.x T.g T.k (raises_own T.b T.t) (by exact rfl)))) pss_nil)), ?_⟩
  refine ⟨_, rfl, v, .ty "tuple", _, _, _, rfl, .ty _, ty, k1, _, rfl, ?_⟩
  cases e0 : tupOf H v with
  | none =>
    have hb : goodB H v = false := by
      unfold goodB
      rw [e0]
    exact qf hb H (Same.refl H)
  | some xs =>
    obtain ⟨a, rfl, ha⟩ := tup_some e0
    obtain ⟨hlen, hpl⟩ := hit a xs rfl ha
    have egood : goodB H (.ref a) = lensB xs := by
      unfold goodB
      rw [e0]
    rw [egood] at qt qf
    refine ⟨_, rfl, (by show 0 ≤ sizeLine; decide), fun p0 hp0 => ?_⟩
    have s0 : Same H (upd H p0 (.tup [])) := same_new hp0 _
    refine ⟨a, p0, xs, rfl, rfl, SqT.of (s0 _ _ ha), SqT.of upd_same, _, rfl, ite2 (fun c => ?_) (fun c => ?_)⟩
    · have hb : lensB xs = false := by
        unfold lensB
        rw [c]
        rfl
      exact qf hb _ s0
    refine ⟨_, rfl, a, rfl, ⟨xs, SqT.of (s0 _ _ ha)⟩, fun D hD => ?_⟩
    have s1 : Same H (upd (upd H p0 (.tup [])) D (.lst [])) := s0.trans (same_new hD _)
    have hDH : H D = none := s0.free hD
    refine lc_tup (K := K) (a := a) (xs := xs) (fun i H' => H' D = some (.lst ((xs.take i).map fun x => .bl (fromB 1 x))) ∧ Same H H') ⟨upd_same, s1⟩ (fun i H' _ ⟨_, s⟩ => SqT.of (s _ _ ha)) ?_ ?_
    · rintro i x H' hx ⟨hl, sm⟩
      refine ⟨rfl, ?_⟩
      have hm : x ∈ xs := List.mem_of_getElem? hx
      refine ⟨_, rfl, 1, x, rfl, (hpl x hm).same sm, _, hl, ?_, ?_, same_old sm hDH _⟩
      · rw [List.length_map, List.length_take, sizeLine_eq]
        omega
      · rw [upd_same, List.take_add_one, hx, List.map_append]
        rfl
    · rintro H' ⟨hl, sm⟩
      rw [List.take_length] at hl
      refine ⟨D, xs.map (fromB 1), rfl, SqL.of (by rw [hl, List.map_map]; rfl), ?_⟩
      have eall : (xs.map (fromB 1)).all id = xs.all (fromB 1) := by
        rw [List.all_map]
        rfl
      rw [eall]
      refine ⟨_, rfl, ite2 (fun c2 => ?_) (fun c2 => ?_)⟩
      · have hb : lensB xs = false := by
          unfold lensB
          have c3 : xs.all (fromB 1) = false := by simpa using c2
          rw [c3, Bool.false_and, Bool.and_false]
        exact qf hb _ sm
      · have c3 : xs.all (fromB 1) = true := by simpa using c2
        obtain ⟨ns, rfl, hns⟩ := all_ints c3
        have ha' := sm _ _ ha
        rw [List.length_map] at hlen
        refine ⟨_, rfl, a, _, rfl, .inr (SqT.of ha'), _, 1, rfl, rfl, _, rfl, by rw [List.length_map]; omega, by rw [List.length_map]; omega, fun D2 hD2 => ?_⟩
        have hD2H : H D2 = none := sm.free hD2
        have ent : (((ns.map V.int).length : Int) - 1).toNat = ns.length - 1 := by
          rw [List.length_map]
          omega
        rw [ent]
        refine lc_range (lo := 0) (n := ns.length - 1) (fun i H2 => H2 D2 = some (.lst ((List.range i).map fun k => .bl (decide (ns.getD k 0 ≤ ns.getD (k + 1) 0)))) ∧ Same H H2) ⟨upd_same, sm.trans (same_new hD2 _)⟩ ?_ ?_
        · rintro i H2 hi ⟨hl2, sm2⟩
          refine ⟨rfl, ?_⟩
          have ha2 := sm2 _ _ ha
          have g1 : atI (ns.map V.int) (0 + (i : Int)) = some (.int (ns.getD i 0)) := by
            rw [Int.zero_add]
            exact atI_nat (map_get (by omega))
          have g2 : atI (ns.map V.int) (0 + (i : Int) + 1) = some (.int (ns.getD (i + 1) 0)) := by
            rw [Int.zero_add]
            exact atI_nat (j := i + 1) (map_get (by omega))
          refine ⟨_, rfl, _, rfl, a, _, _, _, rfl, rfl, SqT.of ha2, g1, _, rfl, _, rfl, _, 1, rfl, rfl, a, _, _, _, rfl, rfl, SqT.of ha2, g2, _, _, rfl, rfl, _, hl2, ?_, ?_, same_old sm2 hD2H _⟩
          · rw [List.length_map, List.length_range, sizeLine_eq]
            omega
          · rw [upd_same, List.range_succ, List.map_append]
            rfl
        · rintro H2 ⟨hl2, sm2⟩
          refine ⟨D2, (List.range (ns.length - 1)).map fun k => decide (ns.getD k 0 ≤ ns.getD (k + 1) 0), rfl, SqL.of (by rw [hl2, List.map_map]; rfl), ?_⟩
          have eall2 : (((List.range (ns.length - 1)).map fun k => decide (ns.getD k 0 ≤ ns.getD (k + 1) 0)).all id) = (List.range ((ns.map V.int).length - 1)).all fun k => leV ((ns.map V.int).getD k .non) ((ns.map V.int).getD (k + 1) .non) := by
            rw [List.all_map, List.length_map]
            refine all_on fun k hk => ?_
            have hk' : k < ns.length - 1 := List.mem_range.mp hk
            rw [getD_map (by omega), getD_map (by omega)]
            rfl
          have elens : lensB (ns.map V.int) = ((List.range (ns.length - 1)).map fun k => decide (ns.getD k 0 ≤ ns.getD (k + 1) 0)).all id := by
            unfold lensB
            have c4 : (ns.map V.int).isEmpty = false := by simpa using c
            rw [c3, c4, eall2]
            rfl
          rw [← elens]
          refine ⟨_, rfl, ite2 (fun c4 => ?_) (fun c4 => ?_)⟩
          · exact qf (by simpa using c4) _ sm2
          · exact qt (by simpa using c4) _ sm2
end
end RLX

namespace RL
def rlW (ns : List Int) (w0 : Int) : Nat → Int
  | 0 => w0
  | i + 1 => rlW ns w0 i / (ns.getD i 0 * (((ns.take i).count (ns.getD i 0) : Nat) + 1))
def rlc (n : Int) (ns : List Int) : Int := if ns.sum > n then 0 else rlW ns (fact ns.sum) ns.length * ringWays n ns.sum
theorem sum_ge : ∀ {ns : List Int}, (∀ x ∈ ns, 1 ≤ x) → (ns.length : Int) ≤ ns.sum ∧ ∀ x ∈ ns, x ≤ ns.sum
  | [], _ => ⟨Int.le_refl _, fun _ h => absurd h List.not_mem_nil⟩
  | x :: ns, h => by
    obtain ⟨h1, h2⟩ := sum_ge (ns := ns) fun y hy => h y (List.mem_cons_of_mem _ hy)
    have hx := h x List.mem_cons_self
    rw [List.sum_cons, List.length_cons]
    refine ⟨by omega, fun y hy => ?_⟩
    rcases List.mem_cons.mp hy with e | e
    · omega
    · have q := h2 y e
      omega
theorem getD_mem {ns : List Int} {i : Nat} (h : i < ns.length) : ns.getD i 0 ∈ ns := by
  rw [List.getD_eq_getElem?_getD, List.getElem?_eq_getElem h]
  exact List.getElem_mem h
end RL
namespace RLX
open PySem PySem.Spec PyProof.Rows L2 RL
section
variable {X : Cx} {CX : CXT} {k : Nat} {f : Addr} {fd : FuncData} {ps ks : List Str} {sp : Sp} {E : XK} {x : Str} {p pos : Pos} {kws : List Keyword} {tk : TA} {g : List Value → List Value → List Value} {gV : List V → List V → List V}
/-- f(k = v, ..), keywords alone -/
theorem my_callK0 (F : FnOk X.prog X.w X.K X.mg X.base CX k f fd ps sp) (hr : Room k X.A) (hg : Gl X x) (hm : X.mg x = some (.ref f)) (hk : PySem.W.keepIn X.K (.ref f) = true) (hb : KBinds X.K fd ps ks g gV) (hx : Passes CX X E)
    (hkw : PK X kws tk) (hall : (backToKw pos (keywordEach kws X.env)).all (·.1.isSome) = true := by rfl) (hks : (backToKw pos (keywordEach kws X.env)).filterMap (·.1) = ks := by rfl)
    (hdb : (x == ("__debug__" : Str)) = false := by decide) (hpl : ((backTo pos (starEach [] X.env)).any (·.1) || (backToKw pos (keywordEach kws X.env)).any (·.1.isNone)) = false := by rfl) :
    PE X (.Call (.Name x p) [] kws pos) (tCallK sp gV E tNil tk) := by
  refine ⟨fun pins s σ H Q I h => ?_⟩
  refine wpAny_Call_Name_kw (ld_glob I hg hm ?_ hdb)
  refine PySem.W.callWith_KW0 (h₀ := X.base) I.ok.mod.kin hk hall (thn (hkw.run pos pins s σ H _ I h) fun ws s2 ⟨zs, H2, I2, rz, q2⟩ => ⟨I2.kIn, ?_⟩) hpl
  rw [hks]
  exact run_fnk F hr hb hx I2 .nil rz q2
end
theorem lens_facts {ns : List Int} (h : lensB (ns.map V.int) = true) : ns ≠ [] ∧ ∀ n ∈ ns, 1 ≤ n := by
  unfold lensB at h
  rw [Bool.and_eq_true, Bool.and_eq_true] at h
  refine ⟨fun e => ?_, fun n hn => ?_⟩
  · rw [e] at h
    exact absurd h.1 Bool.false_ne_true
  · have q := List.all_eq_true.mp h.2.1 (.int n) (List.mem_map_of_mem hn)
    exact of_decide_eq_true q
theorem betw_int {m : V} (h : betw 1 m 10 = true) : ∃ n : Int, m = .int n ∧ 1 ≤ n ∧ n ≤ 10 := by
  cases m with
  | int n =>
    have h' : (decide (1 ≤ n) && decide (n ≤ 10)) = true := h
    rw [Bool.and_eq_true] at h'
    exact ⟨n, rfl, of_decide_eq_true h'.1, of_decide_eq_true h'.2⟩
  | _ => exact absurd h Bool.false_ne_true
theorem good_tup {H : Hp} {v : V} (h : goodB H v = true) : ∃ (a : Addr) (ns : List Int), v = .ref a ∧ H a = some (.tup (ns.map V.int)) ∧ lensB (ns.map V.int) = true := by
  unfold goodB at h
  cases e : tupOf H v with
  | none =>
    rw [e] at h
    exact absurd h Bool.false_ne_true
  | some xs =>
    rw [e] at h
    have h' : lensB xs = true := h
    obtain ⟨a, ea, ha⟩ := tup_some e
    have hall : xs.all (fromB 1) = true := by
      unfold lensB at h'
      rw [Bool.and_eq_true, Bool.and_eq_true] at h'
      exact h'.2.1
    obtain ⟨ns, rfl, _⟩ := all_ints hall
    exact ⟨a, ns, ea, ha, h'⟩
/-- ring_length_count: the errors, or the number -/
def spRlc (CC CL : Addr) : Sp := fun vs H Q E => ∃ m v, vs = [m, v] ∧ Plain H m ∧ Plain H v ∧ ItemsOk H v ∧ (betw 1 m 10 = false → E (.ref CC) none H) ∧ (betw 1 m 10 = true → goodB H v = false → ∀ H', Same H H' → E (.ref CL) none H') ∧
  (∀ (n : Int) (a : Addr) (ns : List Int), m = .int n → v = .ref a → 1 ≤ n → n ≤ 10 → H a = some (.tup (ns.map V.int)) → lensB (ns.map V.int) = true → ∀ H', Same H H' → Q (.int (rlc n ns)) H')
section
variable {P : Program} {w : World} {K : PySem.W.Frag} {mg : Str → Option Value} {base : Heap} {f g1 g2 g3 CC CL : Addr} {fd gd1 gd2 gd3 : FuncData}
theorem ok_rlc (F : Fun K "ring_length_count" "ring_length_count" sRingLengthCount f fd) (m1 : mg "sum" = none) (mF : mg "factorial" = some (.builtin "math.factorial")) (m2 : mg "enumerate" = none)
    (G1 : FnOk P w K mg base (L2.CX P w) 3 g1 gd1 ["value"] (spCheckMany CC)) (b1 : Binds K gd1 ["value"] []) (k1 : PySem.W.keepIn K (.ref g1) = true) (n1 : mg "check_many" = some (.ref g1))
    (G2 : FnOk P w K mg base (L2.CX P w) 3 g2 gd2 ["value"] (spCheckLengths CL)) (b2 : Binds K gd2 ["value"] []) (k2 : PySem.W.keepIn K (.ref g2) = true) (n2 : mg "check_lengths" = some (.ref g2))
    (G3 : FnOk P w K mg base CX0 3 g3 gd3 ["many", "places"] spRingWays) (b3 : Binds K gd3 ["many", "places"] []) (k3 : PySem.W.keepIn K (.ref g3) = true) (n3 : mg "ring_ways" = some (.ref g3)) :
    FnOk P w K mg base (L2.CX P w) 4 f fd ["many", "lengths"] (spRlc CC CL) := by
  refine F.okX scRingLengthCount (fun vs H Q E h => ?_) (fun cdv A outer s H vs Q E hr h => ?_)
  · obtain ⟨m, v, rfl, _⟩ := h
    rfl
  obtain ⟨m, v, rfl, hm, hv, hit, q1, q2, q3⟩ := h
  refine ⟨_, pss_cons (ps_expr (pe_call G1 hr rfl n1 k1 b1 .nil (passes_call (takes_of rfl rfl rfl rfl) (fun _ _ _ _ h => h)) (pa_cons (pv 0) pa_nil)))
    (pss_cons (ps_expr (pe_call G2 hr rfl n2 k2 b2 .nil (passes_call (takes_of rfl rfl rfl rfl) (fun _ _ _ _ h => h)) (pa_cons (pv 1) pa_nil)))
    (PSs.nox (pss_cons (ps_set (i := 2) scRingLengthCount.nd rfl (.inl rfl) (pe_callB (my_sum_tup rfl) (by rfl) m1 (by decide +kernel) (pa_cons (pv 1) pa_nil)))
    (pss_cons (ps_if (pt_cmpR op_gt (pv 2) (pv 0) (nomark _)) (pss_one (ps_ret pe_int)) pss_nil)
    (pss_cons (ps_set (i := 3) scRingLengthCount.nd rfl (.inl rfl) (pe_callBfun my_fact rfl mF (pa_cons (pv 2) pa_nil)))
    (pss_cons (ps_for PassesOwn.never rfl (my_pi_enumT (by rfl) m2 (pa_cons (pv 1) pa_nil)) (pg_tup rfl (pgs_cons (pg_name (i := 4) scRingLengthCount.nd rfl (.inl rfl)) (pgs_cons (pg_name (i := 5) scRingLengthCount.nd rfl (.inl rfl)) pgs_nil)))
      (pss_one (ps_aug (i := 3) scRingLengthCount.nd rfl (.inl rfl) (pe_op op_mul (pv 5) (pe_op op_add (my_cut_count (pv 1) (pv 4) (pv 5)) pe_int)) iop_fdiv)))
    (pss_one (ps_ret (pe_op op_mul (pv 3) (pe_call G3 hr rfl n3 k3 b3 .nil pass0 (pa_cons (pv 0) (pa_cons (pv 2) pa_nil)))))))))))), ?_⟩
  refine ⟨_, rfl, m, rfl, hm, fun c1 => ?_, fun c1 => q1 c1⟩
  refine ⟨_, rfl, v, rfl, hv, hit, fun c2 H1 s1 => ?_, fun c2 H1 s1 => q2 c1 c2 H1 s1⟩
  obtain ⟨n, rfl, h0, h1⟩ := betw_int c1
  obtain ⟨a, ns, rfl, ha, hgood⟩ := good_tup c2
  obtain ⟨hne, hpos⟩ := lens_facts hgood
  obtain ⟨hs1, hs2⟩ := sum_ge hpos
  have ha1 := s1 _ _ ha
  have hlen0 : 0 < ns.length := List.length_pos_iff.mpr hne
  have q := fun H' s => q3 n a ns rfl rfl h0 h1 ha hgood H' s
  refine ⟨_, rfl, a, ns, rfl, SqT.of ha1, _, rfl, _, rfl, ns.sum, n, rfl, rfl, _, rfl, ite2 (fun c => ?_) (fun c => ?_)⟩
  · have e : rlc n ns = 0 := if_pos (of_decide_eq_true c)
    rw [e] at q
    exact q H1 s1
  have c' : ¬ ns.sum > n := fun z => c (decide_eq_true z)
  have e : rlc n ns = rlW ns (fact ns.sum) ns.length * ringWays n ns.sum := if_neg c'
  rw [e] at q
  refine ⟨_, rfl, ns.sum, rfl, by omega, by omega, ?_⟩
  refine ⟨_, rfl, a, _, rfl, SqT.of ha1, for_it my_walk_et (fun i σ H' => ∃ y4 y5, σ = [some (.int n), some (.ref a), some (.int ns.sum), some (.int (rlW ns (fact ns.sum) i)), y4, y5] ∧ Same H H')
    ⟨none, none, rfl, s1⟩ (fun i σ H' _ ⟨_, _, _, s⟩ => SqT.of (s _ _ ha)) ?_ ?_⟩
  · rintro i x σ H2 H3 hi ⟨y4, y5, rfl, sm2⟩ ⟨T, x1, x2, rfl, hT, rfl, e1, e2⟩
    cases e1
    obtain ⟨hi', rfl⟩ := map_get_inv e2
    have sm3 : Same H (upd H2 T (.tup [.int (i : Nat), .int (ns.getD i 0)])) := sm2.trans (same_new hT _)
    have eT : (upd H2 T (.tup [.int (i : Nat), .int (ns.getD i 0)])) T = some (.tup [.int (i : Nat), .int (ns.getD i 0)]) := upd_same
    have hm1 := RL.getD_mem hi'
    have hl1 := hpos _ hm1
    have hl2 := hs2 _ hm1
    have hc : (ns.take i).count (ns.getD i 0) ≤ 10 := by
      have z1 : (ns.take i).count (ns.getD i 0) ≤ (ns.take i).length := List.count_le_length
      rw [List.length_take] at z1
      omega
    refine ⟨T, _, rfl, SqT.of eT, rfl, _, _, rfl, _, _, rfl, rfl, ?_⟩
    refine ⟨_, rfl, _, rfl, _, rfl, _, rfl, (i : Int), rfl, a, ns, i, rfl, rfl, SqT.of (sm3 _ _ ha), hi', fun p hp => ⟨_, rfl, ns.getD i 0, rfl, upd_same, _, 1, rfl, rfl, ns.getD i 0, _, rfl, rfl, .inl (by omega), _, _, rfl, rfl, ⟨?_, ?_⟩, some (.int (i : Nat)), some (.int (ns.getD i 0)), rfl, sm3.trans (same_new hp _)⟩⟩
    · have z : (1 : Int) * 1 ≤ ns.getD i 0 * (((ns.take i).count (ns.getD i 0) : Nat) + 1) := Int.mul_le_mul hl1 (by omega) (by decide) (by omega)
      omega
    · have z : ns.getD i 0 * (((ns.take i).count (ns.getD i 0) : Nat) + 1) ≤ 10 * 11 := Int.mul_le_mul (by omega) (by omega) (by omega) (by decide)
      omega
  · rintro σ H2 ⟨y4, y5, rfl, sm2⟩
    rw [List.length_map]
    refine ⟨_, rfl, _, rfl, _, rfl, n, ns.sum, rfl, by omega, h1, by omega, by omega, _, _, rfl, rfl, .inr (ways_small (by omega) h1 (by omega) (by omega)), q H2 sm2⟩
end
end RLX

namespace RL
/-- 0, 1, .. below k -/
def rng (k : Nat) : List Int := (List.range k).map fun (i : Nat) => (i : Int)
theorem rng_len (k : Nat) : (rng k).length = k := by
  unfold rng
  rw [List.length_map, List.length_range]
theorem rng_get {k i : Nat} (h : i < k) : (rng k).getD i 0 = i := by
  unfold rng
  rw [List.getD_eq_getElem?_getD, List.getElem?_map, List.getElem?_range h]
  rfl
theorem rng_mem {k : Nat} {x : Int} (h : x ∈ rng k) : 0 ≤ x ∧ x < k := by
  unfold rng at h
  obtain ⟨i, hi, rfl⟩ := List.mem_map.mp h
  have := List.mem_range.mp hi
  omega
end RL
namespace RLX
open PySem PySem.Spec PyProof.Rows L2 RL
def spLot : Sp := fun vs H Q _ => ∃ (n : Int) (a : Addr) (k : Nat), vs = [.int n, .ref a] ∧ 1 ≤ n ∧ n ≤ 10 ∧ 1 ≤ k ∧ (k : Int) ≤ n ∧ H a = some (.tup ((rng k).map V.int)) ∧ ∀ H', Same H H' → Q (.bl true) H'
def spRoots : Sp := fun vs H Q _ => ∃ (n : Int) (a : Addr) (k : Nat), vs = [.int n, .ref a] ∧ 1 ≤ n ∧ n ≤ 10 ∧ 1 ≤ k ∧ (k : Int) ≤ n ∧ H a = some (.tup ((rng k).map V.int)) ∧ ∀ H', Same H H' → Q .non H'
def spForest : Sp := fun vs H Q _ => ∃ (n : Int) (a : Addr) (k : Nat), vs = [.int n, .ref a] ∧ 1 ≤ n ∧ n ≤ 10 ∧ 1 ≤ k ∧ (k : Int) ≤ n ∧ H a = some (.tup ((rng k).map V.int)) ∧ ∀ H', Same H H' → Q (.int (forestsOn n k)) H'
theorem rep_true_all : ∀ m : Nat, (List.replicate m true).all id = true
  | 0 => rfl
  | m + 1 => by
    rw [List.replicate_succ, List.all_cons, rep_true_all m]
    rfl
section
variable {P : Program} {w : World} {K : PySem.W.Frag} {mg : Str → Option Value} {base : Heap} {f g1 g2 g3 C : Addr} {fd gd1 gd2 gd3 : FuncData}
theorem ok_lot (F : Fun K "is_lot_of" "is_lot_of" sIsLotOf f fd) (m1 : mg "isinstance" = none) (m2 : mg "tuple" = none) (m3 : mg "all" = none) (m4 : mg "range" = none) (m5 : mg "len" = none)
    (G : FnOk P w K mg base CX0 2 g1 gd1 ["low", "value", "high"] spIsBetween) (bG : Binds K gd1 ["low", "value", "high"] []) (kG : PySem.W.keepIn K (.ref g1) = true) (mG : mg "is_between" = some (.ref g1)) : FnOk P w K mg base CX0 3 f fd ["many", "value"] spLot := by
  refine F.ok scIsLotOf (fun vs H Q E h => ?_) (fun cdv A outer s H vs Q E hr h => ?_)
  · obtain ⟨n, a, k, rfl, _⟩ := h
    rfl
  obtain ⟨n, a, k, rfl, h0, h1, hk0, hk1, ha, q⟩ := h
  obtain ⟨t, ty, k1⟩ := kit_tup (K := K) (H := H) (v := .ref a) (.inr ⟨_, ha⟩)
  rw [tupOf_ref ha] at k1
  refine ⟨_, pss_cons (ps_if (PW.pt (pw_or (pt_not (pt_val (pe_callB call_isi (by rfl) m1 (by decide +kernel) (pa_cons (pv 1) (pa_cons (pe_bltn (v := .ty "tuple") (by rfl) m2 (by decide +kernel) rfl) pa_nil)))))
      (pw_or1 (pt_not (pt_val (pe_callB (cr_all rfl) (by rfl) m3 (by decide +kernel) (pa_cons
        (pe_lc (own := [("place", 2)]) (g := gName 2) (tt := tYes) rfl scIsLotOf.nd (pi_tup (pv 1)) (blkOk_by (own := [("place", 2)]) (N := ["many", "value", "place", "k"]) (sc := defScope sIsLotOf) (by decide +kernel))
          (fun _ _ _ _ _ => pg_name (i := 2) scIsLotOf.nd rfl (Or.inl rfl)) (fun _ _ _ _ _ => pts_nil) (fun _ _ _ _ _ => pe_call G hr rfl mG kG bG .nil pass0 (pa_cons pe_int (pa_cons (pv 2) (pa_cons (pe_op op_sub (pv 0) pe_int) pa_nil))))) pa_nil)))))))
      (pss_one (ps_ret pe_bl)) pss_nil)
    (pss_one (ps_ret (pe_callB (cr_all rfl) (by rfl) m3 (by decide +kernel) (pa_cons
        (pe_lc (own := [("k", 3)]) (g := gName 3) (tt := tYes) rfl scIsLotOf.nd (pi_range1 rfl m4 (pa_cons (pe_op op_sub (pe_callB call_len_seq (by rfl) m5 PySem.boot_len (pa_cons (pv 1) pa_nil)) pe_int) pa_nil)) (blkOk_by (own := [("k", 3)]) (N := ["many", "value", "place", "k"]) (sc := defScope sIsLotOf) (by decide +kernel))
          (fun _ _ _ _ _ => pg_name (i := 3) scIsLotOf.nd rfl (Or.inl rfl)) (fun _ _ _ _ _ => pts_nil) (fun _ _ _ _ _ => pe_cmpR op_lt (pe_ix (r := rIxT K) ix_tup (pv 1) (pv 3) (fun _ _ => rfl)) (pe_ix (r := rIxT K) ix_tup (pv 1) (pe_op op_add (pv 3) pe_int) (fun _ _ => rfl)) (nomark _))) pa_nil)))), ?_⟩
  have hlen := rng_len k
  refine ⟨_, rfl, .ref a, .ty "tuple", _, _, _, rfl, .ty _, ty, k1, true, rfl, ?_⟩
  refine ⟨_, rfl, a, rfl, ⟨_, SqT.of ha⟩, fun D hD => ?_⟩
  refine lc_tup (K := K) (a := a) (xs := (rng k).map V.int) (fun i H' => H' D = some (.lst ((List.replicate i true).map V.bl)) ∧ Same H H' ∧ i ≤ k) ⟨upd_same, same_new hD _, Nat.zero_le _⟩ (fun i H' _ ⟨_, s, _⟩ => SqT.of (s _ _ ha)) ?_ ?_
  · rintro i x H' hx ⟨hl, sm, hi⟩
    obtain ⟨hi', rfl⟩ := map_get_inv hx
    rw [hlen] at hi'
    rw [rng_get hi']
    refine ⟨rfl, ?_⟩
    have eb : betw 0 (.int (i : Int)) (n - 1) = true := by
      show (decide (0 ≤ (i : Int)) && decide ((i : Int) ≤ n - 1)) = true
      rw [decide_eq_true (by omega), decide_eq_true (by omega)]
      rfl
    refine ⟨_, rfl, _, rfl, n, 1, rfl, rfl, 0, .int i, n - 1, rfl, trivial, _, hl, ?_, ?_, same_old sm hD _, hi'⟩
    · rw [List.length_map, List.length_replicate, sizeLine_eq]
      omega
    · rw [upd_same, eb, List.replicate_succ', List.map_append]
      rfl
  · rintro H' ⟨hl, sm, _⟩
    refine ⟨D, _, rfl, SqL.of hl, ?_⟩
    rw [rep_true_all]
    refine ⟨true, rfl, ?_⟩
    have ha' := sm _ _ ha
    refine ⟨_, rfl, a, _, rfl, .inr (SqT.of ha'), _, 1, rfl, rfl, _, rfl, by rw [List.length_map]; omega, by rw [List.length_map]; omega, fun D2 hD2 => ?_⟩
    have ent : ((((rng k).map V.int).length : Int) - 1).toNat = k - 1 := by
      rw [List.length_map]
      omega
    rw [ent]
    have hD2H : H D2 = none := sm.free hD2
    refine lc_range (lo := 0) (n := k - 1) (fun i H2 => H2 D2 = some (.lst ((List.replicate i true).map V.bl)) ∧ Same H H2) ⟨upd_same, sm.trans (same_new hD2 _)⟩ ?_ ?_
    · rintro i H2 hi ⟨hl2, sm2⟩
      refine ⟨rfl, ?_⟩
      have ha2 := sm2 _ _ ha
      have g1 : atI ((rng k).map V.int) (0 + (i : Int)) = some (.int (i : Int)) := by
        rw [Int.zero_add]
        have z := map_get (l := rng k) (i := i) (by omega)
        rw [rng_get (by omega)] at z
        exact atI_nat z
      have g2 : atI ((rng k).map V.int) (0 + (i : Int) + 1) = some (.int ((i : Int) + 1)) := by
        rw [Int.zero_add]
        have z := map_get (l := rng k) (i := i + 1) (by omega)
        rw [rng_get (by omega)] at z
        exact atI_nat (j := i + 1) z
      refine ⟨_, rfl, _, rfl, a, _, _, _, rfl, rfl, SqT.of ha2, g1, _, rfl, _, rfl, _, 1, rfl, rfl, a, _, _, _, rfl, rfl, SqT.of ha2, g2, _, _, rfl, rfl, _, hl2, ?_, ?_, same_old sm2 hD2H _⟩
      · rw [List.length_map, List.length_replicate, sizeLine_eq]
        omega
      · rw [upd_same, List.replicate_succ', List.map_append]
        have ed : decide ((i : Int) < (i : Int) + 1) = true := decide_eq_true (by omega)
        show some (HO.lst (_ ++ [V.bl (decide ((i : Int) < (i : Int) + 1))])) = _
        rw [ed]
        rfl
    · rintro H2 ⟨hl2, sm2⟩
      refine ⟨D2, _, rfl, SqL.of hl2, ?_⟩
      rw [rep_true_all]
      exact q H2 sm2
theorem ok_roots (F : Fun K "check_roots" "check_roots" sCheckRoots f fd)
    (G1 : FnOk P w K mg base (L2.CX P w) 3 g1 gd1 ["value"] (spCheckMany C)) (b1 : Binds K gd1 ["value"] []) (k1 : PySem.W.keepIn K (.ref g1) = true) (n1 : mg "check_many" = some (.ref g1))
    (G2 : FnOk P w K mg base CX0 3 g2 gd2 ["many", "value"] spLot) (b2 : Binds K gd2 ["many", "value"] []) (k2 : PySem.W.keepIn K (.ref g2) = true) (n2 : mg "is_lot_of" = some (.ref g2)) : FnOk P w K mg base CX0 4 f fd ["many", "lot"] spRoots := by
  refine F.ok scCheckRoots (fun vs H Q E h => ?_) (fun cdv A outer s H vs Q E hr h => ?_)
  · obtain ⟨n, a, k, rfl, _⟩ := h
    rfl
  obtain ⟨n, a, k, rfl, h0, h1, hk0, hk1, ha, q⟩ := h
  refine ⟨_, pss_cons (ps_expr (pe_call G1 hr rfl n1 k1 b1 .nil passL (pa_cons (pv 0) pa_nil)))
    (pss_one (ps_if (PW.pt (pw_or (pt_not (pt_val (pe_call G2 hr rfl n2 k2 b2 .nil pass0 (pa_cons (pv 0) (pa_cons (pv 1) pa_nil))))) (pw_or1 (pt_cmpR (my_eq_nil (Nat.lt_of_le_of_lt (Nat.le_add_right _ _) hr.units)) (pv 1) (pe_tup pa_nil) (nomark _)))))
      (pss_one ps_never) pss_nil)), ?_⟩
  have hb : betw 1 (.int n) 10 = true := by
    show (decide (1 ≤ n) && decide (n ≤ 10)) = true
    rw [decide_eq_true h0, decide_eq_true h1]
    rfl
  refine ⟨_, rfl, .int n, rfl, trivial, fun _ => ?_, fun z => Bool.noConfusion (hb.symm.trans z)⟩
  refine ⟨_, rfl, _, rfl, n, a, k, rfl, h0, h1, hk0, hk1, ha, fun H1 s1 => ⟨true, rfl, ?_⟩⟩
  refine ⟨_, rfl, (by show 0 ≤ sizeLine; decide), fun p0 hp0 => ?_⟩
  have s2 : Same H (upd H1 p0 (.tup [])) := s1.trans (same_new hp0 _)
  have e : ((rng k).map V.int).isEmpty = false := by
    cases e1 : (rng k).map V.int with
    | nil =>
      have z := congrArg List.length e1
      rw [List.length_map, rng_len] at z
      exact absurd z (by show k ≠ 0; omega)
    | cons _ _ => rfl
  refine ⟨a, p0, _, rfl, rfl, SqT.of (s2 _ _ ha), SqT.of upd_same, false, by rw [e], q _ s2⟩
theorem ok_forest (F : Fun K "forest_count" "forest_count" sForestCount f fd) (m5 : mg "len" = none)
    (G1 : FnOk P w K mg base CX0 4 g1 gd1 ["many", "lot"] spRoots) (b1 : Binds K gd1 ["many", "lot"] []) (k1 : PySem.W.keepIn K (.ref g1) = true) (n1 : mg "check_roots" = some (.ref g1))
    (G2 : FnOk P w K mg base CX0 2 g2 gd2 ["many", "roots"] spForestsOn) (b2 : Binds K gd2 ["many", "roots"] []) (k2 : PySem.W.keepIn K (.ref g2) = true) (n2 : mg "forests_on" = some (.ref g2)) : FnOk P w K mg base CX0 5 f fd ["many", "lot"] spForest := by
  refine F.ok scForestCount (fun vs H Q E h => ?_) (fun cdv A outer s H vs Q E hr h => ?_)
  · obtain ⟨n, a, k, rfl, _⟩ := h
    rfl
  obtain ⟨n, a, k, rfl, h0, h1, hk0, hk1, ha, q⟩ := h
  refine ⟨_, pss_cons (ps_expr (pe_call G1 hr rfl n1 k1 b1 .nil pass0 (pa_cons (pv 0) (pa_cons (pv 1) pa_nil))))
    (pss_one (ps_ret (pe_call G2 (hr.mono (by decide)) rfl n2 k2 b2 .nil pass0 (pa_cons (pv 0) (pa_cons (pe_callB call_len_seq (by rfl) m5 PySem.boot_len (pa_cons (pv 1) pa_nil)) pa_nil))))), ?_⟩
  refine ⟨_, rfl, _, rfl, n, a, k, rfl, h0, h1, hk0, hk1, ha, fun H1 s1 => ?_⟩
  have el : (((rng k).map V.int).length : Int) = k := by
    rw [List.length_map, rng_len]
  refine ⟨_, rfl, _, rfl, a, _, rfl, .inr (SqT.of (s1 _ _ ha)), ?_⟩
  rw [el]
  exact ⟨n, k, rfl, by omega, h1, by omega, by omega, q H1 s1⟩
end
end RLX

namespace RL
def wLeft (n : Int) (ns : List Int) : Nat → Int
  | 0 => n
  | i + 1 => wLeft n ns i - ns.getD i 0
def wFound (n : Int) (ns : List Int) : Nat → Int
  | 0 => 1
  | i + 1 => wFound n ns i * choose (wLeft n ns i) (ns.getD i 0).toNat * down (ns.getD i 0 - 1) (ns.getD i 0 - 1).toNat
def wDiv (ns : List Int) (w0 : Int) : Nat → Int
  | 0 => w0
  | i + 1 => wDiv ns w0 i / (((ns.take i).count (ns.getD i 0) : Nat) + 1)
def wHung (n l : Int) : Int := if l > 0 then (n - l) * pw n (l - 1).toNat else 1
def lways (n : Int) (ns : List Int) : Int := wDiv ns (wFound n ns ns.length) ns.length * wHung n (wLeft n ns ns.length)
theorem wLeft_sum (n : Int) : ∀ (ns : List Int) (i : Nat), i ≤ ns.length → wLeft n ns i = n - (ns.take i).sum
  | ns, 0, _ => by
    show n = n - 0
    omega
  | ns, i + 1, h => by
    have q := wLeft_sum n ns i (by omega)
    have e : ns.take (i + 1) = ns.take i ++ [ns.getD i 0] := by
      rw [List.take_add_one, List.getElem?_eq_getElem (by omega), List.getD_eq_getElem?_getD, List.getElem?_eq_getElem (by omega)]
      rfl
    show wLeft n ns i - ns.getD i 0 = _
    rw [q, e, List.sum_append]
    show _ = n - ((ns.take i).sum + (ns.getD i 0 + 0))
    omega
theorem take_sum_le : ∀ {ns : List Int} (i : Nat), (∀ x ∈ ns, 1 ≤ x) → 0 ≤ (ns.take i).sum ∧ (ns.take i).sum ≤ ns.sum
  | [], i, _ => by
    rw [List.take_nil]
    exact ⟨Int.le_refl _, Int.le_refl _⟩
  | x :: ns, 0, h => by
    obtain ⟨q1, q2⟩ := take_sum_le (ns := ns) ns.length fun y hy => h y (List.mem_cons_of_mem _ hy)
    rw [List.take_length] at q1
    have hx := h x List.mem_cons_self
    rw [List.sum_cons]
    show (0 : Int) ≤ 0 ∧ (0 : Int) ≤ _
    exact ⟨Int.le_refl _, by omega⟩
  | x :: ns, i + 1, h => by
    obtain ⟨q1, q2⟩ := take_sum_le (ns := ns) i fun y hy => h y (List.mem_cons_of_mem _ hy)
    have hx := h x List.mem_cons_self
    rw [List.take_succ_cons, List.sum_cons, List.sum_cons]
    omega
theorem choose_small {n p : Int} (h0 : 0 ≤ n) (h1 : n ≤ 10) (h2 : 0 ≤ p) (h3 : p ≤ 10) : -(2 ^ 64) < choose n p.toNat ∧ choose n p.toNat < 2 ^ 64 :=
  upto (p := fun n => ∀ p : Int, 0 ≤ p → p ≤ 10 → -(2 ^ 64) < choose n p.toNat ∧ choose n p.toNat < 2 ^ 64) (m := 10)
    (fun i hi p h2 h3 => upto (p := fun p => -(2 ^ 64) < choose i p.toNat ∧ choose i p.toNat < 2 ^ 64) (m := 10) (fun j hj =>
      (by decide +kernel : ∀ i ∈ List.range 11, ∀ j ∈ List.range 11, -(2 ^ 64) < choose (i : Int) (j : Int).toNat ∧ choose (i : Int) (j : Int).toNat < 2 ^ 64) i hi j hj) h2 h3) h0 h1 p h2 h3
theorem down_small {p : Int} (h2 : 0 ≤ p) (h3 : p ≤ 10) : -(2 ^ 64) < down p p.toNat ∧ down p p.toNat < 2 ^ 64 :=
  upto (p := fun p => -(2 ^ 64) < down p p.toNat ∧ down p p.toNat < 2 ^ 64) (m := 10) (by decide +kernel) h2 h3
theorem hung_small {n p : Int} (h0 : 0 ≤ n) (h1 : n ≤ 10) (h2 : 0 ≤ p) (h3 : p ≤ 10) : -(2 ^ 64) < wHung n p ∧ wHung n p < 2 ^ 64 :=
  upto (p := fun n => ∀ p : Int, 0 ≤ p → p ≤ 10 → -(2 ^ 64) < wHung n p ∧ wHung n p < 2 ^ 64) (m := 10)
    (fun i hi p h2 h3 => upto (p := fun p => -(2 ^ 64) < wHung i p ∧ wHung i p < 2 ^ 64) (m := 10) (fun j hj =>
      (by decide +kernel : ∀ i ∈ List.range 11, ∀ j ∈ List.range 11, -(2 ^ 64) < wHung (i : Int) (j : Int) ∧ wHung (i : Int) (j : Int) < 2 ^ 64) i hi j hj) h2 h3) h0 h1 p h2 h3
end RL
namespace RLX
open PySem PySem.Spec PyProof.Rows L2 RL
/-! ### the law's source, as it stands -/
def SrcAt (H : Hp) (a : Addr) (n : Int) : Prop := ∃ x y t : Int, H a = some (.lst [.int x, .int y, .int t]) ∧ 0 ≤ x ∧ 0 ≤ y ∧ y < 2 ^ 61 ∧ 0 ≤ t ∧ t ≤ n
def KeepBut (a : Addr) (H H' : Hp) : Prop := ∀ b o, H b = some o → b ≠ a → H' b = some o
theorem SrcAt.same {H H' : Hp} {a : Addr} {n : Int} (h : SrcAt H a n) (s : Same H H') : SrcAt H' a n := by
  obtain ⟨x, y, t, e, r⟩ := h
  exact ⟨x, y, t, s _ _ e, r⟩
theorem same_but {H H' : Hp} (s : Same H H') (a : Addr) : KeepBut a H H' := fun b o e _ => s b o e
theorem KeepBut.trans {a : Addr} {H H1 H2 : Hp} (s : KeepBut a H H1) (t : KeepBut a H1 H2) : KeepBut a H H2 := fun b o e n => t b o (s b o e n) n
theorem KeepBut.tup {a b : Addr} {H H' : Hp} {n : Int} {xs : List V} (s : KeepBut a H H') (h : SrcAt H a n) (e : H b = some (.tup xs)) : H' b = some (.tup xs) := by
  obtain ⟨x, y, t, ea, _⟩ := h
  exact s b _ e (ne_of e ea (fun z => nomatch z))
theorem keep_upd {H : Hp} (a : Addr) (o : HO) : KeepBut a H (upd H a o) := fun b u e n => by
  rw [upd_ne n]
  exact e
/-- a draw from the source as it stands -/
theorem draw_at {H : Hp} {Q : VK} {E : XK} {a : Addr} {m n : Int} (h : SrcAt H a n) (hn : n ≤ 1000) (hm : 1 ≤ m) (hm2 : m ≤ 1000000) (q : ∀ (v : Int) (H' : Hp), 0 ≤ v → v < m → SrcAt H' a (n + 1) → KeepBut a H H' → Q (.int v) H') : spDraw [.ref a, .int m] H Q E := by
  obtain ⟨x, y, t, e, h1, h2, h3, h4, h5⟩ := h
  exact ⟨a, m, x, y, t, rfl, e, hm, hm2, h1, h2, h3, h4, by omega, fun v x' t' v0 v1 x0 t0 t1 => q v _ v0 v1 ⟨x', y, t', upd_same, x0, h2, h3, by omega, by omega⟩ (keep_upd a _)⟩
def spDraw2 : Sp := fun vs H Q _ => ∃ (a : Addr) (m n : Int), vs = [.ref a, .int m] ∧ SrcAt H a n ∧ n ≤ 1000 ∧ 1 ≤ m ∧ m ≤ 1000000 ∧ ∀ (v : Int) (H' : Hp), 0 ≤ v → v < m → SrcAt H' a (n + 1) → KeepBut a H H' → Q (.int v) H'
theorem draw2 {P : Program} {w : World} {K : PySem.W.Frag} {mg : Str → Option Value} {base : Heap} {f : Addr} {fd : FuncData} {k : Nat} (F : FnOk P w K mg base CX0 k f fd ["_law_source_here", "_law_many"] spDraw) : FnOk P w K mg base CX0 k f fd ["_law_source_here", "_law_many"] spDraw2 :=
  F.imp fun vs H Q E h => by
    obtain ⟨a, m, n, rfl, hs, hn, h1, h2, q⟩ := h
    exact draw_at hs hn h1 h2 q
theorem pick {L : List V} {v : Int} (h0 : 0 ≤ v) (h1 : v < (L.length : Int)) : ∃ z, atI L v = some z ∧ z ∈ L := by
  have hk : v.toNat < L.length := by omega
  have ek : v = ((v.toNat : Nat) : Int) := by omega
  refine ⟨L[v.toNat], ?_, List.getElem_mem hk⟩
  have q : atI L ((v.toNat : Nat) : Int) = some L[v.toNat] := atI_nat (List.getElem?_eq_getElem hk)
  rw [← ek] at q
  exact q
def spBad : Sp := fun vs H Q _ => ∃ (a : Addr) (n : Int), vs = [.ref a] ∧ SrcAt H a n ∧ n ≤ 1000 ∧ ∀ v H', SrcAt H' a (n + 1) → KeepBut a H H' → Plain H' v → v ≠ .ref a → betw 1 v 10 = false → Q v H'
def spWays : Sp := fun vs H Q _ => ∃ (n : Int) (a : Addr) (ns : List Int), vs = [.int n, .ref a] ∧ 1 ≤ n ∧ n ≤ 10 ∧ H a = some (.tup (ns.map V.int)) ∧ (∀ x ∈ ns, 1 ≤ x) ∧ ns.sum ≤ n ∧ ∀ H', Same H H' → Q (.int (lways n ns)) H'
section
variable {P : Program} {w : World} {K : PySem.W.Frag} {mg : Str → Option Value} {base : Heap} {f g1 g2 g3 C : Addr} {fd gd1 gd2 gd3 : FuncData}
theorem ok_bad (F : Fun K "_law_bad_many" "_law_bad_many" sBadMany f fd)
    (G : FnOk P w K mg base CX0 1 g1 gd1 ["_law_source_here", "_law_many"] spDraw2) (bG : Binds K gd1 ["_law_source_here", "_law_many"] []) (kG : PySem.W.keepIn K (.ref g1) = true) (mG : mg "_law_draw" = some (.ref g1)) : FnOk P w K mg base CX0 2 f fd ["_law_source_here"] spBad := by
  refine F.ok scBadMany (fun vs H Q E h => ?_) (fun cdv A outer s H vs Q E hr h => ?_)
  · obtain ⟨a, n, rfl, _⟩ := h
    rfl
  obtain ⟨a, n, rfl, hs, hn, q⟩ := h
  refine ⟨_, pss_one (ps_ret (pe_ix ix_list (pe_lst (pa_cons pe_int (pa_cons pe_int (pa_cons (pe_un un_neg pe_int) (pa_cons pe_bl (pa_cons pe_non (pa_cons pe_str (pa_cons (pe_tup (pa_cons pe_int pa_nil)) (pa_cons (pe_lst (pa_cons pe_int pa_nil))
    (pa_cons (pe_op op_pow pe_int pe_int) (pa_cons pe_bl (pa_cons pe_int (pa_cons (pe_un un_neg (pe_op op_pow pe_int pe_int)) pa_nil))))))))))))) (pe_call G hr rfl mG kG bG .nil pass0 (pa_cons (pv 0) (pa_cons pe_int pa_nil))) (fun _ _ => rfl))), ?_⟩
  refine ⟨1, rfl, (by show 1 ≤ sizeLine; decide), fun t ht => ?_⟩
  have s1 : Same H (upd H t (.tup [.int 3])) := same_new ht _
  refine ⟨(by show 1 ≤ sizeLine; decide), fun l hl => ?_⟩
  have s2 : Same H (upd (upd H t (.tup [.int 3])) l (.lst [.int 3])) := s1.trans (same_new hl _)
  refine ⟨10, 30, rfl, rfl, ⟨by decide, by decide, by decide⟩, 10, 9, rfl, rfl, ⟨by decide, by decide, by decide⟩, _, rfl, (by show 12 ≤ sizeLine; decide), fun D hD => ?_⟩
  have s3 := s2.trans (same_new hD (.lst [.int 0, .int 11, .int (-1), .bl true, .non, .str "3", .ref t, .ref l, .int (10 ^ (30 : Int).toNat), .bl false, .int 12, .int (-(10 ^ (9 : Int).toNat))]))
  have hs0 := hs
  obtain ⟨x, y, u, ea, _⟩ := hs0
  have la : l ≠ a := (ne_of_none (s1 _ _ ea) hl).symm
  have Da : D ≠ a := (ne_of_none (s2 _ _ ea) hD).symm
  refine ⟨_, rfl, a, 12, n, rfl, hs.same s3, hn, by decide, by decide, fun v H' v0 v1 sa kb => ?_⟩
  have et : H' t = some (.tup [.int 3]) := kb.tup (hs.same s3) (same_new hD _ _ _ (same_new hl _ _ _ upd_same))
  have el : H' l = some (.lst [.int 3]) := kb _ _ (same_new hD _ _ _ upd_same) la
  obtain ⟨z, hz, hm⟩ := pick (L := [.int 0, .int 11, .int (-1), .bl true, .non, .str "3", .ref t, .ref l, .int (10 ^ (30 : Int).toNat), .bl false, .int 12, .int (-(10 ^ (9 : Int).toNat))]) v0 v1
  refine ⟨D, _, v, z, rfl, rfl, SqL.of (kb _ _ upd_same Da), hz, q z H' sa ?_ ?_ ?_ ?_⟩
  · exact (same_but s3 a).trans kb
  · simp only [List.mem_cons, List.not_mem_nil, or_false] at hm
    rcases hm with rfl | rfl | rfl | rfl | rfl | rfl | rfl | rfl | rfl | rfl | rfl | rfl <;> first | trivial | exact .inr ⟨_, et⟩ | exact .inl ⟨_, el⟩
  · have ta : t ≠ a := ne_of (same_new hl _ _ _ (upd_same (H := H) (a := t) (o := .tup [.int 3]))) (s2 _ _ ea) (fun z => nomatch z)
    simp only [List.mem_cons, List.not_mem_nil, or_false] at hm
    rcases hm with rfl | rfl | rfl | rfl | rfl | rfl | rfl | rfl | rfl | rfl | rfl | rfl <;> first | (intro z; exact ta (V.ref.inj z)) | (intro z; exact la (V.ref.inj z)) | (intro z; cases z)
  · simp only [List.mem_cons, List.not_mem_nil, or_false] at hm
    rcases hm with rfl | rfl | rfl | rfl | rfl | rfl | rfl | rfl | rfl | rfl | rfl | rfl <;> first | rfl | decide +kernel
theorem ok_ways (F : Fun K "_law_ways" "_law_ways" sWays f fd) (mr : mg "range" = none) (ml : mg "len" = none)
    (G1 : FnOk P w K mg base CX0 1 g1 gd1 ["_law_many", "_law_few"] spChoose) (b1 : Binds K gd1 ["_law_many", "_law_few"] []) (k1 : PySem.W.keepIn K (.ref g1) = true) (n1 : mg "_law_choose" = some (.ref g1))
    (G2 : FnOk P w K mg base CX0 1 g2 gd2 ["_law_many", "_law_few"] spDown) (b2 : Binds K gd2 ["_law_many", "_law_few"] []) (k2 : PySem.W.keepIn K (.ref g2) = true) (n2 : mg "_law_down" = some (.ref g2))
    (G3 : FnOk P w K mg base CX0 1 g3 gd3 ["_law_base", "_law_count"] spTimesItself) (b3 : Binds K gd3 ["_law_base", "_law_count"] []) (k3 : PySem.W.keepIn K (.ref g3) = true) (n3 : mg "_law_times" = some (.ref g3)) :
    FnOk P w K mg base CX0 2 f fd ["_law_many", "_law_lengths"] spWays := by
  refine F.ok scWays (fun vs H Q E h => ?_) (fun cdv A outer s H vs Q E hr h => ?_)
  · obtain ⟨n, a, ns, rfl, _⟩ := h
    rfl
  obtain ⟨n, a, ns, rfl, h0, h1, ha, hpos, hsum, q⟩ := h
  obtain ⟨hs1, hs2⟩ := sum_ge hpos
  refine ⟨_, pss_cons (ps_par (i := 2) (j := 3) rfl scWays.nd rfl rfl (by decide) rfl rfl (pa_cons (pv 0) (pa_cons pe_int pa_nil)) (by rfl))
    (pss_cons (ps_for PassesOwn.never rfl (pi_range1 rfl mr (pa_cons (pe_callB call_len_seq (by rfl) ml PySem.boot_len (pa_cons (pv 1) pa_nil)) pa_nil)) (pg_name (i := 4) scWays.nd rfl (.inl rfl))
      (pss_cons (ps_set (i := 3) scWays.nd rfl (.inl rfl) (pe_op op_mul (pe_op op_mul (pv 3) (pe_call G1 hr rfl n1 k1 b1 .nil pass0 (pa_cons (pv 2) (pa_cons (pe_ix ix_tup (pv 1) (pv 4) (fun _ _ => rfl)) pa_nil))))
        (pe_call G2 hr rfl n2 k2 b2 .nil pass0 (pa_cons (pe_op op_sub (pe_ix ix_tup (pv 1) (pv 4) (fun _ _ => rfl)) pe_int) (pa_cons (pe_op op_sub (pe_ix ix_tup (pv 1) (pv 4) (fun _ _ => rfl)) pe_int) pa_nil)))))
      (pss_one (ps_set (i := 2) scWays.nd rfl (.inl rfl) (pe_op op_sub (pv 2) (pe_ix ix_tup (pv 1) (pv 4) (fun _ _ => rfl)))))))
    (pss_cons (ps_for PassesOwn.never rfl (pi_range1 rfl mr (pa_cons (pe_callB call_len_seq (by rfl) ml PySem.boot_len (pa_cons (pv 1) pa_nil)) pa_nil)) (pg_name (i := 4) scWays.nd rfl (.inl rfl))
      (pss_one (ps_set (i := 3) scWays.nd rfl (.inl rfl) (pe_op op_fdiv (pv 3) (pe_op op_add (my_cut_count (pv 1) (pv 4) (pe_ix ix_tup (pv 1) (pv 4) (fun _ _ => rfl))) pe_int)))))
    (pss_cons (ps_set (i := 5) scWays.nd rfl (.inl rfl) (pe_op op_sub (pv 0) (pv 2)))
    (pss_one (ps_ret (pe_op op_mul (pv 3) (pe_ifExp (pt_cmpR op_gt (pv 2) pe_int (nomark _)) (pe_op op_mul (pv 5) (pe_call G3 hr rfl n3 k3 b3 .nil pass0 (pa_cons (pv 0) (pa_cons (pe_op op_sub (pv 2) pe_int) pa_nil)))) pe_int))))))), ?_⟩
  have ent : (((ns.map V.int).length : Nat) : Int).toNat = ns.length := by
    rw [List.length_map]
    omega
  have blen : (((ns.map V.int).length : Nat) : Int) < 2 ^ 62 := by
    rw [List.length_map]
    omega
  have gt : ∀ i : Nat, i < ns.length → atI (ns.map V.int) (0 + (i : Int)) = some (.int (ns.getD i 0)) := fun i hi => by
    rw [Int.zero_add]
    exact atI_nat (map_get hi)
  refine ⟨_, rfl, _, _, rfl, ?_⟩
  refine ⟨_, rfl, a, _, rfl, .inr (SqT.of ha), _, rfl, by omega, blen, ?_⟩
  rw [ent]
  refine for_range (lo := 0) (n := ns.length) (fun i σ H' => ∃ y4, σ = [some (.int n), some (.ref a), some (.int (wLeft n ns i)), some (.int (wFound n ns i)), y4, none] ∧ H' = H) ⟨none, rfl, rfl⟩ ?_ ?_
  · rintro i σ H' hi ⟨y4, rfl, rfl⟩
    have hm1 := RL.getD_mem hi
    have hl1 := hpos _ hm1
    have hl2 := hs2 _ hm1
    obtain ⟨t1, t2⟩ := take_sum_le i hpos
    have hw := wLeft_sum n ns i (by omega)
    have c1 := choose_small (n := wLeft n ns i) (p := ns.getD i 0) (by omega) (by omega) (by omega) (by omega)
    have c2 := down_small (p := ns.getD i 0 - 1) (by omega) (by omega)
    refine ⟨_, rfl, _, rfl, _, rfl, _, rfl, a, _, _, _, rfl, rfl, SqT.of ha, gt i hi, wLeft n ns i, ns.getD i 0, rfl, by omega, by omega, by omega, _, _, rfl, rfl, .inr c1, ?_⟩
    refine ⟨_, rfl, _, rfl, a, _, _, _, rfl, rfl, SqT.of ha, gt i hi, _, 1, rfl, rfl, _, rfl, _, rfl, a, _, _, _, rfl, rfl, SqT.of ha, gt i hi, _, 1, rfl, rfl, ns.getD i 0 - 1, ns.getD i 0 - 1, rfl, by omega, by omega, by omega, _, _, rfl, rfl, .inr c2, ?_⟩
    refine ⟨_, rfl, _, rfl, _, rfl, a, _, _, _, rfl, rfl, SqT.of ha, gt i hi, _, _, rfl, rfl, some (.int (0 + i)), rfl, rfl⟩
  · rintro σ H' ⟨y4, rfl, rfl⟩
    refine ⟨_, rfl, a, _, rfl, .inr (SqT.of ha), _, rfl, by omega, blen, ?_⟩
    rw [ent]
    refine for_range (lo := 0) (n := ns.length) (fun i σ H2 => ∃ y4, σ = [some (.int n), some (.ref a), some (.int (wLeft n ns ns.length)), some (.int (wDiv ns (wFound n ns ns.length) i)), y4, none] ∧ Same H' H2) ⟨y4, rfl, Same.refl _⟩ ?_ ?_
    · rintro i σ H2 hi ⟨y4, rfl, sm⟩
      have hc : (ns.take i).count (ns.getD i 0) ≤ 10 := by
        have z1 : (ns.take i).count (ns.getD i 0) ≤ (ns.take i).length := List.count_le_length
        rw [List.length_take] at z1
        omega
      refine ⟨_, rfl, _, rfl, _, rfl, 0 + (i : Int), rfl, a, ns, i, rfl, by rw [Int.zero_add], SqT.of (sm _ _ ha), hi, fun p hp => ?_⟩
      have s2 := same_new hp (.tup ((ns.take i).map V.int))
      refine ⟨_, rfl, _, rfl, a, _, _, _, rfl, rfl, SqT.of (s2 _ _ (sm _ _ ha)), gt i hi, ns.getD i 0, rfl, upd_same, _, 1, rfl, rfl, _, _, rfl, rfl, ⟨by omega, by omega⟩, some (.int (0 + i)), rfl, sm.trans s2⟩
    · rintro σ H2 ⟨y4, rfl, sm⟩
      obtain ⟨t1, t2⟩ := take_sum_le ns.length hpos
      have hw := wLeft_sum n ns ns.length (Nat.le_refl _)
      have hh := hung_small (n := n) (p := wLeft n ns ns.length) (by omega) h1 (by omega) (by omega)
      refine ⟨_, rfl, _, rfl, n, _, rfl, rfl, _, rfl, _, rfl, _, 0, rfl, rfl, _, rfl, ite2 (fun c => ?_) (fun c => ?_)⟩
      · have c' : wLeft n ns ns.length > 0 := of_decide_eq_true c
        have e : wHung n (wLeft n ns ns.length) = (n - wLeft n ns ns.length) * pw n (wLeft n ns ns.length - 1).toNat := if_pos c'
        refine ⟨_, rfl, _, rfl, _, rfl, _, 1, rfl, rfl, n, wLeft n ns ns.length - 1, rfl, by omega, by omega, by omega, _, _, rfl, rfl, .inl (by omega), _, _, rfl, rfl, .inr (by rw [← e]; exact hh), ?_⟩
        have q2 := q H2 sm
        unfold lways at q2
        rw [e] at q2
        exact q2
      · have e : wHung n (wLeft n ns ns.length) = 1 := if_neg fun z => c (decide_eq_true z)
        refine ⟨_, 1, rfl, rfl, .inr (by decide), ?_⟩
        have q2 := q H2 sm
        unfold lways at q2
        rw [e] at q2
        exact q2
end
end RLX

namespace RL
/-- all tuples from a least number on with a sum; the first number of calls is allowed -/
def parts : Nat → Nat → Nat → List (List Int)
  | 0, _, _ => []
  | n + 1, t, l => if t = 0 then [[]] else (List.range (t + 1 - l)).flatMap fun j => (parts n (t - (l + j)) (l + j)).map fun r => ((l + j : Nat) : Int) :: r
def partsTo (n t l i : Nat) : List (List Int) := (List.range i).flatMap fun j => (parts n (t - (l + j)) (l + j)).map fun r => ((l + j : Nat) : Int) :: r
theorem partsTo_more (n t l i : Nat) : partsTo n t l (i + 1) = partsTo n t l i ++ (parts n (t - (l + i)) (l + i)).map fun r => ((l + i : Nat) : Int) :: r := by
  unfold partsTo
  rw [List.range_succ, List.flatMap_append, List.flatMap_singleton]
theorem parts_zero (n l : Nat) : parts (n + 1) 0 l = [[]] := rfl
theorem parts_pos {n t l : Nat} (h : t ≠ 0) : parts (n + 1) t l = partsTo n t l (t + 1 - l) := if_neg h
theorem two_halves (m : Nat) : 2 ^ (m + 1) = 2 ^ m + 2 ^ m := by
  rw [Nat.pow_succ]
  omega
theorem partsTo_few {n t l : Nat} (hl : 1 ≤ l) (h : ∀ t l, 1 ≤ l → (parts n t l).length ≤ 2 ^ t) : ∀ i, i ≤ t → (partsTo n t l i).length + 2 ^ (t - i) ≤ 2 ^ t
  | 0, _ => by
    show 0 + 2 ^ (t - 0) ≤ 2 ^ t
    rw [Nat.zero_add, Nat.sub_zero]
    exact Nat.le_refl _
  | i + 1, hi => by
    have q := partsTo_few (n := n) (t := t) hl h i (by omega)
    have z := h (t - (l + i)) (l + i) (by omega)
    have z2 : 2 ^ (t - (l + i)) ≤ 2 ^ (t - (i + 1)) := Nat.pow_le_pow_right (by decide) (show t - (l + i) ≤ t - (i + 1) by omega)
    have z3 := two_halves (t - (i + 1))
    have z4 : t - (i + 1) + 1 = t - i := by omega
    rw [z4] at z3
    rw [partsTo_more, List.length_append, List.length_map]
    omega
theorem parts_few : ∀ n t l, 1 ≤ l → (parts n t l).length ≤ 2 ^ t
  | 0, _, _, _ => Nat.zero_le _
  | n + 1, t, l, hl => by
    by_cases h : t = 0
    · subst h
      exact Nat.le_refl 1
    · rw [parts_pos h]
      exact Nat.le_trans (Nat.le_add_right _ _) (partsTo_few (n := n) (t := t) hl (parts_few n) (t + 1 - l) (by omega))
theorem parts_in : ∀ n t l, ∀ r ∈ parts n t l, r.length ≤ n
  | 0, _, _, r, h => absurd h List.not_mem_nil
  | n + 1, t, l, r, h => by
    by_cases h0 : t = 0
    · subst h0
      rw [parts_zero] at h
      rw [List.mem_singleton.mp h]
      exact Nat.zero_le _
    · rw [parts_pos h0] at h
      unfold partsTo at h
      obtain ⟨j, _, hj⟩ := List.mem_flatMap.mp h
      obtain ⟨r', hr', rfl⟩ := List.mem_map.mp hj
      have q := parts_in n _ _ r' hr'
      rw [List.length_cons]
      omega
end RL
namespace RLX
open PySem PySem.Spec PyProof.Rows L2 RL
/-- tuples of ints at these addresses -/
abbrev TupsAt (H : Hp) : List Addr → List (List Int) → Prop := Paired fun a xs => H a = some (.tup (xs.map V.int))
theorem TupsAt.same {H H' : Hp} (s : Same H H') : ∀ {as : List Addr} {xss : List (List Int)}, TupsAt H as xss → TupsAt H' as xss
  | _, _, .nil => .nil
  | _, _, .cons h t => .cons (s _ _ h) (TupsAt.same s t)
theorem TupsAt.app {H : Hp} : ∀ {as bs : List Addr} {xss yss : List (List Int)}, TupsAt H as xss → TupsAt H bs yss → TupsAt H (as ++ bs) (xss ++ yss)
  | _, _, _, _, .nil, r => r
  | _, _, _, _, .cons h t, r => .cons h (TupsAt.app t r)
theorem TupsAt.len {H : Hp} : ∀ {as : List Addr} {xss : List (List Int)}, TupsAt H as xss → as.length = xss.length
  | _, _, .nil => rfl
  | _, _, .cons _ t => by rw [List.length_cons, List.length_cons, TupsAt.len t]
theorem TupsAt.get {H : Hp} : ∀ {as : List Addr} {xss : List (List Int)} {i : Nat} {a : Addr}, TupsAt H as xss → as[i]? = some a → ∃ xs, xss[i]? = some xs ∧ H a = some (.tup (xs.map V.int))
  | _, _, _, _, .nil, e => by simp at e
  | _, _, 0, _, .cons h _, e => ⟨_, rfl, by rw [← Option.some.inj e]; exact h⟩
  | _, _, i + 1, _, .cons _ t, e => TupsAt.get (i := i) t (by simpa using e)
theorem TupsAt.upd_lst {H : Hp} {D : Addr} {l : List V} {o : HO} (hD : H D = some (.lst l)) : ∀ {as : List Addr} {xss : List (List Int)}, TupsAt H as xss → TupsAt (upd H D o) as xss
  | _, _, .nil => .nil
  | _, _, .cons h t => .cons (by
      rw [upd_ne (ne_of h hD fun z => nomatch z)]
      exact h) (TupsAt.upd_lst hD t)
theorem two_ten {t : Nat} (h : t ≤ 10) : 2 ^ t ≤ 1024 := Nat.pow_le_pow_right (by decide : 0 < 2) h
theorem map_ref_get {as : List Addr} {i : Nat} {x : V} (h : (as.map V.ref)[i]? = some x) : ∃ a, as[i]? = some a ∧ x = .ref a := by
  rw [List.getElem?_map] at h
  cases e : as[i]? with
  | none =>
    rw [e] at h
    cases h
  | some a =>
    rw [e] at h
    exact ⟨a, rfl, (Option.some.inj h).symm⟩
def spParts (n : Nat) : Sp := fun vs H Q _ => ∃ t l : Nat, vs = [.int t, .int l] ∧ t < n ∧ t ≤ 10 ∧ 1 ≤ l ∧ l ≤ 11 ∧ ∀ H' p as, Same H H' → H p = none → H' p = some (.lst (as.map V.ref)) → TupsAt H' as (parts n t l) → Q (.ref p) H'
section
variable {P : Program} {w : World} {K : PySem.W.Frag} {mg : Str → Option Value} {base : Heap} {f : Addr} {fd : FuncData}
theorem ok_parts {n : Nat} (F : Fun K "_law_partings" "_law_partings" sPartings f fd) (mr : mg "range" = none) (hn : n ≤ 11)
    (G : FnOk P w K mg base CX0 n f fd ["_law_total", "_law_least"] (spParts n)) (bG : Binds K fd ["_law_total", "_law_least"] []) (mG : mg "_law_partings" = some (.ref f)) :
    FnOk P w K mg base CX0 (n + 1) f fd ["_law_total", "_law_least"] (spParts (n + 1)) := by
  refine F.ok scPartings (fun vs H Q E h => ?_) (fun cdv A outer s H vs Q E hr h => ?_)
  · obtain ⟨t, l, rfl, _⟩ := h
    rfl
  obtain ⟨t, l, rfl, htn, ht, hl0, hl1, q⟩ := h
  refine ⟨_, pss_cons (ps_if (pt_cmpR op_eq (pv 0) pe_int (nomark _)) (pss_one (ps_ret (pe_lst (pa_cons (pe_tup pa_nil) pa_nil)))) pss_nil)
    (pss_cons (ps_set (i := 2) scPartings.nd rfl (.inl rfl) (pe_lst pa_nil))
    (pss_cons (ps_for PassesOwn.never rfl (pi_range2 (by rfl) mr (pa_cons (pv 1) (pa_cons (pe_op op_add (pv 0) pe_int) pa_nil))) (pg_name (i := 3) scPartings.nd rfl (.inr rfl))
      (pss_one (ps_set (i := 2) scPartings.nd rfl (.inl rfl) (pe_op op_cat (pv 2)
        (pe_lc (own := [("_law_rest", 4)]) (g := gName 4) (tt := tYes) rfl scPartings.nd (pi_list (pe_call G hr rfl mG F.kp bG .nil pass0 (pa_cons (pe_op op_sub (pv 0) (pv 3)) (pa_cons (pv 3) pa_nil)))) (blkOk_by (own := [("_law_rest", 4)]) (N := ["_law_total", "_law_least", "_law_found", "_law_first", "_law_rest"]) (sc := defScope sPartings) (by decide +kernel))
          (fun _ _ _ _ _ => pg_name (i := 4) scPartings.nd rfl (Or.inl rfl)) (fun _ _ _ _ _ => pts_nil) (fun _ _ _ _ _ => pe_op (r := rCatA K) op_catA (pe_tup (pa_cons (pv 3) pa_nil)) (pv 4)))))))
    (pss_one (ps_ret (pv 2))))), ?_⟩
  refine ⟨_, rfl, rfl, _, rfl, ite2 (fun c => ?_) (fun c => ?_)⟩
  · have e : t = 0 := by
      have z : V.int (t : Int) = V.int 0 := of_decide_eq_true c
      have z2 := V.int.inj z
      omega
    subst e
    refine ⟨(by show 0 ≤ sizeLine; decide), fun p0 hp0 => ⟨(by show 1 ≤ sizeLine; decide), fun p1 hp1 => ?_⟩⟩
    have s1 := same_new hp0 (.tup [])
    have s2 := s1.trans (same_new hp1 (.lst [.ref p0]))
    exact q _ p1 [p0] s2 (s1.free hp1) upd_same (.cons (same_new hp1 _ _ _ upd_same) .nil)
  have ht0 : t ≠ 0 := fun e => c (by rw [e]; exact decide_eq_true rfl)
  refine ⟨(by show 0 ≤ sizeLine; decide), fun p0 hp0 => ?_⟩
  refine ⟨_, rfl, _, rfl, t, 1, rfl, rfl, l, t + 1, rfl, ⟨by omega, by omega, by omega, by omega⟩, for_range (lo := (l : Int)) (n := ((t : Int) + 1 - l).toNat) (fun i σ H' => ∃ p as y3, σ = [some (.int t), some (.int l), some (.ref p), y3, none] ∧ H p = none ∧ H' p = some (.lst (as.map V.ref)) ∧ TupsAt H' as (partsTo n t l i) ∧ Same H H')
    ⟨p0, [], none, rfl, hp0, upd_same, .nil, same_new hp0 _⟩ ?_ ?_⟩
  · rintro i σ H1 hi ⟨p, as, y3, rfl, hp, hp1, hT, sm⟩
    have hi2 : l + i ≤ t := by omega
    refine ⟨_, rfl, _, rfl, _, rfl, t, l + i, rfl, rfl, _, rfl, t - (l + i), l + i, ?_, by omega, by omega, by omega, by omega, fun H2 r as2 s2 hr2 hl2 hT2 => ?_⟩
    · rw [show ((t - (l + i) : Nat) : Int) = (t : Int) - ((l : Int) + i) by omega]
      rfl
    have few1 := parts_few n (t - (l + i)) (l + i) (by omega)
    have few2 := two_ten (t := t - (l + i)) (by omega)
    have few3 := partsTo_few (n := n) (t := t) hl0 (parts_few n) i (by omega)
    have few4 := two_ten ht
    have few5 : (partsTo n t l i).length ≤ 2 ^ t := Nat.le_trans (Nat.le_add_right _ _) few3
    have el2 := hT2.len
    have el1 := hT.len
    refine ⟨r, rfl, ⟨_, SqL.of hl2⟩, fun D hD => ?_⟩
    refine lc_list (K := K) (a := r) (xs := as2.map V.ref) (fun j H3 => ∃ bs, H3 D = some (.lst (bs.map V.ref)) ∧ bs.length = j ∧ TupsAt H3 bs (((parts n (t - (l + i)) (l + i)).take j).map fun r => ((l + i : Nat) : Int) :: r) ∧ Same H2 H3)
      ⟨[], upd_same, rfl, .nil, same_new hD _⟩ (fun j H3 _ ⟨_, _, _, _, s⟩ => SqL.of (s _ _ hl2)) ?_ ?_
    · rintro j x H3 hx ⟨bs, hb, ebs, hTb, s3⟩
      obtain ⟨a', ha', rfl⟩ := map_ref_get hx
      obtain ⟨ys, hys, hya⟩ := hT2.get ha'
      have hj : j < as2.length := (List.getElem?_eq_some_iff.mp ha').1
      have fin : ∀ (H4 : Hp) (z : Addr), Same H3 H4 → H4 z = some (.tup ((((l + i : Nat) : Int) :: ys).map V.int)) → ∃ acc, H4 D = some (.lst acc) ∧ acc.length < sizeLine ∧
          ∃ bs, (upd H4 D (.lst (acc ++ [.ref z]))) D = some (.lst (bs.map V.ref)) ∧ bs.length = j + 1 ∧ TupsAt (upd H4 D (.lst (acc ++ [.ref z]))) bs (((parts n (t - (l + i)) (l + i)).take (j + 1)).map fun r => ((l + i : Nat) : Int) :: r) ∧ Same H2 (upd H4 D (.lst (acc ++ [.ref z]))) := by
        intro H4 z s4 hz
        have hD4 := s4 _ _ hb
        refine ⟨_, hD4, ?_, bs ++ [z], ?_, ?_, ?_, same_old (s3.trans s4) hD _⟩
        · rw [List.length_map, ebs]
          exact Nat.lt_of_le_of_lt (by omega : j ≤ 3000) (by decide)
        · rw [upd_same, List.map_append]
          rfl
        · rw [List.length_append, ebs]
          rfl
        · rw [List.take_add_one, hys, List.map_append]
          exact TupsAt.app ((hTb.same s4).upd_lst hD4) (.cons (by
            rw [upd_ne (ne_of hz hD4 fun z => nomatch z)]
            exact hz) .nil)
      refine ⟨rfl, ?_⟩
      refine ⟨_, rfl, (by show 1 ≤ sizeLine; decide), fun z hz => ?_⟩
      have s4 := same_new hz (.tup [.int ((l : Int) + i)])
      have hz4 : (upd H3 z (.tup [.int ((l : Int) + i)])) z = some (.tup [.int ((l : Int) + i)]) := upd_same
      have efirst : ((l + i : Nat) : Int) = (l : Int) + i := by omega
      have hlen : ys.length ≤ 11 := Nat.le_trans (parts_in n _ _ ys (List.mem_of_getElem? hys)) hn
      refine ⟨_, rfl, z, a', _, _, rfl, rfl, SqT.of hz4, SqT.of (s4 _ _ (s3 _ _ hya)), ?_, (fun e => nomatch e), fun _ e => ?_, fun _ _ z2 hz2 => ?_⟩
      · rw [List.length_map, sizeLine_eq]
        show 1 + ys.length ≤ _
        omega
      · have e2 : ys = [] := List.map_eq_nil_iff.mp e
        subst e2
        exact fin _ z s4 (by rw [efirst]; exact hz4)
      · exact fin _ z2 (s4.trans (same_new hz2 _)) (by rw [upd_same, efirst]; rfl)
    · rintro H3 ⟨bs, hb, ebs, hTb, s3⟩
      rw [List.length_map, el2, List.take_length] at hTb
      rw [List.length_map] at ebs
      have s13 := s2.trans s3
      refine ⟨p, D, _, _, rfl, rfl, s13 _ _ hp1, hb, ?_, fun r2 hr2 => ?_⟩
      · rw [List.length_map, List.length_map]
        exact Nat.le_of_lt (Nat.lt_of_le_of_lt (by omega : as.length + bs.length ≤ 3000) (by decide))
      · have s5 := same_new hr2 (.lst (as.map V.ref ++ bs.map V.ref))
        have s6 := sm.trans s13
        refine ⟨r2, as ++ bs, some (.int ((l : Int) + i)), rfl, s6.free hr2, ?_, ?_, s6.trans s5⟩
        · rw [upd_same, List.map_append]
        · rw [partsTo_more]
          exact TupsAt.app (hT.same (s13.trans s5)) (hTb.same s5)
  · rintro σ H1 ⟨p, as, y3, rfl, hp, hp1, hT, sm⟩
    have e : ((t : Int) + 1 - l).toNat = t + 1 - l := by omega
    rw [e, ← parts_pos ht0] at hT
    exact ⟨_, rfl, q H1 p as sm hp hp1 hT⟩
end
end RLX

namespace RLX
open PySem PySem.Spec PyProof.Rows L2 RL
/-- what the except clauses ask of the classes -/
structure Clauses (K : PySem.W.Frag) (mg : Str → Option Value) (CC CL CN : Addr) : Prop where
  gC : mg "InvalidCount" = some (.ref CC)
  gL : mg "InvalidLengths" = some (.ref CL)
  gN : mg "NextError" = some (.ref CN)
  cc : PySem.W.exmOne K (.ref CC) (.ref CC) = some true
  lc : PySem.W.exmOne K (.ref CL) (.ref CC) = some false
  ll : PySem.W.exmOne K (.ref CL) (.ref CL) = some true
def spTold : Sp := fun vs H Q _ => ∃ m v, vs = [m, v] ∧ Plain H m ∧ Plain H v ∧ ItemsOk H v ∧ (betw 1 m 10 = false → ∀ H', Same H H' → Q (.str "count") H') ∧
  (betw 1 m 10 = true → goodB H v = false → ∀ H', Same H H' → Q (.str "lengths") H') ∧ (betw 1 m 10 = true → goodB H v = true → ∀ H', Same H H' → Q (.str "none") H')
section
variable {P : Program} {w : World} {K : PySem.W.Frag} {mg : Str → Option Value} {base : Heap} {f g CC CL CN : Addr} {fd gd : FuncData}
theorem ok_told (F : Fun K "_law_told" "_law_told" sTold f fd) (T : Clauses K mg CC CL CN)
    (G : FnOk P w K mg base (L2.CX P w) 4 g gd ["many", "lengths"] (spRlc CC CL)) (bG : Binds K gd ["many", "lengths"] []) (kG : PySem.W.keepIn K (.ref g) = true) (mG : mg "ring_length_count" = some (.ref g)) :
    FnOk P w K mg base CX0 5 f fd ["_law_many", "_law_lengths"] spTold := by
  refine F.ok scTold (fun vs H Q E h => ?_) (fun cdv A outer s H vs Q E hr h => ?_)
  · obtain ⟨m, v, rfl, _⟩ := h
    rfl
  obtain ⟨m, v, rfl, hm, hv, hit, q1, q2, q3⟩ := h
  refine ⟨_, pss_cons (ps_set (i := 2) scTold.nd rfl (.inl rfl) pe_str)
    (pss_cons (ps_try_many (tb := fun W => tSeq (tAsg (tCallS (spRlc CC CL) (WE W) (tCons (tVar 0) (tCons (tVar 1) tNil))) (gName 2)) (tAsg (tC (.str "none")) (gName 2))) (Wout := fun _ _ _ _ => False)
        (l := [(.ref CC, fun _ _ _ => tAsg (tC (.str "count")) (gName 2)), (.ref CL, fun _ _ _ => tAsg (tC (.str "lengths")) (gName 2)), (.ref CN, fun _ _ _ => tAsg (tC (.str "other")) (gName 2))]) rfl rfl takes0
        (fun W pn xe tk _ => pss_cons (ps_set (i := 2) scTold.nd rfl (.inl rfl) (by exact (pe_callS G hr rfl mG kG bG (fun σ => passAt tk σ) (by exact (pa_cons (pv 0) (pa_cons (pv 1) pa_nil)))))) (pss_one (ps_set (i := 2) scTold.nd rfl (.inl rfl) pe_str)))
        (.cons ⟨rfl, by decide, .inl T.gC⟩ (fun a oe cls d pn _ _ => pss_one (ps_set (i := 2) scTold.nd rfl (.inl rfl) pe_str))
        (.cons ⟨rfl, by decide, .inl T.gL⟩ (fun a oe cls d pn _ _ => pss_one (ps_set (i := 2) scTold.nd rfl (.inl rfl) pe_str))
        (.cons ⟨rfl, by decide, .inl T.gN⟩ (fun a oe cls d pn _ _ => pss_one (ps_set (i := 2) scTold.nd rfl (.inl rfl) pe_str)) .nil))))
    (pss_one (ps_ret (pv 2)))), ?_⟩
  refine ⟨_, rfl, _, rfl, m, v, rfl, hm, hv, hit, fun c1 => ?_, fun c1 c2 H1 s1 => ?_, fun n a ns e1 e2 h0 h1 ha hg H1 s1 => ?_⟩
  · exact ⟨true, T.cc, fun _ a _ => ⟨_, rfl, q1 c1 H (Same.refl H)⟩, fun z => Bool.noConfusion z⟩
  · exact ⟨false, T.lc, fun z => Bool.noConfusion z, fun _ => ⟨true, T.ll, fun _ a _ => ⟨_, rfl, q2 c1 c2 H1 s1⟩, fun z => Bool.noConfusion z⟩⟩
  · refine ⟨_, rfl, q3 ?_ ?_ H1 s1⟩
    · rw [e1]
      show (decide (1 ≤ n) && decide (n ≤ 10)) = true
      rw [decide_eq_true h0, decide_eq_true h1]
      rfl
    · rw [e2]
      unfold goodB
      rw [tupOf_ref ha]
      exact hg
end
end RLX

namespace RLX
open PySem PySem.Spec PyProof.Rows L2 RL
/-! ### lengths that are right, lengths that are wrong -/
theorem lens_of_sorted {ns : List Int} (h0 : ns ≠ []) (h1 : ∀ n ∈ ns, 1 ≤ n) (h2 : ns.Pairwise (· ≤ ·)) : lensB (ns.map V.int) = true := by
  unfold lensB
  rw [Bool.and_eq_true, Bool.and_eq_true]
  refine ⟨?_, ?_, ?_⟩
  · cases ns with
    | nil => exact absurd rfl h0
    | cons _ _ => rfl
  · refine List.all_eq_true.mpr fun x hx => ?_
    obtain ⟨n, hn, rfl⟩ := List.mem_map.mp hx
    exact decide_eq_true (h1 n hn)
  · refine List.all_eq_true.mpr fun k hk => ?_
    have hk' := List.mem_range.mp hk
    rw [List.length_map] at hk'
    rw [getD_map (by omega), getD_map (by omega)]
    refine decide_eq_true ?_
    rw [List.getD_eq_getElem?_getD, List.getD_eq_getElem?_getD, List.getElem?_eq_getElem (by omega), List.getElem?_eq_getElem (by omega)]
    exact List.pairwise_iff_getElem.mp h2 k (k + 1) (by omega) (by omega) (by omega)
theorem lens_odd {xs : List V} {o : V} (h : o ∈ xs) (ho : fromB 1 o = false) : lensB xs = false := by
  have e : xs.all (fromB 1) = false := by
    cases q : xs.all (fromB 1) with
    | false => rfl
    | true =>
      have z := List.all_eq_true.mp q o h
      rw [ho] at z
      exact absurd z Bool.false_ne_true
  unfold lensB
  rw [e, Bool.false_and, Bool.and_false]
theorem lens_desc {A B : List V} {i j : Int} (h : j < i) : lensB (A ++ .int i :: .int j :: B) = false := by
  have e : ((List.range ((A ++ V.int i :: .int j :: B).length - 1)).all fun k => leV ((A ++ V.int i :: .int j :: B).getD k .non) ((A ++ V.int i :: .int j :: B).getD (k + 1) .non)) = false := by
    cases q : ((List.range ((A ++ V.int i :: .int j :: B).length - 1)).all fun k => leV ((A ++ V.int i :: .int j :: B).getD k .non) ((A ++ V.int i :: .int j :: B).getD (k + 1) .non)) with
    | false => rfl
    | true =>
      have z := List.all_eq_true.mp q A.length (List.mem_range.mpr (by
        rw [List.length_append, List.length_cons, List.length_cons]
        omega))
      have g1 : (A ++ V.int i :: .int j :: B).getD A.length .non = .int i := by
        rw [List.getD_eq_getElem?_getD, List.getElem?_append_right (Nat.le_refl _), Nat.sub_self]
        rfl
      have g2 : (A ++ V.int i :: .int j :: B).getD (A.length + 1) .non = .int j := by
        rw [List.getD_eq_getElem?_getD, List.getElem?_append_right (Nat.le_succ _), show A.length.succ - A.length = 1 by omega]
        rfl
      rw [g1, g2] at z
      have z2 : i ≤ j := of_decide_eq_true z
      omega
  unfold lensB
  rw [e, Bool.and_false, Bool.and_false]
/-! ### values that stay while the source S is drawn from -/
def Od (S : Addr) (H : Hp) (x : V) : Prop := Plain H x ∧ x ≠ .ref S
def ItemsOd (S : Addr) (H : Hp) (w : V) : Prop := ∀ p xs, w = .ref p → H p = some (.tup xs) → xs.length ≤ 5000 ∧ ∀ x ∈ xs, Od S H x
/-- no lengths -/
def Wr (S : Addr) (H : Hp) (w : V) : Prop := Od S H w ∧ ItemsOd S H w ∧ goodB H w = false
theorem Od.keep {S : Addr} {H H' : Hp} (s : KeepBut S H H') {x : V} (h : Od S H x) : Od S H' x := by
  obtain ⟨h1, h2⟩ := h
  refine ⟨?_, h2⟩
  cases x with
  | ref a =>
    have hne : a ≠ S := fun e => h2 (by rw [e])
    exact h1.imp (fun ⟨xs, e⟩ => ⟨xs, s _ _ e hne⟩) fun ⟨xs, e⟩ => ⟨xs, s _ _ e hne⟩
  | _ => exact h1
theorem od_back {S : Addr} {H H' : Hp} (s : KeepBut S H H') {p : Addr} {xs : List V} (h : Od S H (.ref p)) (e : H' p = some (.tup xs)) : H p = some (.tup xs) := by
  obtain ⟨h1, h2⟩ := h
  have hne : p ≠ S := fun e => h2 (by rw [e])
  rcases h1 with ⟨ys, ey⟩ | ⟨ys, ey⟩
  · have z := s _ _ ey hne
    rw [e] at z
    cases z
  · have z := s _ _ ey hne
    rw [e] at z
    cases z
    exact ey
theorem Wr.keep {S : Addr} {H H' : Hp} (s : KeepBut S H H') {w : V} (h : Wr S H w) : Wr S H' w := by
  obtain ⟨h1, h2, h3⟩ := h
  refine ⟨h1.keep s, fun p xs e e2 => ?_, ?_⟩
  · subst e
    obtain ⟨q1, q2⟩ := h2 p xs rfl (od_back s h1 e2)
    exact ⟨q1, fun x hx => (q2 x hx).keep s⟩
  · unfold goodB at h3 ⊢
    cases e : tupOf H' w with
    | none => rfl
    | some xs =>
      obtain ⟨p, rfl, hp⟩ := tup_some e
      rw [tupOf_ref (od_back s h1 hp)] at h3
      exact h3
theorem Wr.items {S : Addr} {H : Hp} {w : V} (h : Wr S H w) : ItemsOk H w := fun p xs e e2 => by
  obtain ⟨q1, q2⟩ := h.2.1 p xs e e2
  exact ⟨q1, fun x hx => (q2 x hx).1⟩
theorem wr_tup {S z : Addr} {H : Hp} {n : Int} {xs : List V} (hS : SrcAt H S n) (hz : H z = some (.tup xs)) (h1 : xs.length ≤ 5000) (h2 : ∀ x ∈ xs, Od S H x) (h3 : lensB xs = false) : Wr S H (.ref z) := by
  obtain ⟨x, y, t, e, _⟩ := hS
  have hne : z ≠ S := ne_of hz e fun q => nomatch q
  refine ⟨⟨.inr ⟨xs, hz⟩, fun q => hne (V.ref.inj q)⟩, fun p ys e1 e2 => ?_, ?_⟩
  · cases e1
    rw [hz] at e2
    cases e2
    exact ⟨h1, h2⟩
  · unfold goodB
    rw [tupOf_ref hz]
    exact h3
theorem od_ints {S : Addr} {H : Hp} {ns : List Int} : ∀ x ∈ ns.map V.int, Od S H x := fun x hx => by
  obtain ⟨n, _, rfl⟩ := List.mem_map.mp hx
  exact ⟨trivial, fun z => nomatch z⟩
theorem od_int {S : Addr} {H : Hp} (i : Int) : Od S H (.int i) := ⟨trivial, fun z => nomatch z⟩
theorem od_tup {S z : Addr} {H : Hp} {n : Int} {xs : List V} (hS : SrcAt H S n) (hz : H z = some (.tup xs)) : Od S H (.ref z) := by
  obtain ⟨x, y, t, e, _⟩ := hS
  have hne : z ≠ S := ne_of hz e fun q => nomatch q
  exact ⟨.inr ⟨xs, hz⟩, fun q => hne (V.ref.inj q)⟩
/-! ### slices and sums of tuples, whatever they are -/
theorem slice_any {K : PySem.W.Frag} {H : Hp} {a : Addr} {xs : List V} {lo hi : Option Int} {Q : VK} (h : H a = some (.tup xs)) (q : ∀ z H', Same H H' → H' z = some (.tup (cutV xs lo hi)) → Q (.ref z) H') : rSlA K (.ref a) lo hi H Q := by
  refine ⟨a, xs, rfl, SqT.of h, fun w => q a H (Same.refl H) ?_, fun _ p hp => q p _ (same_new hp _) upd_same⟩
  unfold cutV
  rw [w.1, w.2, Nat.sub_zero, List.drop_zero, List.take_length]
  exact h
theorem cat_any {K : PySem.W.Frag} {H : Hp} {a b : Addr} {xs ys : List V} {Q : VK} (ha : H a = some (.tup xs)) (hb : H b = some (.tup ys)) (hz : xs.length + ys.length ≤ 5000) (q : ∀ z H', Same H H' → H' z = some (.tup (xs ++ ys)) → Q (.ref z) H') : rCatA K (.ref a) (.ref b) H Q := by
  refine ⟨a, b, xs, ys, rfl, rfl, SqT.of ha, SqT.of hb, Nat.le_trans hz (by decide), fun e => ?_, fun _ e => ?_, fun _ _ p hp => q p _ (same_new hp _) upd_same⟩
  · subst e
    exact q b H (Same.refl H) hb
  · subst e
    exact q a H (Same.refl H) (by rw [List.append_nil]; exact ha)
theorem cut_to (ns : List Int) {k : Int} (h0 : 0 ≤ k) (h : k < ns.length) : cutV (ns.map V.int) none (some k) = (ns.take k.toNat).map V.int := by
  have e : k = ((k.toNat : Nat) : Int) := by omega
  rw [List.map_take]
  have q := (cut_front (ns.map V.int) k.toNat (by rw [List.length_map]; omega)).1
  rw [← e] at q
  exact q
theorem cut_from (ns : List Int) {k : Int} (h0 : 0 ≤ k) (h : k ≤ ns.length) : cutV (ns.map V.int) (some k) none = (ns.drop k.toNat).map V.int := by
  have e : k = ((k.toNat : Nat) : Int) := by omega
  have q : cutV (ns.map V.int) (some ((k.toNat : Nat) : Int)) none = (ns.map V.int).drop k.toNat := by
    unfold cutV
    rw [HT.sIx_none, HT.sIx_nat, Nat.min_eq_left (by rw [List.length_map]; omega)]
    refine List.take_of_length_le ?_
    rw [List.length_drop]
    exact Nat.le_refl _
  rw [← e] at q
  rw [q, List.map_drop]
end RLX

namespace RLX
open PySem PySem.Spec PyProof.Rows L2 RL
theorem slice_from {K : PySem.W.Frag} {σ : L2.St} {H : Hp} {a : Addr} {xs : List V} {lo : Option Int} {Q : VK} (h : H a = some (.tup xs)) (q : ∀ z H', Same H H' → H' z = some (.tup (cutV xs lo none)) → Q (.ref z) H') : tNoPart σ H fun u H3 => rSlA K (.ref a) lo u H3 Q := slice_any h q
theorem SrcAt.mono {H : Hp} {a : Addr} {n k : Int} (h : SrcAt H a n) (hk : n ≤ k) : SrcAt H a k := by
  obtain ⟨x, y, t, e, h1, h2, h3, h4, h5⟩ := h
  exact ⟨x, y, t, e, h1, h2, h3, h4, Int.le_trans h5 hk⟩
theorem ite_yes {c A B : Prop} [Decidable c] (hc : c) (h : A) : if decide c = true then A else B := by
  rw [decide_eq_true hc]
  exact iteT h
theorem items_ints {H : Hp} {a : Addr} {ns : List Int} (h : H a = some (.tup (ns.map V.int))) (hl : ns.length ≤ 5000) : ItemsOk H (.ref a) := fun p xs e1 e2 => by
  cases e1
  rw [h] at e2
  cases e2
  exact ⟨by rw [List.length_map]; exact hl, fun x hx => by
    obtain ⟨n, _, rfl⟩ := List.mem_map.mp hx
    trivial⟩
theorem good_ints {H : Hp} {a : Addr} {xs : List V} (h : H a = some (.tup xs)) : goodB H (.ref a) = lensB xs := by
  unfold goodB
  rw [tupOf_ref h]
structure LensOk (ls : List Int) : Prop where
  ne : ls ≠ []
  ge : ∀ n ∈ ls, 1 ≤ n
  le : ∀ n ∈ ls, n ≤ 5
  asc : ls.Pairwise (· ≤ ·)
  len : ls.length ≤ 6
theorem src_ne {H : Hp} {S p : Addr} {n : Int} (h : SrcAt H S n) (hp : H p = none) : p ≠ S := by
  obtain ⟨x, y, t, e, _⟩ := h
  exact (ne_of_none e hp).symm
theorem src_ne_tup {H : Hp} {S p : Addr} {n : Int} {xs : List V} (h : SrcAt H S n) (hp : H p = some (.tup xs)) : p ≠ S := by
  obtain ⟨x, y, t, e, _⟩ := h
  exact ne_of hp e fun q => nomatch q
/-- a list of values that are no lengths -/
def SomeAt (S : Addr) (H : Hp) (p : Addr) (n : Nat) : Prop := ∃ ws, H p = some (.lst ws) ∧ ws.length = n ∧ p ≠ S ∧ ∀ w ∈ ws, Wr S H w
theorem SomeAt.keep {S p : Addr} {H H' : Hp} {n : Nat} (s : KeepBut S H H') (h : SomeAt S H p n) : SomeAt S H' p n := by
  obtain ⟨ws, e, h1, h2, h3⟩ := h
  exact ⟨ws, s _ _ e h2, h1, h2, fun w hw => (h3 w hw).keep s⟩
def spRefused : Sp := fun vs H Q _ => ∃ (S a : Addr) (n m : Int) (ls : List Int), vs = [.ref S, .int n, .ref a] ∧ SrcAt H S m ∧ m ≤ 900 ∧ 1 ≤ n ∧ n ≤ 10 ∧ LensOk ls ∧ H a = some (.tup (ls.map V.int)) ∧ ∀ H', SrcAt H' S (m + 5) → KeepBut S H H' → Q (.bl true) H'
section
variable {P : Program} {w : World} {K : PySem.W.Frag} {mg : Str → Option Value} {base : Heap} {f g1 g2 g3 : Addr} {fd gd1 gd2 gd3 : FuncData}
theorem ok_refused (F : Fun K "_law_refused_right" "_law_refused_right" sRefused f fd) (ml : mg "len" = none) (mL : mg "list" = none)
    (G1 : FnOk P w K mg base CX0 2 g1 gd1 ["_law_source_here"] spBad) (b1 : Binds K gd1 ["_law_source_here"] []) (k1 : PySem.W.keepIn K (.ref g1) = true) (n1 : mg "_law_bad_many" = some (.ref g1))
    (G2 : FnOk P w K mg base CX0 1 g2 gd2 ["_law_source_here", "_law_many"] spDraw2) (b2 : Binds K gd2 ["_law_source_here", "_law_many"] []) (k2 : PySem.W.keepIn K (.ref g2) = true) (n2 : mg "_law_draw" = some (.ref g2))
    (G3 : FnOk P w K mg base CX0 5 g3 gd3 ["_law_many", "_law_lengths"] spTold) (b3 : Binds K gd3 ["_law_many", "_law_lengths"] []) (k3 : PySem.W.keepIn K (.ref g3) = true) (n3 : mg "_law_told" = some (.ref g3)) :
    FnOk P w K mg base CX0 6 f fd ["_law_source_here", "_law_many", "_law_lengths"] spRefused := by
  refine F.ok scRefused (fun vs H Q E h => ?_) (fun cdv A outer s H vs Q E hr h => ?_)
  · obtain ⟨S, a, n, m, ls, rfl, _⟩ := h
    rfl
  obtain ⟨S, a, n, m, ls, rfl, hS, hm, h0, h1, hL, ha, q⟩ := h
  have hr1 : Room 1 _ := hr.mono (by decide)
  have hr2 : Room 2 _ := hr.mono (by decide)
  refine ⟨_, pss_cons (ps_par (i := 3) (j := 4) rfl scRefused.nd rfl rfl (by decide) rfl rfl (pa_cons (pe_call G1 hr2 rfl n1 k1 b1 .nil pass0 (pa_cons (pv 0) pa_nil))
        (pa_cons (pe_call G2 hr1 rfl n2 k2 b2 .nil pass0 (pa_cons (pv 0) (pa_cons (pe_callB call_len_seq (by rfl) ml PySem.boot_len (pa_cons (pv 2) pa_nil)) pa_nil))) pa_nil)) (by rfl))
    (pss_cons (ps_set (i := 5) scRefused.nd rfl (.inl rfl) (pe_ix ix_list (pe_lst (pa_cons pe_int (pa_cons (pe_un un_neg pe_int) (pa_cons pe_bl (pa_cons pe_non (pa_cons pe_str (pa_cons (pe_tup (pa_cons pe_int pa_nil)) (pa_cons (pe_lst (pa_cons pe_int pa_nil))
        (pa_cons (pe_un un_neg (pe_op op_pow pe_int pe_int)) pa_nil))))))))) (pe_call G2 hr1 rfl n2 k2 b2 .nil pass0 (pa_cons (pv 0) (pa_cons pe_int pa_nil))) (fun _ _ => rfl)))
    (pss_cons (ps_set (i := 6) scRefused.nd rfl (.inl rfl) (pe_op op_cat (pe_op op_rep (pe_lst (pa_cons (pe_op op_catA (pe_op op_catA (pe_slice sl_tupA (pv 2) po_none (po_some (pv 4))) (pe_tup (pa_cons (pv 5) pa_nil))) (pe_slice sl_tupA (pv 2) (po_some (pe_op op_add (pv 4) pe_int)) po_none)) pa_nil)) pe_int)
        (pe_lst (pa_cons (pe_tup pa_nil) (pa_cons (pe_callTy call_list_of (by rfl) mL (by decide +kernel) (pa_cons (pv 2) pa_nil)) (pa_cons pe_non (pa_cons pe_int (pa_cons pe_str (pa_cons (pe_tup (pa_cons (pv 2) pa_nil)) (pa_cons (pe_op op_catA (pv 2) (pe_tup (pa_cons (pv 5) pa_nil))) pa_nil))))))))))
    (pss_cons (ps_set (i := 6) scRefused.nd rfl (.inl rfl) (pe_op op_cat (pv 6) (pe_lst (pa_cons (pe_tup (pa_cons pe_int (pa_cons pe_int pa_nil))) (pa_cons (pe_tup (pa_cons (pe_op op_pow pe_int pe_int) (pa_cons pe_int pa_nil)))
        (pa_cons (pe_op op_catA (pv 2) (pe_tup (pa_cons (pe_op op_add (pe_ix ix_tup (pv 2) (pe_op op_sub (pe_callB call_len_seq (by rfl) ml PySem.boot_len (pa_cons (pv 2) pa_nil)) pe_int) (fun _ _ => rfl)) pe_int) (pa_cons pe_int pa_nil)))) (pa_cons (pe_op op_catA (pe_tup (pa_cons (pv 5) pa_nil)) (pv 2)) pa_nil)))))))
    (pss_cons (ps_set (i := 7) scRefused.nd rfl (.inl rfl) (pe_call G2 hr1 rfl n2 k2 b2 .nil pass0 (pa_cons (pv 0) (pa_cons (pe_callB call_len_seq (by rfl) ml PySem.boot_len (pa_cons (pv 2) pa_nil)) pa_nil))))
    (pss_cons (ps_set (i := 8) scRefused.nd rfl (.inl rfl) (pe_op op_add (pe_ix ix_tup (pv 2) (pe_op op_sub (pe_callB call_len_seq (by rfl) ml PySem.boot_len (pa_cons (pv 2) pa_nil)) pe_int) (fun _ _ => rfl)) pe_int))
    (pss_cons (ps_set (i := 6) scRefused.nd rfl (.inl rfl) (pe_op op_cat (pe_op op_cat (pv 6) (pe_op op_rep (pe_lst (pa_cons (pe_op op_catA (pe_op op_catA (pe_op op_catA (pe_slice sl_tupA (pv 2) po_none (po_some (pv 7))) (pe_tup (pa_cons (pe_op op_add (pe_ix ix_tup (pv 2) (pv 7) (fun _ _ => rfl)) pe_int) pa_nil)))
        (pe_slice sl_tupA (pv 2) (po_some (pv 7)) po_none)) (pe_tup (pa_cons (pv 8) pa_nil))) pa_nil)) pe_int)) (pe_lst (pa_cons (pe_tup (pa_cons pe_int (pa_cons pe_int (pa_cons pe_int (pa_cons pe_int pa_nil))))) (pa_cons (pe_tup (pa_cons pe_int (pa_cons pe_int (pa_cons pe_int pa_nil)))) (pa_cons (pe_tup (pa_cons pe_int (pa_cons pe_int (pa_cons pe_int (pa_cons pe_int pa_nil))))) pa_nil))))))
    (pss_cons (ps_set (i := 9) scRefused.nd rfl (.inl rfl) (pe_ix ix_list (pv 6) (pe_call G2 hr1 rfl n2 k2 b2 .nil pass0 (pa_cons (pv 0) (pa_cons (pe_callB call_len_seq (by rfl) ml PySem.boot_len (pa_cons (pv 6) pa_nil)) pa_nil))) (fun _ _ => rfl)))
    (pss_cons (ps_if (PW.pt (pw_or (pt_cmpR op_ne (pe_call G3 hr rfl n3 k3 b3 .nil pass0 (pa_cons (pv 3) (pa_cons (pv 2) pa_nil))) pe_str (nomark _)) (pw_or (pt_cmpR op_ne (pe_call G3 hr rfl n3 k3 b3 .nil pass0 (pa_cons (pv 3) (pa_cons (pv 9) pa_nil))) pe_str (nomark _))
        (pw_or1 (pt_cmpR op_ne (pe_call G3 hr rfl n3 k3 b3 .nil pass0 (pa_cons (pv 1) (pa_cons (pv 9) pa_nil))) pe_str (nomark _)))))) (pss_one (ps_ret pe_bl)) pss_nil)
    (pss_one (ps_ret (pe_and (pe_cmpR op_eq (pe_call G3 hr rfl n3 k3 b3 .nil pass0 (pa_cons (pv 1) (pa_cons (pv 2) pa_nil))) pe_str (nomark _)) (pe_one (pe_cmpR op_eq (pe_call G3 hr rfl n3 k3 b3 .nil pass0 (pa_cons (pv 1) (pa_cons (pe_op op_catA (pv 2) (pe_tup (pa_cons (pe_op op_mulW (pe_op op_pow pe_int pe_int) (pe_op op_pow pe_int pe_int)) pa_nil))) pa_nil))) pe_str (nomark _)))))))))))))), ?_⟩
  have hlen0 : 0 < ls.length := List.length_pos_iff.mpr hL.ne
  have hlen6 := hL.len
  have elen : (ls.map V.int).length = ls.length := List.length_map _
  have hgood := lens_of_sorted hL.ne hL.ge hL.asc
  -- bad, at
  refine ⟨_, rfl, S, m, rfl, hS, by omega, fun bad H1 s1 kb1 hb1 hb2 hb3 => ?_⟩
  have ha1 := kb1.tup hS ha
  refine ⟨_, rfl, _, rfl, a, _, rfl, .inr (SqT.of ha1), S, _, m + 1, rfl, s1, by omega, by rw [elen]; omega, by rw [elen]; omega, fun at_ H2 v0 v1 s2 kb2 => ⟨_, _, rfl, ?_⟩⟩
  rw [elen] at v1
  have ha2 := kb2.tup s1 ha1
  have od2 : Od S H2 bad := Od.keep kb2 ⟨hb1, hb2⟩
  -- odd
  refine ⟨1, rfl, (by show 1 ≤ sizeLine; decide), fun t0 ht0 => ?_⟩
  have c1 := same_new ht0 (.tup [.int 1])
  refine ⟨(by show 1 ≤ sizeLine; decide), fun l0 hl0 => ?_⟩
  have c2 := c1.trans (same_new hl0 (.lst [.int 1]))
  refine ⟨10, 30, rfl, rfl, ⟨by decide, by decide, by decide⟩, _, rfl, (by show 8 ≤ sizeLine; decide), fun D0 hD0 => ?_⟩
  have c3 := c2.trans (same_new hD0 (.lst [.int 0, .int (-1), .bl true, .non, .str "1", .ref t0, .ref l0, .int (-(10 ^ (30 : Int).toNat))]))
  have t0S := src_ne_tup (s2.same c1) upd_same
  have l0S := src_ne (s2.same c1) hl0
  have D0S := src_ne (s2.same c2) hD0
  refine ⟨_, rfl, S, 8, _, rfl, s2.same c3, by omega, by decide, by decide, fun io H3 w0 w1 s3 kb3 => ?_⟩
  have et0 : H3 t0 = some (.tup [.int 1]) := kb3 _ _ (same_new hD0 _ _ _ (same_new hl0 _ _ _ upd_same)) t0S
  have el0 : H3 l0 = some (.lst [.int 1]) := kb3 _ _ (same_new hD0 _ _ _ upd_same) l0S
  obtain ⟨odd, hodd, hom⟩ := pick (L := [.int 0, .int (-1), .bl true, .non, .str "1", .ref t0, .ref l0, .int (-(10 ^ (30 : Int).toNat))]) w0 w1
  refine ⟨D0, _, io, odd, rfl, rfl, SqL.of (kb3 _ _ upd_same D0S), hodd, ?_⟩
  have kb23 : KeepBut S H2 H3 := (same_but c3 S).trans kb3
  have ha3 := kb23.tup s2 ha2
  have odo : Od S H3 odd ∧ fromB 1 odd = false := by
    simp only [List.mem_cons, List.not_mem_nil, or_false] at hom
    rcases hom with rfl | rfl | rfl | rfl | rfl | rfl | rfl | rfl
    · exact ⟨od_int _, rfl⟩
    · exact ⟨od_int _, rfl⟩
    · exact ⟨⟨trivial, fun z => nomatch z⟩, rfl⟩
    · exact ⟨⟨trivial, fun z => nomatch z⟩, rfl⟩
    · exact ⟨⟨trivial, fun z => nomatch z⟩, rfl⟩
    · exact ⟨od_tup s3 et0, rfl⟩
    · exact ⟨⟨.inl ⟨_, el0⟩, fun z => l0S (V.ref.inj z)⟩, rfl⟩
    · exact ⟨od_int _, by decide +kernel⟩
  obtain ⟨od3, hfb⟩ := odo
  clear hom hodd et0 el0
  -- the first list of wrong ones
  refine ⟨_, rfl, _, rfl, at_, rfl, slice_any ha3 fun z1 Ha da ez1 => ?_⟩
  rw [cut_to ls v0 v1] at ez1
  refine ⟨_, rfl, (by show 1 ≤ sizeLine; decide), fun p2 hp2 => ?_⟩
  have db := da.trans (same_new hp2 (.tup [odd]))
  refine cat_any (same_new hp2 _ _ _ ez1) upd_same (by simp only [List.length_map, List.length_take, List.length_drop, List.length_append, List.length_cons, List.length_nil]; omega) fun z3 Hc dc ez3 => ?_
  have d3 := db.trans dc
  refine ⟨_, rfl, _, rfl, at_, 1, rfl, rfl, _, rfl, slice_from (d3 _ _ ha3) fun z4 Hd dd ez4 => ?_⟩
  rw [cut_from ls (by omega) (by omega)] at ez4
  refine cat_any (dd _ _ ez3) ez4 (by simp only [List.length_map, List.length_take, List.length_drop, List.length_append, List.length_cons, List.length_nil]; omega) fun z5 He de ez5 => ?_
  have d5 := (d3.trans dd).trans de
  refine ⟨(by show 1 ≤ sizeLine; decide), fun p6 hp6 => ?_⟩
  have d6 := d5.trans (same_new hp6 (.lst [.ref z5]))
  refine ⟨p6, 4, _, rfl, rfl, upd_same, by decide, by decide, (by show 1 * 4 ≤ sizeLine; decide), fun p7 hp7 => ?_⟩
  have d7 := d6.trans (same_new hp7 (.lst (List.replicate (4 : Int).toNat [.ref z5]).flatten))
  have z5k := same_new hp7 (.lst (List.replicate (4 : Int).toNat [V.ref z5]).flatten) _ _ (same_new hp6 (.lst [.ref z5]) _ _ ez5)
  refine ⟨(by show 0 ≤ sizeLine; decide), fun p8 hp8 => ?_⟩
  have d8 := d7.trans (same_new hp8 (.tup []))
  refine ⟨_, rfl, a, _, rfl, .inr (SqT.of (d8 _ _ ha3)), fun p9 hp9 => ?_⟩
  have d9 := d8.trans (same_new hp9 (.lst (ls.map V.int)))
  refine ⟨_, rfl, (by show 1 ≤ sizeLine; decide), fun p10 hp10 => ?_⟩
  have d10 := d9.trans (same_new hp10 (.tup [.ref a]))
  refine ⟨_, rfl, _, rfl, (by show 1 ≤ sizeLine; decide), fun p11 hp11 => ?_⟩
  have d11 := d10.trans (same_new hp11 (.tup [odd]))
  refine cat_any (d11 _ _ ha3) upd_same (by simp only [List.length_map, List.length_take, List.length_drop, List.length_append, List.length_cons, List.length_nil]; omega) fun z12 Hg dg ez12 => ?_
  have d12 := d11.trans dg
  refine ⟨(by show 7 ≤ sizeLine; decide), fun p12 hp12 => ?_⟩
  have d13 := d12.trans (same_new hp12 (.lst [.ref p8, .ref p9, .non, .int 0, .str "1", .ref p10, .ref z12]))
  have e7 := same_new hp12 (.lst [.ref p8, .ref p9, .non, .int 0, .str "1", .ref p10, .ref z12]) _ _ (dg _ _ (same_new hp11 (.tup [odd]) _ _ (same_new hp10 (.tup [.ref a]) _ _ (same_new hp9 (.lst (ls.map V.int)) _ _ (same_new hp8 (.tup []) _ _ (upd_same (a := p7) (o := .lst (List.replicate (4 : Int).toNat [V.ref z5]).flatten)))))))
  refine ⟨p7, p12, _, _, rfl, rfl, e7, upd_same, (by show 4 + 7 ≤ sizeLine; decide), fun p13 hp13 => ?_⟩
  obtain ⟨H4, hH4⟩ : ∃ H4, upd (upd Hg p12 (.lst [V.ref p8, .ref p9, .non, .int 0, .str "1", .ref p10, .ref z12])) p13 (.lst ((List.replicate (4 : Int).toNat [V.ref z5]).flatten ++ [V.ref p8, .ref p9, .non, .int 0, .str "1", .ref p10, .ref z12])) = H4 := ⟨_, rfl⟩
  have r13 := same_new hp13 (.lst ((List.replicate (4 : Int).toNat [V.ref z5]).flatten ++ [.ref p8, .ref p9, .non, .int 0, .str "1", .ref p10, .ref z12]))
  rw [hH4] at r13
  have r12 := (same_new hp12 (.lst [.ref p8, .ref p9, .non, .int 0, .str "1", .ref p10, .ref z12])).trans r13
  have r11 := dg.trans r12
  have r10 := (same_new hp11 (.tup [odd])).trans r11
  have r9 := (same_new hp10 (.tup [.ref a])).trans r10
  have r8 := (same_new hp9 (.lst (ls.map V.int))).trans r9
  have r7 := (same_new hp8 (.tup [])).trans r8
  have dF := d12.trans r12
  have sF := s3.same dF
  have haF := dF _ _ ha3
  have odF : Od S H4 odd := od3.keep (same_but dF S)
  have p9S := src_ne (s3.same d8) hp9
  have p13S := src_ne (s3.same d13) hp13
  have some1 : SomeAt S H4 p13 11 := by
    refine ⟨_, by rw [← hH4]; exact upd_same, rfl, p13S, fun x hx => ?_⟩
    have hx' : x = .ref z5 ∨ x = .ref p8 ∨ x = .ref p9 ∨ x = .non ∨ x = .int 0 ∨ x = .str "1" ∨ x = .ref p10 ∨ x = .ref z12 := by
      rcases List.mem_append.mp hx with z | z
      · rw [flat_rep] at z
        exact .inl (List.eq_of_mem_replicate z)
      · simp only [List.mem_cons, List.not_mem_nil, or_false] at z
        exact .inr z
    rcases hx' with rfl | rfl | rfl | rfl | rfl | rfl | rfl | rfl
    · refine wr_tup sF (r7 _ _ z5k) (by simp only [List.length_map, List.length_take, List.length_drop, List.length_append, List.length_cons, List.length_nil]; omega) (fun y hy => ?_) (lens_odd (o := odd) (by simp) hfb)
      rcases List.mem_append.mp hy with z | z
      · rcases List.mem_append.mp z with z | z
        · exact od_ints y z
        · rw [List.mem_singleton.mp z]
          exact odF
      · exact od_ints y z
    · exact wr_tup sF (r8 _ _ upd_same) (by decide) (fun y hy => absurd hy List.not_mem_nil) rfl
    · have e9 := r9 _ _ (upd_same (a := p9) (o := .lst (ls.map V.int)))
      refine ⟨⟨.inl ⟨_, e9⟩, fun z => p9S (V.ref.inj z)⟩, fun p xs e1 e2 => ?_, ?_⟩
      · cases e1
        rw [e9] at e2
        cases e2
      · unfold goodB tupOf
        dsimp only
        rw [e9]
    · exact ⟨⟨trivial, fun z => nomatch z⟩, (fun p xs e1 => nomatch e1), rfl⟩
    · exact ⟨⟨trivial, fun z => nomatch z⟩, (fun p xs e1 => nomatch e1), rfl⟩
    · exact ⟨⟨trivial, fun z => nomatch z⟩, (fun p xs e1 => nomatch e1), rfl⟩
    · refine wr_tup sF (r10 _ _ upd_same) (by show 1 ≤ 5000; decide) (fun y hy => ?_) rfl
      rw [List.mem_singleton.mp hy]
      exact od_tup sF haF
    · refine wr_tup sF (r12 _ _ ez12) (by simp only [List.length_map, List.length_take, List.length_drop, List.length_append, List.length_cons, List.length_nil]; omega) (fun y hy => ?_) (lens_odd (o := odd) (by simp) hfb)
      rcases List.mem_append.mp hy with z | z
      · exact od_ints y z
      · rw [List.mem_singleton.mp z]
        exact odF
  have bad4 : Od S H4 bad := od2.keep (kb23.trans (same_but dF S))
  have kb4 := (kb1.trans kb2).trans (kb23.trans (same_but dF S))
  clear z5k r7 r8 r9 r10 r11 r12 r13 d13 d12 d11 d10 d9 d8 d7 d6 d5 d3 db da dc dd de dg ez1 ez3 ez4 ez5 ez12 c1 c2 c3
  rw [hH4]
  clear hH4
  clear hp13 hp12 hp11 hp10 hp9 hp8 hp7 hp6 hp2
  -- more wrong ones
  obtain ⟨ws, ews, hlw, _, hws⟩ := some1
  have glast : atI (ls.map V.int) ((((ls.map V.int).length : Nat) : Int) - 1) = some (.int (ls.getD (ls.length - 1) 0)) := by
    rw [elen, show ((ls.length : Nat) : Int) - 1 = ((ls.length - 1 : Nat) : Int) by omega]
    exact atI_nat (map_get (by omega))
  have hlast := hL.ge _ (RL.getD_mem (show ls.length - 1 < ls.length by omega))
  refine ⟨_, rfl, (by show 2 ≤ sizeLine; decide), fun q1 hq1 => ?_⟩
  have d1 := same_new hq1 (.tup [.int 2, .int 1])
  refine ⟨10, 30, rfl, rfl, ⟨by decide, by decide, by decide⟩, (by show 2 ≤ sizeLine; decide), fun q2 hq2 => ?_⟩
  have d2 := d1.trans (same_new hq2 (.tup [.int (10 ^ (30 : Int).toNat), .int 1]))
  refine ⟨_, rfl, _, rfl, _, rfl, a, _, rfl, .inr (SqT.of (d2 _ _ haF)), _, 1, rfl, rfl, a, _, _, _, rfl, rfl, SqT.of (d2 _ _ haF), glast, _, 1, rfl, rfl, (by show 2 ≤ sizeLine; decide), fun q3 hq3 => ?_⟩
  have d3 := d2.trans (same_new hq3 (.tup [.int (ls.getD (ls.length - 1) 0 + 1), .int 1]))
  refine cat_any (d3 _ _ haF) upd_same (by simp only [List.length_map, List.length_take, List.length_drop, List.length_append, List.length_cons, List.length_nil]; omega) fun z3 Ha da ez3 => ?_
  have d4 := d3.trans da
  refine ⟨_, rfl, (by show 1 ≤ sizeLine; decide), fun q4 hq4 => ?_⟩
  have d5 := d4.trans (same_new hq4 (.tup [odd]))
  refine ⟨_, rfl, cat_any upd_same (d5 _ _ haF) (by simp only [List.length_map, List.length_take, List.length_drop, List.length_append, List.length_cons, List.length_nil]; omega) fun z4 Hb db ez4 => ?_⟩
  have d6 := d5.trans db
  refine ⟨(by show 4 ≤ sizeLine; decide), fun q6 hq6 => ?_⟩
  have d7 := d6.trans (same_new hq6 (.lst [V.ref q1, .ref q2, .ref z3, .ref z4]))
  refine ⟨p13, q6, _, _, rfl, rfl, d7 _ _ ews, upd_same, (by rw [hlw]; show 11 + 4 ≤ sizeLine; decide), fun q7 hq7 => ?_⟩
  obtain ⟨H5, hH5⟩ : ∃ H5, upd (upd Hb q6 (.lst [V.ref q1, .ref q2, .ref z3, .ref z4])) q7 (.lst (ws ++ [V.ref q1, .ref q2, .ref z3, .ref z4])) = H5 := ⟨_, rfl⟩
  have r7 := same_new hq7 (.lst (ws ++ [V.ref q1, .ref q2, .ref z3, .ref z4]))
  rw [hH5] at r7
  have r6 := (same_new hq6 (.lst [V.ref q1, .ref q2, .ref z3, .ref z4])).trans r7
  have r5 := db.trans r6
  have r4 := (same_new hq4 (.tup [odd])).trans r5
  have r3 := da.trans r4
  have r2 := (same_new hq3 (.tup [.int (ls.getD (ls.length - 1) 0 + 1), .int 1])).trans r3
  have r1 := (same_new hq2 (.tup [.int (10 ^ (30 : Int).toNat), .int 1])).trans r2
  have dG := d6.trans r6
  have sG := sF.same dG
  have haG := dG _ _ haF
  have odG : Od S H5 odd := odF.keep (same_but dG S)
  have q7S := src_ne (sF.same d7) hq7
  have some2 : SomeAt S H5 q7 15 := by
    refine ⟨ws ++ [V.ref q1, .ref q2, .ref z3, .ref z4], by rw [← hH5]; exact upd_same, by rw [List.length_append, hlw]; rfl, q7S, fun x hx => ?_⟩
    rcases List.mem_append.mp hx with z | z
    · exact (hws x z).keep (same_but dG S)
    · simp only [List.mem_cons, List.not_mem_nil, or_false] at z
      rcases z with rfl | rfl | rfl | rfl
      · exact wr_tup sG (r1 _ _ upd_same) (by decide) (od_ints (ns := [2, 1])) rfl
      · exact wr_tup sG (r2 _ _ upd_same) (by decide) (od_ints (ns := [10 ^ (30 : Int).toNat, 1])) (by decide +kernel)
      · refine wr_tup sG (r4 _ _ ez3) (by simp only [List.length_map, List.length_take, List.length_drop, List.length_append, List.length_cons, List.length_nil]; omega) (fun y hy => ?_) (lens_desc (A := ls.map V.int) (B := []) (by omega))
        rcases List.mem_append.mp hy with z | z
        · exact od_ints y z
        · exact od_ints (ns := [ls.getD (ls.length - 1) 0 + 1, 1]) y z
      · refine wr_tup sG (r6 _ _ ez4) (by simp only [List.length_map, List.length_take, List.length_drop, List.length_append, List.length_cons, List.length_nil]; omega) (fun y hy => ?_) (lens_odd (o := odd) (by simp) hfb)
        rcases List.mem_append.mp hy with z | z
        · rw [List.mem_singleton.mp z]
          exact odG
        · exact od_ints y z
  have bad5 : Od S H5 bad := bad4.keep (same_but dG S)
  have kb5 := kb4.trans (same_but dG S)
  clear r1 r2 r3 r4 r5 r6 r7 d1 d2 d3 d4 d5 d6 d7 da db ez3 ez4 hws ews
  rw [hH5]
  clear hH5 hq7 hq6 hq4 hq3 hq2 hq1
  -- k, last
  obtain ⟨ws, ews, hlw, _, hws⟩ := some2
  refine ⟨_, rfl, _, rfl, a, _, rfl, .inr (SqT.of haG), S, _, _, rfl, sG, by omega, by rw [elen]; omega, by rw [elen]; omega, fun kk H6 x0 x1 s6 kb6 => ?_⟩
  rw [elen] at x1
  have ha6 := kb6.tup sG haG
  have hw6 : ∀ w ∈ ws, Wr S H6 w := fun w hw => (hws w hw).keep kb6
  have q7S' : q7 ≠ S := q7S
  have ews6 : H6 q7 = some (.lst ws) := kb6 _ _ ews q7S
  have bad6 : Od S H6 bad := bad5.keep kb6
  have kb06 := kb5.trans kb6
  have gk : atI (ls.map V.int) kk = some (.int (ls.getD kk.toNat 0)) := by
    have z := atI_nat (xs := ls.map V.int) (map_get (show kk.toNat < ls.length by omega))
    rw [show ((kk.toNat : Nat) : Int) = kk by omega] at z
    exact z
  refine ⟨_, rfl, _, rfl, a, _, rfl, .inr (SqT.of ha6), _, 1, rfl, rfl, a, _, _, _, rfl, rfl, SqT.of ha6, glast, _, 1, rfl, rfl, ?_⟩
  -- the last wrong ones
  refine ⟨_, rfl, _, rfl, _, rfl, kk, rfl, slice_any ha6 fun z1 Ha da ez1 => ?_⟩
  rw [cut_to ls x0 x1] at ez1
  refine ⟨_, rfl, _, rfl, a, _, _, _, rfl, rfl, SqT.of (da _ _ ha6), gk, _, 1, rfl, rfl, (by show 1 ≤ sizeLine; decide), fun p2 hp2 => ?_⟩
  have d2 := da.trans (same_new hp2 (.tup [.int (ls.getD kk.toNat 0 + 1)]))
  refine cat_any (same_new hp2 _ _ _ ez1) upd_same (by simp only [List.length_map, List.length_take, List.length_drop, List.length_append, List.length_cons, List.length_nil]; omega) fun z3 Hc dc ez3 => ?_
  have d3 := d2.trans dc
  refine ⟨_, rfl, _, rfl, kk, rfl, slice_from (d3 _ _ ha6) fun z4 Hd dd ez4 => ?_⟩
  rw [cut_from ls (by omega) (by omega)] at ez4
  refine cat_any (dd _ _ ez3) ez4 (by simp only [List.length_map, List.length_take, List.length_drop, List.length_append, List.length_cons, List.length_nil]; omega) fun z5 He de ez5 => ?_
  have d5 := (d3.trans dd).trans de
  refine ⟨_, rfl, (by show 1 ≤ sizeLine; decide), fun p6 hp6 => ?_⟩
  have d6 := d5.trans (same_new hp6 (.tup [.int (ls.getD (ls.length - 1) 0 + 1)]))
  refine cat_any (same_new hp6 _ _ _ ez5) upd_same (by simp only [List.length_map, List.length_take, List.length_drop, List.length_append, List.length_cons, List.length_nil]; omega) fun z7 Hg dg ez7 => ?_
  have d7 := d6.trans dg
  refine ⟨(by show 1 ≤ sizeLine; decide), fun p8 hp8 => ?_⟩
  have d8 := d7.trans (same_new hp8 (.lst [.ref z7]))
  refine ⟨p8, 4, _, rfl, rfl, upd_same, by decide, by decide, (by show 1 * 4 ≤ sizeLine; decide), fun p9 hp9 => ?_⟩
  have d9 := d8.trans (same_new hp9 (.lst (List.replicate (4 : Int).toNat [V.ref z7]).flatten))
  refine ⟨q7, p9, _, _, rfl, rfl, d9 _ _ ews6, upd_same, (by rw [hlw]; show 15 + 4 ≤ sizeLine; decide), fun p10 hp10 => ?_⟩
  have d10 := d9.trans (same_new hp10 (.lst (ws ++ (List.replicate (4 : Int).toNat [V.ref z7]).flatten)))
  refine ⟨(by show 4 ≤ sizeLine; decide), fun t1 ht1 => ?_⟩
  have d11 := d10.trans (same_new ht1 (.tup [.int 1, .int 3, .int 2, .int 4]))
  refine ⟨(by show 3 ≤ sizeLine; decide), fun t2 ht2 => ?_⟩
  have d12 := d11.trans (same_new ht2 (.tup [.int 2, .int 1, .int 3]))
  refine ⟨(by show 4 ≤ sizeLine; decide), fun t3 ht3 => ?_⟩
  have d13 := d12.trans (same_new ht3 (.tup [.int 1, .int 2, .int 1, .int 2]))
  refine ⟨(by show 3 ≤ sizeLine; decide), fun p11 hp11 => ?_⟩
  have d14 := d13.trans (same_new hp11 (.lst [V.ref t1, .ref t2, .ref t3]))
  have e10 := same_new hp11 (.lst [V.ref t1, .ref t2, .ref t3]) _ _ (same_new ht3 (.tup [.int 1, .int 2, .int 1, .int 2]) _ _ (same_new ht2 (.tup [.int 2, .int 1, .int 3]) _ _ (same_new ht1 (.tup [.int 1, .int 3, .int 2, .int 4]) _ _ (upd_same (a := p10) (o := .lst (ws ++ (List.replicate (4 : Int).toNat [V.ref z7]).flatten))))))
  refine ⟨p10, p11, _, _, rfl, rfl, e10, upd_same, (by rw [List.length_append, hlw]; show 15 + 4 + 3 ≤ sizeLine; decide), fun p12 hp12 => ?_⟩
  obtain ⟨H7, hH7⟩ : ∃ H7, upd (upd (upd (upd (upd (upd (upd (upd Hg p8 (.lst [.ref z7])) p9 (.lst (List.replicate (4 : Int).toNat [V.ref z7]).flatten)) p10 (.lst (ws ++ (List.replicate (4 : Int).toNat [V.ref z7]).flatten))) t1 (.tup [.int 1, .int 3, .int 2, .int 4])) t2 (.tup [.int 2, .int 1, .int 3])) t3 (.tup [.int 1, .int 2, .int 1, .int 2])) p11 (.lst [V.ref t1, .ref t2, .ref t3])) p12 (.lst (ws ++ (List.replicate (4 : Int).toNat [V.ref z7]).flatten ++ [V.ref t1, .ref t2, .ref t3])) = H7 := ⟨_, rfl⟩
  have r12 := same_new hp12 (.lst (ws ++ (List.replicate (4 : Int).toNat [V.ref z7]).flatten ++ [V.ref t1, .ref t2, .ref t3]))
  rw [hH7] at r12
  have r11 := (same_new hp11 (.lst [V.ref t1, .ref t2, .ref t3])).trans r12
  have r3 := (same_new ht3 (.tup [.int 1, .int 2, .int 1, .int 2])).trans r11
  have r2 := (same_new ht2 (.tup [.int 2, .int 1, .int 3])).trans r3
  have r1 := (same_new ht1 (.tup [.int 1, .int 3, .int 2, .int 4])).trans r2
  have r10 := (same_new hp10 (.lst (ws ++ (List.replicate (4 : Int).toNat [V.ref z7]).flatten))).trans r1
  have r9 := (same_new hp9 (.lst (List.replicate (4 : Int).toNat [V.ref z7]).flatten)).trans r10
  have r8 := (same_new hp8 (.lst [.ref z7])).trans r9
  have dG7 := d14.trans r12
  have s7 := s6.same dG7
  have ha7 := dG7 _ _ ha6
  have p12S := src_ne (s6.same d14) hp12
  have hk' : kk.toNat < ls.length := by omega
  have edrop : ls.drop kk.toNat = ls.getD kk.toNat 0 :: ls.drop (kk.toNat + 1) := by
    rw [List.drop_eq_getElem_cons hk', List.getD_eq_getElem?_getD, List.getElem?_eq_getElem hk']
    rfl
  have some3 : SomeAt S H7 p12 22 := by
    refine ⟨ws ++ (List.replicate (4 : Int).toNat [V.ref z7]).flatten ++ [V.ref t1, .ref t2, .ref t3], by rw [← hH7]; exact upd_same, by rw [List.length_append, List.length_append, hlw]; rfl, p12S, fun x hx => ?_⟩
    rcases List.mem_append.mp hx with z | z
    · rcases List.mem_append.mp z with z | z
      · exact (hw6 x z).keep (same_but dG7 S)
      · rw [flat_rep] at z
        rw [List.eq_of_mem_replicate z]
        refine wr_tup s7 (r8 _ _ ez7) (by simp only [List.length_map, List.length_take, List.length_drop, List.length_append, List.length_cons, List.length_nil]; omega) (fun y hy => ?_) ?_
        · rcases List.mem_append.mp hy with z | z
          · rcases List.mem_append.mp z with z | z
            · rcases List.mem_append.mp z with z | z
              · exact od_ints y z
              · exact od_ints (ns := [ls.getD kk.toNat 0 + 1]) y z
            · exact od_ints y z
          · exact od_ints (ns := [ls.getD (ls.length - 1) 0 + 1]) y z
        · rw [edrop]
          have z := lens_desc (A := (ls.take kk.toNat).map V.int) (B := (ls.drop (kk.toNat + 1)).map V.int ++ [.int (ls.getD (ls.length - 1) 0 + 1)]) (i := ls.getD kk.toNat 0 + 1) (j := ls.getD kk.toNat 0) (by omega)
          simpa using z
    · simp only [List.mem_cons, List.not_mem_nil, or_false] at z
      rcases z with rfl | rfl | rfl
      · exact wr_tup s7 (r2 _ _ upd_same) (by decide) (od_ints (ns := [1, 3, 2, 4])) rfl
      · exact wr_tup s7 (r3 _ _ upd_same) (by decide) (od_ints (ns := [2, 1, 3])) rfl
      · exact wr_tup s7 (r11 _ _ upd_same) (by decide) (od_ints (ns := [1, 2, 1, 2])) rfl
  have bad7 : Od S H7 bad := bad6.keep (same_but dG7 S)
  have kb7 := kb06.trans (same_but dG7 S)
  rw [hH7]
  clear r1 r2 r3 r8 r9 r10 r11 r12 d2 d3 d5 d6 d7 d8 d9 d10 d11 d12 d13 d14 da dc dd de dg ez1 ez3 ez4 ez5 ez7 hws ews hw6 ews6 e10 hH7 hp12
  -- the wrong one
  obtain ⟨ws, ews, hlw, _, hws⟩ := some3
  have elw : ((ws.length : Nat) : Int) = 22 := by omega
  refine ⟨_, rfl, _, rfl, _, rfl, p12, _, rfl, .inl (SqL.of ews), S, _, _, rfl, s7, by omega, by omega, by omega, fun j H8 y0 y1 s8 kb8 => ?_⟩
  obtain ⟨wrong, hwr, hwm⟩ := pick y0 y1
  refine ⟨p12, ws, j, wrong, rfl, rfl, SqL.of (kb8 _ _ ews p12S), hwr, ?_⟩
  have wr8 : Wr S H8 wrong := (hws wrong hwm).keep kb8
  have bad8 : Od S H8 bad := bad7.keep kb8
  have ha8 := kb8.tup s7 ha7
  have kbF := kb7.trans kb8
  have hbn : betw 1 (.int n) 10 = true := by
    show (decide (1 ≤ n) && decide (n ≤ 10)) = true
    rw [decide_eq_true h0, decide_eq_true h1]
    rfl
  have gA := good_ints ha8
  rw [hgood] at gA
  clear hws hwm hwr ews
  -- told(bad, lengths) is count
  refine ⟨_, rfl, _, rfl, bad, .ref a, rfl, bad8.1, .inr ⟨_, ha8⟩, items_ints ha8 (by omega), fun _ H9 s9 => ⟨rfl, _, rfl, iteNS rfl ?_⟩, (fun z => Bool.noConfusion (hb3.symm.trans z)), (fun z => Bool.noConfusion (hb3.symm.trans z))⟩
  have wr9 := wr8.keep (same_but s9 S)
  have bad9 := bad8.keep (same_but s9 S)
  refine ⟨_, rfl, _, rfl, bad, wrong, rfl, bad9.1, wr9.1.1, wr9.items, fun _ H10 s10 => ⟨rfl, _, rfl, iteNS rfl ?_⟩, (fun z => Bool.noConfusion (hb3.symm.trans z)), (fun z => Bool.noConfusion (hb3.symm.trans z))⟩
  have wr10 := wr9.keep (same_but s10 S)
  refine ⟨_, rfl, _, rfl, .int n, wrong, rfl, trivial, wr10.1.1, wr10.items, (fun z => Bool.noConfusion (hbn.symm.trans z)), fun _ _ H11 s11 => ⟨rfl, _, rfl, iteNS rfl ?_⟩, (fun _ z => Bool.noConfusion (wr10.2.2.symm.trans z))⟩
  have s811 := (s9.trans s10).trans s11
  have ha11 := s811 _ _ ha8
  have gA11 := good_ints ha11
  rw [hgood] at gA11
  refine ⟨_, rfl, _, rfl, .int n, .ref a, rfl, trivial, .inr ⟨_, ha11⟩, items_ints ha11 (by omega), (fun z => Bool.noConfusion (hbn.symm.trans z)), (fun _ z => Bool.noConfusion (gA11.symm.trans z)), fun _ _ H12 s12 => ⟨rfl, _, rfl, ite_yes rfl ?_⟩⟩
  have ha12 := s12 _ _ ha11
  refine ⟨_, rfl, _, rfl, 10, 60, rfl, rfl, ⟨by decide, by decide, by decide⟩, 10, 29, rfl, rfl, ⟨by decide, by decide, by decide⟩, _, _, rfl, rfl, wide_mul (a := 200) (b := 97) (by decide +kernel) (by decide +kernel) (by decide) (by decide) (by decide), (by show 1 ≤ sizeLine; decide), fun p hp => ?_⟩
  refine cat_any (same_new hp _ _ _ ha12) upd_same (by simp only [List.length_map, List.length_take, List.length_drop, List.length_append, List.length_cons, List.length_nil]; omega) fun z H13 s13 ez => ?_
  have ez' : H13 z = some (.tup ((ls ++ [10 ^ (60 : Int).toNat * 10 ^ (29 : Int).toNat]).map V.int)) := by
    rw [ez, List.map_append]
    rfl
  have big5 : (5 : Int) ≤ 10 ^ (60 : Int).toNat * 10 ^ (29 : Int).toNat := by decide +kernel
  have gz := good_ints ez'
  rw [lens_of_sorted (by simp) (fun x hx => by
    rcases List.mem_append.mp hx with y | y
    · exact hL.ge x y
    · rw [List.mem_singleton.mp y]
      omega) (List.pairwise_append.mpr ⟨hL.asc, List.pairwise_singleton _ _, fun x hx y hy => by
    rw [List.mem_singleton.mp hy]
    have := hL.le x hx
    omega⟩)] at gz
  refine ⟨.int n, .ref z, rfl, trivial, .inr ⟨_, ez'⟩, items_ints ez' (by rw [List.length_append]; show ls.length + 1 ≤ 5000; omega), (fun c => Bool.noConfusion (hbn.symm.trans c)), (fun _ c => Bool.noConfusion (gz.symm.trans c)), fun _ _ H14 s14 => ⟨rfl, ?_⟩⟩
  have s814 := (s811.trans s12).trans (((same_new hp _).trans s13).trans s14)
  rw [decide_eq_true rfl]
  exact q H14 ((s8.same s814).mono (by omega)) (kbF.trans (same_but s814 S))
end
end RLX

namespace RL
/-- due is added to the place of the number of rings -/
def addOne (n : Int) (f : List Int) (ls : List Int) : List Int := f.set ls.length (f.getD ls.length 0 + lways n ls)
def addAll (n : Int) (f : List Int) (lss : List (List Int)) : List Int := lss.foldl (addOne n) f
def plK (n : Int) : Nat → List Int
  | 0 => List.replicate (n + 1).toNat 0
  | i + 1 => addAll n (plK n i) (parts 11 (1 + i) 1)
theorem addOne_len (n : Int) (f ls : List Int) : (addOne n f ls).length = f.length := List.length_set
theorem addAll_len (n : Int) : ∀ (lss : List (List Int)) (f : List Int), (addAll n f lss).length = f.length
  | [], _ => rfl
  | ls :: lss, f => by
    show (addAll n (addOne n f ls) lss).length = _
    rw [addAll_len n lss, addOne_len]
theorem plK_len (n : Int) : ∀ i, (plK n i).length = (n + 1).toNat
  | 0 => List.length_replicate
  | i + 1 => by
    show (addAll n (plK n i) _).length = _
    rw [addAll_len, plK_len n i]
theorem addAll_more {n : Int} {f : List Int} {lss : List (List Int)} {j : Nat} {ls : List Int} (h : lss[j]? = some ls) : addAll n f (lss.take (j + 1)) = addOne n (addAll n f (lss.take j)) ls := by
  rw [List.take_add_one, h]
  unfold addAll
  rw [List.foldl_append]
  rfl
/-- what is asked of each part of k, of n places -/
def partOk (n k : Nat) (ls : List Int) : Bool :=
  !ls.isEmpty && (ls.all (fun x => decide (1 ≤ x)) && (decide (ls.sum = k) && (decide (ls.length ≤ k) && (RLX.lensB (ls.map L2.V.int) && (decide (rlc n ls = lways n ls) && (decide (0 ≤ lways n ls) && decide (lways n ls < 2 ^ 64)))))))
def numOk (n : Nat) : Bool :=
  ((List.range n).all fun i => (parts 11 (1 + i) 1).all (partOk n (1 + i)) && (decide (((parts 11 (1 + i) 1).map (lways n)).sum = (rpc n).getD (1 + i) 0) &&
    (decide (rlc n (List.replicate (1 + i) 1) = choose n (1 + i) * forestsOn n (1 + i)) && decide (-(2 ^ 64) < choose n (1 + i) ∧ choose n (1 + i) < 2 ^ 64)))) && decide (plK n n = pieces n)
theorem num_ok : ∀ n ∈ List.range' 1 10, numOk n = true := by decide +kernel
structure PartOk (n k : Nat) (ls : List Int) : Prop where
  ne : ls ≠ []
  ge : ∀ x ∈ ls, 1 ≤ x
  sum : ls.sum = k
  len : ls.length ≤ k
  lens : RLX.lensB (ls.map L2.V.int) = true
  eq : rlc n ls = lways n ls
  lo : 0 ≤ lways n ls
  hi : lways n ls < 2 ^ 64
theorem part_of {n k : Nat} {ls : List Int} (h : partOk n k ls = true) : PartOk n k ls := by
  unfold partOk at h
  simp only [Bool.and_eq_true, decide_eq_true_eq, List.all_eq_true] at h
  obtain ⟨h1, h2, h3, h4, h5, h6, h7, h8⟩ := h
  exact ⟨fun e => by subst e; exact absurd h1 (by decide), h2, h3, h4, h5, h6, h7, h8⟩
structure KOk (n i : Nat) : Prop where
  part : ∀ ls ∈ parts 11 (1 + i) 1, PartOk n (1 + i) ls
  sum : ((parts 11 (1 + i) 1).map (lways n)).sum = (rpc n).getD (1 + i) 0
  ones : rlc n (List.replicate (1 + i) 1) = choose n (1 + i) * forestsOn n (1 + i)
  small : -(2 ^ 64) < choose n (1 + i) ∧ choose n (1 + i) < 2 ^ 64
theorem num_facts {n : Nat} (h0 : 1 ≤ n) (h1 : n ≤ 10) : (∀ i < n, KOk n i) ∧ plK n n = pieces n := by
  have h := num_ok n (List.mem_range'.mpr ⟨n - 1, by omega, by omega⟩)
  unfold numOk at h
  rw [Bool.and_eq_true] at h
  refine ⟨fun i hi => ?_, of_decide_eq_true h.2⟩
  have z := List.all_eq_true.mp h.1 i (List.mem_range.mpr hi)
  simp only [Bool.and_eq_true, decide_eq_true_eq] at z
  obtain ⟨z1, z2, z3, z4⟩ := z
  exact ⟨fun ls hls => part_of (List.all_eq_true.mp z1 ls hls), z2, z3, z4⟩
/-! ### drawn lengths -/
/-- the ascending tuples of so many numbers from a least one to 5 -/
def srt : Nat → Nat → List (List Int)
  | 0, _ => [[]]
  | m + 1, lo => (List.range (6 - lo)).flatMap fun j => (srt m (lo + j)).map fun r => ((lo + j : Nat) : Int) :: r
theorem srt_mem : ∀ (ls : List Int) (lo : Nat), ls.Pairwise (· ≤ ·) → (∀ x ∈ ls, (lo : Int) ≤ x ∧ x ≤ 5) → ls ∈ srt ls.length lo
  | [], _, _, _ => List.mem_singleton.mpr rfl
  | x :: ls, lo, hp, hx => by
    obtain ⟨h1, h2⟩ := hx x List.mem_cons_self
    obtain ⟨hp1, hp2⟩ := List.pairwise_cons.mp hp
    have ih := srt_mem ls x.toNat hp2 fun y hy => ⟨by have := hp1 y hy; omega, (hx y (List.mem_cons_of_mem _ hy)).2⟩
    show x :: ls ∈ (List.range (6 - lo)).flatMap fun j => (srt ls.length (lo + j)).map fun r => ((lo + j : Nat) : Int) :: r
    refine List.mem_flatMap.mpr ⟨x.toNat - lo, List.mem_range.mpr (by omega), List.mem_map.mpr ⟨ls, ?_, ?_⟩⟩
    · rw [show lo + (x.toNat - lo) = x.toNat by omega]
      exact ih
    · rw [show lo + (x.toNat - lo) = x.toNat by omega, show ((x.toNat : Nat) : Int) = x by omega]
def due (n : Int) (ls : List Int) : Int := if ls.sum ≤ n then lways n ls else 0
def drawnOk (n : Nat) (ls : List Int) : Bool := decide (rlc n ls = due n ls) && (decide (0 ≤ due n ls) && decide (due n ls < 2 ^ 64))
theorem drawn_ok : ∀ n ∈ List.range' 1 10, ∀ m ∈ List.range' 1 6, ((srt m 1).all (drawnOk n)) = true := by decide +kernel
theorem drawn_facts {n : Nat} {ls : List Int} (h0 : 1 ≤ n) (h1 : n ≤ 10) (hl0 : 1 ≤ ls.length) (hl1 : ls.length ≤ 6) (hp : ls.Pairwise (· ≤ ·)) (hx : ∀ x ∈ ls, 1 ≤ x ∧ x ≤ 5) : rlc n ls = due n ls ∧ 0 ≤ due n ls ∧ due n ls < 2 ^ 64 := by
  have h := drawn_ok n (List.mem_range'.mpr ⟨n - 1, by omega, by omega⟩) ls.length (List.mem_range'.mpr ⟨ls.length - 1, by omega, by omega⟩)
  have z := List.all_eq_true.mp h ls (srt_mem ls 1 hp fun x hx' => hx x hx')
  unfold drawnOk at z
  simp only [Bool.and_eq_true, decide_eq_true_eq] at z
  exact z
theorem log_small {v : Int} (h0 : 0 ≤ v) (h1 : v < 2 ^ 64) : v.natAbs.log2 < 1920 := by
  by_cases h : v.natAbs = 0
  · rw [h]
    decide
  · exact Nat.lt_trans ((Nat.log2_lt h).mpr (by omega : v.natAbs < 2 ^ 64)) (by decide)
theorem rlc_far {n : Int} {ls : List Int} (h : n < ls.sum) : rlc n ls = 0 := if_pos h
end RL

namespace RL
/-- the facts, told of an int -/
structure KOkI (n : Int) (i : Nat) : Prop where
  part : ∀ ls ∈ parts 11 (1 + i) 1, ls ≠ [] ∧ (∀ x ∈ ls, 1 ≤ x) ∧ ls.sum ≤ n ∧ (ls.length : Int) ≤ n ∧ RLX.lensB (ls.map L2.V.int) = true ∧ rlc n ls = lways n ls ∧ 0 ≤ lways n ls ∧ lways n ls < 2 ^ 64
  sum : ((parts 11 (1 + i) 1).map (lways n)).sum = (rpc n).getD (1 + i) 0
  ones : rlc n (List.replicate (1 + i) 1) = choose n (1 + i) * forestsOn n ((1 + i : Nat) : Int)
  small : -(2 ^ 64) < choose n (1 + i) ∧ choose n (1 + i) < 2 ^ 64
theorem num_factsI {n : Int} (h0 : 1 ≤ n) (h1 : n ≤ 10) : (∀ i : Nat, (i : Int) < n → KOkI n i) ∧ plK n n.toNat = pieces n := by
  obtain ⟨N, rfl⟩ : ∃ N : Nat, n = (N : Int) := ⟨n.toNat, by omega⟩
  obtain ⟨f1, f2⟩ := num_facts (n := N) (by omega) (by omega)
  refine ⟨fun i hi => ?_, f2⟩
  have k := f1 i (by omega)
  refine ⟨fun ls hls => ?_, k.sum, ?_, k.small⟩
  · have p := k.part ls hls
    have hs := p.sum
    have hl := p.len
    exact ⟨p.ne, p.ge, by omega, by omega, p.lens, p.eq, p.lo, p.hi⟩
  · rw [k.ones, show ((1 + i : Nat) : Int) = 1 + (i : Int) by omega]
theorem drawn_factsI {n : Int} {ls : List Int} (h0 : 1 ≤ n) (h1 : n ≤ 10) (hl0 : 1 ≤ ls.length) (hl1 : ls.length ≤ 6) (hp : ls.Pairwise (· ≤ ·)) (hx : ∀ x ∈ ls, 1 ≤ x ∧ x ≤ 5) : rlc n ls = due n ls ∧ 0 ≤ due n ls ∧ due n ls < 2 ^ 64 := by
  obtain ⟨N, rfl⟩ : ∃ N : Nat, n = (N : Int) := ⟨n.toNat, by omega⟩
  exact drawn_facts (by omega) (by omega) hl0 hl1 hp hx
theorem rpcL_len (n : Int) (i : Nat) : (rpcL n i).length = i := by
  unfold rpcL
  rw [List.length_map, List.length_range]
theorem rpc_len (n : Int) : (rpc n).length = n.toNat + 1 := by
  unfold rpc
  rw [List.length_cons, rpcL_len]
theorem pieces_len (n : Int) : (pieces n).length = (n + 1).toNat := pcs_len n _
theorem sum_rep : ∀ k : Nat, (List.replicate k (1 : Int)).sum = k
  | 0 => rfl
  | k + 1 => by
    rw [List.replicate_succ, List.sum_cons, sum_rep k]
    omega
theorem sum_ge_last {ls : List Int} {z : Int} (h : ∀ x ∈ ls, 1 ≤ x) : (ls.length : Int) + z ≤ (ls ++ [z]).sum := by
  have q := (sum_ge h).1
  rw [List.sum_append]
  show _ ≤ ls.sum + (z + 0)
  omega
end RL
namespace RLX
open PySem PySem.Spec PyProof.Rows L2 RL
theorem map_int_inj : ∀ {xs ys : List Int}, xs.map V.int = ys.map V.int → xs = ys
  | [], [], _ => rfl
  | [], _ :: _, h => nomatch h
  | _ :: _, [], h => nomatch h
  | x :: xs, y :: ys, h => by
    rw [List.map_cons, List.map_cons, List.cons.injEq] at h
    rw [V.int.inj h.1, map_int_inj h.2]
/-- ring_length_count of what is right -/
def spRlc2 : Sp := fun vs H Q _ => ∃ (n : Int) (a : Addr) (ns : List Int), vs = [.int n, .ref a] ∧ 1 ≤ n ∧ n ≤ 10 ∧ H a = some (.tup (ns.map V.int)) ∧ ns.length ≤ 5000 ∧ lensB (ns.map V.int) = true ∧ ∀ H', Same H H' → Q (.int (rlc n ns)) H'
theorem rlc2 {P : Program} {w : World} {K : PySem.W.Frag} {mg : Str → Option Value} {base : Heap} {f CC CL : Addr} {fd : FuncData} {k : Nat} (F : FnOk P w K mg base (L2.CX P w) k f fd ["many", "lengths"] (spRlc CC CL)) : FnOk P w K mg base (L2.CX P w) k f fd ["many", "lengths"] spRlc2 :=
  F.imp fun vs H Q E h => by
    obtain ⟨n, a, ns, rfl, h0, h1, ha, hl, hg, q⟩ := h
    have hb : betw 1 (.int n) 10 = true := by
      show (decide (1 ≤ n) && decide (n ≤ 10)) = true
      rw [decide_eq_true h0, decide_eq_true h1]
      rfl
    have gg := good_ints ha
    rw [hg] at gg
    refine ⟨.int n, .ref a, rfl, trivial, .inr ⟨_, ha⟩, items_ints ha hl, (fun z => Bool.noConfusion (hb.symm.trans z)), (fun _ z => Bool.noConfusion (gg.symm.trans z)), fun n2 a2 ns2 e1 e2 _ _ ha2 _ H' s => ?_⟩
    cases e1
    cases e2
    rw [ha] at ha2
    have e : ns = ns2 := map_int_inj (HO.tup.inj (Option.some.inj ha2))
    subst e
    exact q H' s
theorem rep_any {K : PySem.W.Frag} {H : Hp} {t : Addr} {k : Int} {Q : VK} (ht : H t = some (.tup [.int 1])) (h0 : 1 ≤ k) (h1 : k ≤ 100000) (q : ∀ z H', Same H H' → H' z = some (.tup ((List.replicate k.toNat 1).map V.int)) → Q (.ref z) H') : rRepOne K (.ref t) (.int k) H Q := by
  refine ⟨t, k, .int 1, rfl, rfl, SqT.of ht, h0, h1, fun e => ?_, fun _ p hp => q p _ (same_new hp _) ?_⟩
  · subst e
    exact q t H (Same.refl H) ht
  · rw [upd_same, List.map_replicate]
theorem dp_ints {K : PySem.W.Frag} {H : Hp} : ∀ ns : List Int, DpAll K H (ns.map V.int) (ns.map PyData.int)
  | [] => .nil
  | n :: ns => .cons (.int n) (dp_ints ns)
theorem pieces_data {n : Int} (h0 : 1 ≤ n) (h1 : n ≤ 10) : SeqAt.shaped (.list ((pieces n).map PyData.int)) = true :=
  upto (p := fun n => SeqAt.shaped (.list ((pieces n).map PyData.int)) = true) (m := 10) (by decide +kernel) (by omega) h1
theorem data_refl {d : PyData} (h : SeqAt.shaped d = true) : PyData.eqv d d = true := by
  unfold SeqAt.shaped at h
  rw [Bool.and_eq_true] at h
  exact SeqAt.eqv_refl d h.1
theorem same_src {H H1 : Hp} {S : Addr} {o : HO} (hS : H S = none) (k : KeepBut S (upd H S o) H1) : Same H H1 := fun b u e => by
  have hb : b ≠ S := ne_of_none e hS
  exact k b u (by rw [upd_ne hb]; exact e) hb
theorem ones_ok (k : Nat) (h : 1 ≤ k) : lensB ((List.replicate k (1 : Int)).map V.int) = true :=
  lens_of_sorted (fun e => by
    have z := congrArg List.length e
    rw [List.length_replicate] at z
    have z2 : k = 0 := z
    omega) (fun x hx => by rw [List.eq_of_mem_replicate hx]; exact Int.le_refl _) (List.pairwise_replicate.mpr (.inr (Int.le_refl _)))
theorem rg_rng (k : Int) : rgV 0 k = (rng k.toNat).map V.int := by
  unfold rgV rng
  rw [List.map_map, Int.sub_zero]
  refine List.map_congr_left fun i _ => ?_
  show V.int (0 + (i : Int)) = V.int (i : Int)
  rw [Int.zero_add]
theorem KeepBut.ints {P b : Addr} {H H' : Hp} {xs : List V} {ys : List V} (k : KeepBut P H H') (hP : H P = some (.lst ys)) (e : H b = some (.tup xs)) : H' b = some (.tup xs) := k b _ e (ne_of e hP fun z => nomatch z)
theorem SrcAt.keepP {P S : Addr} {H H' : Hp} {n : Int} (h : SrcAt H S n) (k : KeepBut P H H') (hne : S ≠ P) : SrcAt H' S n := by
  obtain ⟨x, y, t, e, r⟩ := h
  exact ⟨x, y, t, k _ _ e hne, r⟩
theorem take_sum_more {n : Int} {lss : List (List Int)} {j : Nat} {ls : List Int} (h : lss[j]? = some ls) : ((lss.take (j + 1)).map (lways n)).sum = ((lss.take j).map (lways n)).sum + lways n ls := by
  rw [List.take_add_one, h, List.map_append, List.sum_append]
  show _ + (lways n ls + 0) = _
  omega
theorem cell_int {ns : List Int} {c : Int} {x : V} (h : x ∈ [V.int c] ++ cutV (ns.map V.int) none (some 3)) : ∃ c, x = .int c := by
  rcases List.mem_append.mp h with z | z
  · exact ⟨c, List.mem_singleton.mp z⟩
  · unfold cutV at z
    obtain ⟨n, _, e⟩ := List.mem_map.mp (List.mem_of_mem_drop (List.mem_of_mem_take z))
    exact ⟨n, e.symm⟩
end RLX

set_option maxHeartbeats 8000000
namespace RLX
open PySem PySem.Spec PyProof.Rows L2 RL
/-- a def of the module that keeps its promise -/
structure Has (P : Program) (w : World) (K : PySem.W.Frag) (mg : Str → Option Value) (base : Heap) (CX : CXT) (k : Nat) (x : Str) (ps : List Str) (sp : Sp) where
  f : Addr
  fd : FuncData
  G : FnOk P w K mg base CX k f fd ps sp
  b : Binds K fd ps []
  k : PySem.W.keepIn K (.ref f) = true
  m : mg x = some (.ref f)
/-- two arguments by keyword, the other way round -/
def swapK {T : Type} : List T → List T → List T
  | [], [a, b] => [b, a]
  | _, _ => []
theorem swap_vals : ∀ {vs : List V} {us : List Value} {zs : List V} {ws : List Value}, Vals vs us → Vals zs ws → Vals (swapK vs zs) (swapK us ws)
  | _, _, _, _, .nil, .nil => .nil
  | _, _, _, _, .nil, .cons _ .nil => .nil
  | _, _, _, _, .nil, .cons r1 (.cons r2 .nil) => .cons r2 (.cons r1 .nil)
  | _, _, _, _, .nil, .cons _ (.cons _ (.cons _ _)) => .nil
  | _, _, _, _, .cons _ _, .nil => .nil
  | _, _, _, _, .cons _ _, .cons _ _ => .nil
theorem swap_binds {K : PySem.W.Frag} {fd : FuncData} (h : ∀ (s : Shared) (a b : Value), BindsTo s fd ⟨[], [("lengths", a), ("many", b)]⟩ [("many", b), ("lengths", a)]) : KBinds K fd ["many", "lengths"] ["lengths", "many"] swapK swapK := by
  refine ⟨fun s us ws _ hl => ?_, swap_vals⟩
  match us, ws, hl with
  | [], [a, b], _ => exact h s a b
  | [], [], z => exact absurd z (by decide)
  | [], [_], z => exact absurd (show 0 = 2 from z) (by decide)
  | [], _ :: _ :: _ :: _, z => exact nomatch z
  | _ :: _, _, z => exact nomatch z
/-- all that law calls -/
structure Calls (P : Program) (w : World) (K : PySem.W.Frag) (mg : Str → Option Value) (base : Heap) where
  src : Has P w K mg base CX0 1 "_law_source" ["_law_cell"] spSource
  draw : Has P w K mg base CX0 1 "_law_draw" ["_law_source_here", "_law_many"] spDraw2
  rpc : Has P w K mg base CX0 4 "ring_place_counts" ["many"] spRpc
  parts : Has P w K mg base CX0 11 "_law_partings" ["_law_total", "_law_least"] (spParts 11)
  ways : Has P w K mg base CX0 2 "_law_ways" ["_law_many", "_law_lengths"] spWays
  rlc : Has P w K mg base (L2.CX P w) 4 "ring_length_count" ["many", "lengths"] spRlc2
  rlcK : KBinds K rlc.fd ["many", "lengths"] ["lengths", "many"] swapK swapK
  choose : Has P w K mg base CX0 1 "_law_choose" ["_law_many", "_law_few"] spChoose
  forest : Has P w K mg base CX0 5 "forest_count" ["many", "lot"] spForest
  pieces : Has P w K mg base CX0 4 "piece_counts" ["many"] spPieces
  refused : Has P w K mg base CX0 6 "_law_refused_right" ["_law_source_here", "_law_many", "_law_lengths"] spRefused
/-- the built-ins that law names -/
structure Blt (mg : Str → Option Value) : Prop where
  len : mg "len" = none
  range : mg "range" = none
  repr : mg "repr" = none
  tuple : mg "tuple" = none
  sorted : mg "sorted" = none
  sum : mg "sum" = none
  max : mg "max" = none
def spLaw (K : PySem.W.Frag) : Sp := fun vs H Q _ => ∃ (a : Addr) (ns : List Int), vs = [.ref a] ∧ SqL K H a (ns.map V.int) ∧ ns.length ≤ 63 ∧ ∀ H', Q (.bl true) H'
theorem due_if {n : Int} {ls : List Int} {σ : L2.St} {H : Hp} {Q : VK} {ta : TE} (h1 : ls.sum ≤ n → (∀ H', Same H H' → Q (.int (lways n ls)) H') → ta σ H Q) (q : ∀ H', Same H H' → Q (.int (due n ls)) H') : if decide (ls.sum ≤ n) = true then ta σ H Q else tC (.int 0) σ H Q := by
  by_cases hc : ls.sum ≤ n
  · rw [decide_eq_true hc]
    refine iteT (h1 hc fun H' s => ?_)
    have z := q H' s
    unfold due at z
    rw [if_pos hc] at z
    exact z
  · rw [decide_eq_false hc]
    refine iteF ?_
    have z := q H (Same.refl H)
    unfold due at z
    rw [if_neg hc] at z
    exact z
theorem le_last {ls : List Int} (hp : ls.Pairwise (· ≤ ·)) {x : Int} (hx : x ∈ ls) : x ≤ ls.getD (ls.length - 1) 0 := by
  obtain ⟨i, hi, rfl⟩ := List.mem_iff_getElem.mp hx
  rw [List.getD_eq_getElem?_getD, List.getElem?_eq_getElem (by omega), Option.getD_some]
  by_cases h : i = ls.length - 1
  · subst h
    exact Int.le_refl _
  · exact List.pairwise_iff_getElem.mp hp i (ls.length - 1) hi (by omega) (by omega)
theorem two_show {i j : Int} (h1 : i.natAbs.log2 < 1920) (h2 : j.natAbs.log2 < 1920) : (PyData.list [.int i, .int j]).showable = true := by
  show (decide (i.natAbs.log2 < 1920) && (decide (j.natAbs.log2 < 1920) && true)) = true
  rw [decide_eq_true h1, decide_eq_true h2]
  rfl
section
variable {P : Program} {w : World} {K : PySem.W.Frag} {mg : Str → Option Value} {base : Heap} {f : Addr} {fd : FuncData}
theorem ok_law (F : Fun K "law" "law" sLaw f fd) (C : Calls P w K mg base) (B : Blt mg) : AtCaller P w K mg base f fd "_law_script" (spLaw K) := by
  refine at_caller F scLaw (fun cdv s H v Q E h => ?_)
  obtain ⟨a, ns, ev, hS, h63, q⟩ := h
  obtain rfl : v = .ref a := List.cons.inj ev |>.1
  have hr : Room 39 (callerA.deeper (envOfC "law" (defScope sLaw) s.heap.objs.size f cdv)) := room_law.deeper _
  have hr1 : Room 1 (callerA.deeper (envOfC "law" (defScope sLaw) s.heap.objs.size f cdv)) := hr.mono (by decide)
  have hr2 : Room 2 (callerA.deeper (envOfC "law" (defScope sLaw) s.heap.objs.size f cdv)) := hr.mono (by decide)
  have hr4 : Room 4 (callerA.deeper (envOfC "law" (defScope sLaw) s.heap.objs.size f cdv)) := hr.mono (by decide)
  have hr5 : Room 5 (callerA.deeper (envOfC "law" (defScope sLaw) s.heap.objs.size f cdv)) := hr.mono (by decide)
  have hr6 : Room 6 (callerA.deeper (envOfC "law" (defScope sLaw) s.heap.objs.size f cdv)) := hr.mono (by decide)
  have hr11 : Room 11 (callerA.deeper (envOfC "law" (defScope sLaw) s.heap.objs.size f cdv)) := hr.mono (by decide)
  have hu : (callerA.deeper (envOfC "law" (defScope sLaw) s.heap.objs.size f cdv)).units + 64 < cLine := hr.units
  refine ⟨_, pss_cons (ps_for PassesOwn.never rfl (pi_list (pe_op op_cat (pe_lst (pa_cons (pe_callB call_len_seq (by rfl) B.len PySem.boot_len (pa_cons (pv 0) pa_nil)) pa_nil)) (pe_slice sl_list (pv 0) po_none (po_some pe_int)))) (pg_name (i := 1) scLaw.nd rfl (.inl rfl))
    (pss_cons (ps_set (i := 2) scLaw.nd rfl (.inr rfl) (pe_call C.src.G hr1 rfl C.src.m C.src.k C.src.b .nil pass0 (pa_cons (pv 1) pa_nil)))
    (pss_cons (ps_set (i := 3) scLaw.nd rfl (.inl rfl) (pe_op op_add pe_int (pe_call C.draw.G hr1 rfl C.draw.m C.draw.k C.draw.b .nil pass0 (pa_cons (pv 2) (pa_cons pe_int pa_nil)))))
    (pss_cons (ps_par (i := 4) (j := 5) rfl scLaw.nd rfl rfl (by decide) rfl rfl (pa_cons (pe_call C.rpc.G hr4 rfl C.rpc.m C.rpc.k C.rpc.b .nil pass0 (pa_cons (pv 3) pa_nil)) (pa_cons (pe_op op_rep (pe_lst (pa_cons pe_int pa_nil)) (pe_op op_add (pv 3) pe_int)) pa_nil)) (by rfl))
    (pss_cons (ps_for PassesOwn.never rfl (pi_range2 (by rfl) B.range (pa_cons pe_int (pa_cons (pe_op op_add (pv 3) pe_int) pa_nil))) (pg_name (i := 6) scLaw.nd rfl (.inl rfl))
      (pss_cons (ps_set (i := 7) scLaw.nd rfl (.inl rfl) pe_int)
      (pss_cons (ps_for PassesOwn.never rfl (pi_list (pe_call C.parts.G hr11 rfl C.parts.m C.parts.k C.parts.b .nil pass0 (pa_cons (pv 6) (pa_cons pe_int pa_nil)))) (pg_name (i := 8) scLaw.nd rfl (.inl rfl))
        (pss_cons (ps_set (i := 9) scLaw.nd rfl (.inl rfl) (pe_call C.ways.G hr2 rfl C.ways.m C.ways.k C.ways.b .nil pass0 (pa_cons (pv 3) (pa_cons (pv 8) pa_nil))))
        (pss_cons (ps_if (pt_cmpR op_ne (pe_callB SkE.call_repr_int (by rfl) B.repr (by decide +kernel) (pa_cons (pe_call C.rlc.G hr4 rfl C.rlc.m C.rlc.k C.rlc.b .nil passL (pa_cons (pv 3) (pa_cons (pv 8) pa_nil))) pa_nil)) (pe_callB SkE.call_repr_int (by rfl) B.repr (by decide +kernel) (pa_cons (pv 9) pa_nil)) (nomark _)) (pss_one (ps_ret pe_bl)) pss_nil)
        (pss_cons (ps_set (i := 7) scLaw.nd rfl (.inl rfl) (pe_op op_add (pv 7) (pv 9)))
        (pss_one (ps_asg (pe_op op_add (pe_ix ix_list (pv 5) (pe_callB call_len_seq (by rfl) B.len PySem.boot_len (pa_cons (pv 8) pa_nil)) (fun _ _ => rfl)) (pv 9)) (pg_sub (pv 5) (pe_callB call_len_seq (by rfl) B.len PySem.boot_len (pa_cons (pv 8) pa_nil)) set_list)))))))
      (pss_cons (ps_if (pt_cmpR op_ne (pv 7) (pe_ix ix_list (pv 4) (pv 6) (fun _ _ => rfl)) (nomark _)) (pss_one (ps_ret pe_bl)) pss_nil)
      (pss_one (ps_if (pt_cmpR op_ne (pe_call C.rlc.G hr4 rfl C.rlc.m C.rlc.k C.rlc.b .nil passL (pa_cons (pv 3) (pa_cons (pe_op my_rep_one (pe_tup (pa_cons pe_int pa_nil)) (pv 6)) pa_nil)))
        (pe_op op_mul (pe_call C.choose.G hr1 rfl C.choose.m C.choose.k C.choose.b .nil pass0 (pa_cons (pv 3) (pa_cons (pv 6) pa_nil))) (pe_call C.forest.G hr5 rfl C.forest.m C.forest.k C.forest.b .nil pass0 (pa_cons (pv 3) (pa_cons (pe_tupRg rfl (by rfl) B.tuple (prg_1 (by rfl) B.range (pv 6))) pa_nil)))) (nomark _)) (pss_one (ps_ret pe_bl)) pss_nil))))))
    (pss_cons (ps_if (pt_cmpR (op_neD hu) (pv 5) (pe_call C.pieces.G hr4 rfl C.pieces.m C.pieces.k C.pieces.b .nil pass0 (pa_cons (pv 3) pa_nil)) (nomark _)) (pss_one (ps_ret pe_bl)) pss_nil)
    (pss_cons (ps_set (i := 8) scLaw.nd rfl (.inl rfl) (pe_tupleOf (by rfl) B.tuple (pe_callB cr_sortedI (by rfl) B.sorted (by decide +kernel) (pa_cons
        (pe_lc (own := [("_law_turn", 11)]) (g := gName 11) (tt := tYes) rfl scLaw.nd (pi_range1 rfl B.range (pa_cons (pe_op op_add pe_int (pe_call C.draw.G hr1 rfl C.draw.m C.draw.k C.draw.b .nil pass0 (pa_cons (pv 2) (pa_cons pe_int pa_nil)))) pa_nil))
          (blkOk_by (own := [("_law_turn", 11)]) (N := ["_law_script", "_law_cell", "_law_source_here", "_law_many", "_law_places", "_law_pieces", "_law_k", "_law_total", "_law_lengths", "_law_due", "_law_beyond", "_law_turn"]) (sc := defScope sLaw) (by decide +kernel))
          (fun _ _ _ _ _ => pg_name (i := 11) scLaw.nd rfl (Or.inl rfl)) (fun _ _ _ _ _ => pts_nil) (fun _ _ _ _ _ => pe_op op_add pe_int (pe_call C.draw.G hr1 rfl C.draw.m C.draw.k C.draw.b .nil pass0 (pa_cons (pv 2) (pa_cons pe_int pa_nil))))) pa_nil))))
    (pss_cons (ps_set (i := 9) scLaw.nd rfl (.inl rfl) (pe_ifExp (pt_cmpR op_le (pe_callB (my_sum_tup rfl) (by rfl) B.sum (by decide +kernel) (pa_cons (pv 8) pa_nil)) (pv 3) (nomark _)) (pe_call C.ways.G hr2 rfl C.ways.m C.ways.k C.ways.b .nil pass0 (pa_cons (pv 3) (pa_cons (pv 8) pa_nil))) pe_int))
    (pss_cons (ps_if (pt_cmpR op_ne (pe_callB (my_repr_data rfl hu) (by rfl) B.repr (by decide +kernel) (pa_cons (pe_lst (pa_cons (pe_call C.rlc.G hr4 rfl C.rlc.m C.rlc.k C.rlc.b .nil passL (pa_cons (pv 3) (pa_cons (pv 8) pa_nil)))
        (pa_cons (my_callK0 C.rlc.G hr4 rfl C.rlc.m C.rlc.k C.rlcK passL (pk_cons (pv 8) (pk_cons (pv 3) pk_nil))) pa_nil))) pa_nil)) (pe_callB (my_repr_data rfl hu) (by rfl) B.repr (by decide +kernel) (pa_cons (pe_lst (pa_cons (pv 9) (pa_cons (pv 9) pa_nil))) pa_nil)) (nomark _)) (pss_one (ps_ret pe_bl)) pss_nil)
    (pss_cons (ps_set (i := 10) scLaw.nd rfl (.inl rfl) (pe_op op_catA (pv 8) (pe_tup (pa_cons (pe_op op_add (pe_callB (call_max2 rfl) (by rfl) B.max (by decide +kernel) (pa_cons (pv 3) (pa_cons (pe_ix ix_tup (pv 8) (pe_op op_sub (pe_callB call_len_seq (by rfl) B.len PySem.boot_len (pa_cons (pv 8) pa_nil)) pe_int) (fun _ _ => rfl)) pa_nil)))
        (pe_call C.draw.G hr1 rfl C.draw.m C.draw.k C.draw.b .nil pass0 (pa_cons (pv 2) (pa_cons (pe_op op_pow pe_int pe_int) pa_nil)))) pa_nil))))
    (pss_one (ps_if (PW.pt (pw_or (pt_cmpR op_ne (pe_call C.rlc.G hr4 rfl C.rlc.m C.rlc.k C.rlc.b .nil passL (pa_cons (pv 3) (pa_cons (pe_op my_rep_one (pe_tup (pa_cons pe_int pa_nil)) pe_int) pa_nil))) pe_int (nomark _))
        (pw_or (pt_cmpR op_ne (pe_call C.rlc.G hr4 rfl C.rlc.m C.rlc.k C.rlc.b .nil passL (pa_cons (pv 3) (pa_cons (pv 10) pa_nil))) pe_int (nomark _))
        (pw_or1 (pt_not (pt_val (pe_call C.refused.G hr6 rfl C.refused.m C.refused.k C.refused.b .nil pass0 (pa_cons (pv 2) (pa_cons (pv 3) (pa_cons (pv 8) pa_nil)))))))))) (pss_one (ps_ret pe_bl)) pss_nil))))))))))))
    (pss_one (ps_ret pe_bl)), ?_⟩
  -- the cells
  refine ⟨_, rfl, a, _, rfl, .inl hS, (by show 1 ≤ sizeLine; decide), fun p0 hp0 => ?_⟩
  have c1 := same_new hp0 (.lst [.int (((ns.map V.int).length : Nat) : Int)])
  refine ⟨_, rfl, 3, rfl, a, _, rfl, c1.seq hS, fun p1 hp1 => ?_⟩
  have hcl : (cutV (ns.map V.int) none (some 3)).length ≤ 1000 := Nat.le_trans (cutV_length _ _ _) (by rw [List.length_map]; omega)
  refine ⟨p0, p1, _, _, rfl, rfl, same_new hp1 _ _ _ upd_same, upd_same, Nat.le_of_lt (small1000 (by show 1 + _ ≤ 1000; have := cutV_length (ns.map V.int) none (some 3); rw [List.length_map] at this; omega)), fun L hL => ?_⟩
  refine ⟨L, rfl, ⟨_, SqL.of upd_same⟩, ?_⟩
  generalize hH1 : upd _ L _ = H1
  have eL : H1 L = some (.lst ([V.int (((ns.map V.int).length : Nat) : Int)] ++ cutV (ns.map V.int) none (some 3))) := by
    rw [← hH1]
    exact upd_same
  clear hH1 hL hp1 hcl c1 hp0
  refine for_list (K := K) (a := L) (xs := [V.int (((ns.map V.int).length : Nat) : Int)] ++ cutV (ns.map V.int) none (some 3))
    (fun i σ H' => ∃ y1 y2 y3 y4 y5 y6 y7 y8 y9 y10 y11, σ = [some (.ref a), y1, y2, y3, y4, y5, y6, y7, y8, y9, y10, y11] ∧ Same H1 H')
    ⟨none, none, none, none, none, none, none, none, none, none, none, rfl, Same.refl _⟩ (fun i σ H' _ ⟨_, _, _, _, _, _, _, _, _, _, _, _, s⟩ => SqL.of (s _ _ eL)) ?_ ?_
  rotate_left
  · rintro σ H' ⟨y1, y2, y3, y4, y5, y6, y7, y8, y9, y10, y11, rfl, sm⟩
    exact q H'
  rintro i x σ H2 hx ⟨y1, y2, y3, y4, y5, y6, y7, y8, y9, y10, y11, rfl, sm⟩
  obtain ⟨c, rfl⟩ := cell_int (List.mem_of_getElem? hx)
  -- the source, the number of places
  refine ⟨_, rfl, c, rfl, fun S d e hS0 d0 e0 e1 => ?_⟩
  have sS : SrcAt (upd H2 S (.lst [.int d, .int e, .int 0])) S 0 := ⟨d, e, 0, upd_same, d0, e0, e1, Int.le_refl _, Int.le_refl _⟩
  refine ⟨_, rfl, S, 10, 0, rfl, sS, by decide, by decide, by decide, fun v H3 v0 v1 s3 k3 => ⟨1, v, rfl, rfl, ?_⟩⟩
  have sm3 : Same H1 H3 := sm.trans (same_src hS0 k3)
  have S1 : H1 S = none := sm.free hS0
  clear k3 sS hS0 sm
  have h0 : 1 ≤ 1 + v := by omega
  have h1 : 1 + v ≤ 10 := by omega
  obtain ⟨kf, pf⟩ := num_factsI h0 h1
  refine ⟨_, rfl, 1 + v, rfl, h0, h1, fun H4 R s4 hR0 hR => ?_⟩
  refine ⟨(by show 1 ≤ sizeLine; decide), fun p0 hp0 => ?_⟩
  have c4 := s4.trans (same_new hp0 (.lst [.int 0]))
  refine ⟨_, rfl, 1 + v, 1, rfl, rfl, p0, 1 + v + 1, _, rfl, rfl, upd_same, by omega, by omega, Nat.le_of_lt (small1000 (by show 1 * (1 + v + 1).toNat ≤ 1000; omega)), fun PL hPL => ⟨_, _, rfl, ?_⟩⟩
  have e0' : (List.replicate (1 + v + 1).toNat [V.int 0]).flatten = (plK (1 + v) 0).map V.int := by
    rw [flat_rep]
    show _ = (List.replicate (1 + v + 1).toNat 0).map V.int
    rw [List.map_replicate]
  rw [e0']
  have SP : S ≠ PL := (src_ne (s3.same c4) hPL).symm
  have RP : R ≠ PL := ne_of_none (same_new hp0 _ _ _ hR) hPL
  have c5 := c4.trans (same_new hPL (.lst ((plK (1 + v) 0).map V.int)))
  have hR5 := same_new hPL (.lst ((plK (1 + v) 0).map V.int)) _ _ (same_new hp0 (.lst [.int 0]) _ _ hR)
  have s5 := s3.same c5
  have sm5 := sm3.trans c5
  have PL1 : H1 PL = none := sm3.free (c4.free hPL)
  generalize hH5 : upd _ PL _ = H5
  rw [hH5] at hR5 s5 sm5
  have hP5 : H5 PL = some (.lst ((plK (1 + v) 0).map V.int)) := by
    rw [← hH5]
    exact upd_same
  clear hH5 c5 hPL c4 hp0 hR hR0 s4 s3 sm3 e0'
  -- k by k
  refine ⟨_, rfl, 1 + v, 1, rfl, rfl, 1, 1 + v + 1, rfl, ⟨by omega, by omega, by omega, by omega⟩, for_range (lo := 1) (n := (1 + v + 1 - 1).toNat)
    (fun i σ H' => ∃ z6 z7 z8 z9, σ = [some (.ref a), some (.int c), some (.ref S), some (.int (1 + v)), some (.ref R), some (.ref PL), z6, z7, z8, z9, y10, y11] ∧ H' PL = some (.lst ((plK (1 + v) i).map V.int)) ∧ KeepBut PL H5 H')
    ⟨y6, y7, y8, y9, rfl, hP5, fun _ _ e _ => e⟩ ?_ ?_⟩
  · rintro i σ H6 hi ⟨z6, z7, z8, z9, rfl, hP6, kP6⟩
    have hi2 : (i : Int) < 1 + v := by omega
    have kk := kf i hi2
    -- all lengths with the sum k
    refine ⟨_, rfl, 1 + i, 1, rfl, by omega, by omega, by decide, by decide, fun H7 p as s7 hp0 hp hT => ?_⟩
    have hP7 := s7 _ _ hP6
    have pP : p ≠ PL := (ne_of_none hP6 hp0).symm
    have elas := hT.len
    refine ⟨p, rfl, ⟨_, SqL.of hp⟩, for_list (K := K) (a := p) (xs := as.map V.ref)
      (fun j σ H' => ∃ z8 z9, σ = [some (.ref a), some (.int c), some (.ref S), some (.int (1 + v)), some (.ref R), some (.ref PL), some (.int (1 + (i : Int))), some (.int ((((parts 11 (1 + i) 1).take j).map (lways (1 + v))).sum)), z8, z9, y10, y11] ∧
        H' PL = some (.lst ((addAll (1 + v) (plK (1 + v) i) ((parts 11 (1 + i) 1).take j)).map V.int)) ∧ KeepBut PL H7 H')
      ⟨z8, z9, rfl, hP7, fun _ _ e _ => e⟩ (fun j σ H' _ ⟨_, _, _, _, k⟩ => SqL.of (k _ _ hp pP)) ?_ ?_⟩
    · rintro j x σ H8 hx ⟨z8, z9, rfl, hP8, k8⟩
      obtain ⟨ax, hax, rfl⟩ := map_ref_get hx
      obtain ⟨ls, hls, hla⟩ := hT.get hax
      obtain ⟨pk1, pk2, pk3, pk4, pk5, pk6, pk7, pk8⟩ := kk.part ls (List.mem_of_getElem? hls)
      have hla8 := k8.ints hP7 hla
      refine ⟨_, rfl, _, rfl, 1 + v, ax, ls, rfl, h0, h1, hla8, pk2, pk3, fun H9 s9 => ?_⟩
      have hla9 := s9 _ _ hla8
      refine ⟨_, rfl, _, rfl, 1 + v, ax, ls, rfl, h0, h1, hla9, by omega, pk5, fun H10 s10 => ⟨_, rfl, (by rw [pk6]; exact log_small pk7 pk8), _, rfl, _, rfl, log_small pk7 pk8, rfl, _, rfl, iteNS (by rw [pk6]) ?_⟩⟩
      have hla10 := s10 _ _ hla9
      have hP10 := s10 _ _ (s9 _ _ hP8)
      have k10 : KeepBut PL H7 H10 := k8.trans (same_but (s9.trans s10) PL)
      have llen : ls.length < (addAll (1 + v) (plK (1 + v) i) ((parts 11 (1 + i) 1).take j)).length := by
        rw [addAll_len, plK_len]
        omega
      have gl : atI ((addAll (1 + v) (plK (1 + v) i) ((parts 11 (1 + i) 1).take j)).map V.int) (((ls.map V.int).length : Nat) : Int) = some (.int ((addAll (1 + v) (plK (1 + v) i) ((parts 11 (1 + i) 1).take j)).getD ls.length 0)) := by
        rw [List.length_map]
        exact atI_nat (map_get llen)
      have ixl : ixN ((addAll (1 + v) (plK (1 + v) i) ((parts 11 (1 + i) 1).take j)).map V.int).length (((ls.map V.int).length : Nat) : Int) = some ls.length := by
        rw [List.length_map, List.length_map]
        exact ixN_nat llen (by rw [addAll_len, plK_len]; omega)
      refine ⟨_, rfl, _, rfl, _, _, rfl, rfl, ?_⟩
      refine ⟨_, rfl, _, rfl, ax, _, rfl, .inr (SqT.of hla10), PL, _, _, _, rfl, rfl, SqL.of hP10, gl, _, rfl, _, _, rfl, rfl, ?_⟩
      refine ⟨_, rfl, _, rfl, ax, _, rfl, .inr (SqT.of hla10), PL, _, _, _, rfl, rfl, hP10, ixl, some (.ref ax), some (.int (lways (1 + v) ls)), ?_, ?_, ?_⟩
      · rw [take_sum_more hls]
        rfl
      · rw [upd_same, map_set, addAll_more hls]
        rfl
      · exact k10.trans (keep_upd PL _)
    · rintro σ H8 ⟨z8, z9, rfl, hP8, k8⟩
      have etk : (parts 11 (1 + i) 1).take (as.map V.ref).length = parts 11 (1 + i) 1 := by
        rw [List.length_map, elas, List.take_length]
      rw [etk] at hP8 ⊢
      have hR8 := k8 _ _ (s7 _ _ (kP6 _ _ hR5 RP)) RP
      have rl : (1 + i) < (rpc (1 + v)).length := by
        rw [rpc_len]
        omega
      have gl : atI ((rpc (1 + v)).map V.int) (1 + (i : Int)) = some (.int ((rpc (1 + v)).getD (1 + i) 0)) := by
        rw [show (1 + (i : Int)) = ((1 + i : Nat) : Int) by omega]
        exact atI_nat (map_get rl)
      refine ⟨_, rfl, _, rfl, _, rfl, R, _, _, _, rfl, rfl, SqL.of hR8, gl, rfl, _, rfl, iteNS (by rw [kk.sum]) ?_⟩
      refine ⟨_, rfl, (by show 1 ≤ sizeLine; decide), fun p1 hp1 => ⟨_, rfl, rep_any upd_same (by omega) (by omega) fun z H9 s9 hz => ?_⟩⟩
      have c9 := (same_new hp1 (.tup [.int 1])).trans s9
      have e1 : (1 + (i : Int)).toNat = 1 + i := by omega
      rw [e1] at hz
      refine ⟨1 + v, z, List.replicate (1 + i) 1, rfl, h0, h1, hz, by rw [List.length_replicate]; omega, ones_ok _ (by omega), fun H10 s10 => ?_⟩
      refine ⟨_, rfl, _, rfl, 1 + v, 1 + (i : Int), rfl, ⟨by omega, by omega⟩, by omega, by omega, ?_⟩
      refine ⟨_, rfl, _, rfl, _, rfl, RgOk.of_le (by omega) (by omega) (by omega) (by omega), fun t ht => ?_⟩
      have e2 : rgV 0 (1 + (i : Int)) = (rng (1 + i)).map V.int := by
        rw [rg_rng, e1]
      rw [e2]
      have k11 : KeepBut PL H5 (upd H10 t (.tup ((rng (1 + i)).map V.int))) := (kP6.trans (same_but s7 PL)).trans (k8.trans (same_but (c9.trans (s10.trans (same_new ht _))) PL))
      have hP11 := (c9.trans (s10.trans (same_new ht (.tup ((rng (1 + i)).map V.int))))) _ _ hP8
      refine ⟨1 + v, t, 1 + i, rfl, h0, h1, by omega, by omega, upd_same, fun H12 s12 => ?_⟩
      refine ⟨_, _, rfl, rfl, .inl (by rw [e1]; exact kk.small), rfl, _, rfl, iteNS (by rw [kk.ones, e1]) ?_⟩
      exact ⟨_, _, _, _, rfl, s12 _ _ hP11, k11.trans (same_but s12 PL)⟩
  · rintro σ H6 ⟨z6, z7, z8, z9, rfl, hP6, kP6⟩
    have s6 := s5.keepP kP6 SP
    have ev1 : (1 + v + 1 - 1).toNat = (1 + v).toNat := by omega
    rw [ev1, pf] at hP6
    have pd := pieces_data h0 h1
    refine ⟨_, rfl, _, rfl, 1 + v, rfl, h0, h1, fun H7 p s7 hp0 hp => ⟨_, _, Dp.lst (SqL.of (s7 _ _ hP6)) (dp_ints _), Dp.lst (SqL.of hp) (dp_ints _), pd, pd, _, rfl, ?_⟩⟩
    rw [data_refl pd]
    refine iteF ?_
    have sm7 : KeepBut PL H5 H7 := kP6.trans (same_but s7 PL)
    have s7' := s6.same s7
    clear hp hp0 hP6 s6 kP6 pd s7
    -- the drawn lengths
    refine ⟨_, rfl, S, 6, _, rfl, s7', by omega, by decide, by decide, fun u H8 u0 u1 s8 k8 => ⟨1, u, rfl, rfl, 1 + u, rfl, by omega, by omega, fun D hD => ?_⟩⟩
    have DS : D ≠ S := src_ne s8 hD
    have hD7 : H7 D = none := by
      cases h : H7 D with
      | none => rfl
      | some o => exact absurd ((k8 D o h DS).symm.trans hD) (fun z => nomatch z)
    refine lc_range (lo := 0) (n := (1 + u).toNat) (fun i H' => ∃ ms : List Int, H' D = some (.lst (ms.map V.int)) ∧ ms.length = i ∧ (∀ x ∈ ms, 1 ≤ x ∧ x ≤ 5) ∧ SrcAt H' S (2 + i) ∧ KeepBut S H7 H') ?_ ?_ ?_
    · refine ⟨[], upd_same, rfl, (fun x hx => nomatch hx), (s8.same (same_new hD _)).mono (by omega), k8.trans (same_but (same_new hD _) S)⟩
    · rintro i H' hi ⟨ms, hl, ml, mx, ms0, mk⟩
      refine ⟨rfl, ?_⟩
      refine ⟨_, rfl, S, 5, _, rfl, ms0, by omega, by decide, by decide, fun x H9 x0 x1 s9 k9 => ⟨1, x, rfl, rfl, _, k9 _ _ hl DS, ?_, ms ++ [1 + x], ?_, ?_, ?_, ?_, ?_⟩⟩
      · rw [List.length_map, sizeLine_eq]
        omega
      · rw [upd_same, List.map_append]
        rfl
      · rw [List.length_append, ml]
        rfl
      · intro y hy
        rcases List.mem_append.mp hy with z | z
        · exact mx y z
        · obtain rfl := List.mem_singleton.mp z
          exact ⟨by omega, by omega⟩
      · obtain ⟨x1, y1, t1, e1, r1⟩ := s9
        exact SrcAt.mono ⟨x1, y1, t1, by rw [upd_ne DS.symm]; exact e1, r1⟩ (by omega)
      · intro b o e hb
        have hbD : b ≠ D := ne_of_none e hD7
        rw [upd_ne hbD]
        exact k9 _ _ (mk _ _ e hb) hb
    rintro H9 ⟨ms, hl, ml, mx, ms0, mk⟩
    refine ⟨D, ms, rfl, SqL.of hl, fun ls p hperm hpw hp0 => .inl ⟨p, _, rfl, SqL.of upd_same, fun T hT0 => ?_⟩⟩
    have hlen : ls.length = (1 + u).toNat := hperm.length_eq.trans ml
    have hx : ∀ x ∈ ls, 1 ≤ x ∧ x ≤ 5 := fun x hx => mx x (hperm.mem_iff.mp hx)
    have hL : LensOk ls := ⟨fun e => by
      rw [e] at hlen
      have z : 0 = (1 + u).toNat := hlen
      omega, fun x h => (hx x h).1, fun x h => (hx x h).2, hpw, by omega⟩
    have s10 := ((ms0.same (same_new hp0 (.lst (ls.map V.int)))).same (same_new hT0 (.tup (ls.map V.int)))).mono (k := 9) (by omega)
    have k10 := mk.trans (same_but ((same_new hp0 (.lst (ls.map V.int))).trans (same_new hT0 (.tup (ls.map V.int)))) S)
    generalize hH10 : upd _ T _ = H10
    rw [hH10] at s10 k10
    have hT : H10 T = some (.tup (ls.map V.int)) := by
      rw [← hH10]
      exact upd_same
    clear hH10 hT0 hp0 hperm hl ms0 mk mx ml s8 hD hD7 DS k8
    obtain ⟨df1, df2, df3⟩ := drawn_factsI h0 h1 (by omega) (by omega) hpw hx
    have lensok := lens_of_sorted hL.ne hL.ge hL.asc
    -- what is due
    refine ⟨_, rfl, T, ls, rfl, SqT.of hT, _, rfl, _, _, rfl, rfl, _, rfl, due_if ?_ (fun H11 s11 => ?_)⟩
    · intro hsum qq
      exact ⟨_, rfl, _, rfl, 1 + v, T, ls, rfl, h0, h1, hT, hL.ge, hsum, qq⟩
    have hT11 := s11 _ _ hT
    refine ⟨_, rfl, _, rfl, 1 + v, T, ls, rfl, h0, h1, hT11, by omega, lensok, fun H12 s12 => ?_⟩
    rw [df1]
    have hT12 := s12 _ _ hT11
    refine ⟨_, rfl, _, rfl, 1 + v, T, ls, rfl, h0, h1, hT12, by omega, lensok, fun H13 s13 => ?_⟩
    rw [df1]
    have hT13 := s13 _ _ hT12
    have dl := log_small df2 df3
    refine ⟨(by show 2 ≤ sizeLine; decide), fun D1 hD1 => ⟨D1, _, rfl, .lst (SqL.of upd_same) (.cons (.int _) (.cons (.int _) .nil)), two_show dl dl, rfl, (by show 1 ≤ 60; decide), two_len dl dl, ?_⟩⟩
    refine ⟨_, rfl, _, rfl, (by show 2 ≤ sizeLine; decide), fun D2 hD2 => ⟨D2, _, rfl, .lst (SqL.of upd_same) (.cons (.int _) (.cons (.int _) .nil)), two_show dl dl, rfl, (by show 1 ≤ 60; decide), two_len dl dl, ?_⟩⟩
    refine ⟨rfl, _, rfl, iteNS rfl ?_⟩
    have s14 := (s11.trans (s12.trans s13)).trans ((same_new hD1 (.lst [.int (due (1 + v) ls), .int (due (1 + v) ls)])).trans (same_new hD2 (.lst [.int (due (1 + v) ls), .int (due (1 + v) ls)])))
    generalize hH14 : upd _ D2 _ = H14
    rw [hH14] at s14
    clear hH14 hD1 hD2 hT13 hT12 hT11 s13 s12 s11
    have hT14 := s14 _ _ hT
    have k14 : KeepBut S H7 H14 := k10.trans (same_but s14 S)
    have s14' := s10.same s14
    clear k10 s10 hT df1 df2 df3 s14
    -- lengths that go beyond
    have hpos : 0 < ls.length := List.length_pos_iff.mpr hL.ne
    have gl : atI (ls.map V.int) ((((ls.map V.int).length : Nat) : Int) - 1) = some (.int (ls.getD (ls.length - 1) 0)) := by
      rw [List.length_map, show ((ls.length : Nat) : Int) - 1 = ((ls.length - 1 : Nat) : Int) by omega]
      exact atI_nat (map_get (by omega))
    refine ⟨_, rfl, _, rfl, _, rfl, _, rfl, T, _, rfl, .inr (SqT.of hT14), _, 1, rfl, rfl, T, _, _, _, rfl, rfl, SqT.of hT14, gl, 1 + v, _, rfl, ?_⟩
    refine ⟨_, rfl, 10, 6, rfl, rfl, ⟨by decide, by decide, by decide⟩, S, _, 9, rfl, s14', by decide, by decide +kernel, by decide +kernel, fun y H15 y0 y1 s15 k15 => ⟨_, y, rfl, rfl, (by show 1 ≤ sizeLine; decide), fun B hB => ?_⟩⟩
    have hM : ∃ M : Int, (if ls.getD (ls.length - 1) 0 > 1 + v then ls.getD (ls.length - 1) 0 else 1 + v) = M ∧ 1 + v ≤ M ∧ ls.getD (ls.length - 1) 0 ≤ M := by
      by_cases h : ls.getD (ls.length - 1) 0 > 1 + v
      · rw [if_pos h]
        exact ⟨_, rfl, by omega, Int.le_refl _⟩
      · rw [if_neg h]
        exact ⟨_, rfl, Int.le_refl _, by omega⟩
    obtain ⟨M, eM, M1, M2⟩ := hM
    rw [eM]
    have hT15 := k15.tup s14' hT14
    refine cat_any (same_new hB _ _ _ hT15) upd_same (by rw [List.length_map]; show ls.length + 1 ≤ 5000; omega) fun Z H16 s16 hZ => ?_
    have t16 : Same H15 H16 := (same_new hB _).trans s16
    have hZ' : H16 Z = some (.tup ((ls ++ [M + y]).map V.int)) := by
      rw [List.map_append]
      exact hZ
    have hT16 := t16 _ _ hT15
    have s16' := s15.same t16
    have k16 : KeepBut S H7 H16 := (k14.trans k15).trans (same_but t16 S)
    clear hZ s16 hB t16 hT15 s15 k15 s14' hT14 k14 gl eM
    have okB : lensB ((ls ++ [M + y]).map V.int) = true := by
      refine lens_of_sorted (fun e => ?_) (fun x hx' => ?_) (List.pairwise_append.mpr ⟨hpw, List.pairwise_singleton _ _, fun x hx' z hz => ?_⟩)
      · have z := congrArg List.length e
        rw [List.length_append] at z
        have z2 : ls.length + 1 = 0 := z
        omega
      · rcases List.mem_append.mp hx' with z | z
        · exact (hx x z).1
        · obtain rfl := List.mem_singleton.mp z
          omega
      · obtain rfl := List.mem_singleton.mp hz
        have z2 := le_last hpw hx'
        omega
    have farB : 1 + v < (ls ++ [M + y]).sum := by
      have z := sum_ge_last (z := M + y) hL.ge
      omega
    have lenB : (ls ++ [M + y]).length ≤ 5000 := by
      rw [List.length_append]
      show ls.length + 1 ≤ 5000
      omega
    have farO : 1 + v < (List.replicate (2900 : Int).toNat (1 : Int)).sum := by
      rw [sum_rep]
      show 1 + v < ((2900 : Nat) : Int)
      omega
    refine ⟨_, rfl, (by show 1 ≤ sizeLine; decide), fun p1 hp1 => ⟨p1, 2900, .int 1, rfl, rfl, SqT.of upd_same, by decide, by decide, fun e => absurd e (by decide), fun _ z hz0 => ?_⟩⟩
    have t17 := (same_new hp1 (.tup [.int 1])).trans (same_new hz0 (.tup (List.replicate (2900 : Int).toNat (.int 1))))
    refine ⟨1 + v, z, List.replicate (2900 : Int).toNat 1, rfl, h0, h1, by rw [List.map_replicate]; exact upd_same, by rw [List.length_replicate]; decide, ones_ok _ (by decide), fun H18 s18 => ⟨rfl, _, rfl, iteNS (by rw [rlc_far farO]) ?_⟩⟩
    have t18 := t17.trans s18
    refine ⟨_, rfl, _, rfl, 1 + v, Z, ls ++ [M + y], rfl, h0, h1, t18 _ _ hZ', lenB, okB, fun H19 s19 => ⟨rfl, _, rfl, iteNS (by rw [rlc_far farB]) ?_⟩⟩
    have t19 := t18.trans s19
    refine ⟨_, rfl, _, rfl, _, rfl, S, T, 1 + v, 10, ls, rfl, s16'.same t19, by decide, h0, h1, hL, t19 _ _ hT16, fun H20 s20 k20 => ⟨true, rfl, ?_⟩⟩
    refine ⟨_, _, _, _, _, _, _, _, _, _, _, rfl, fun b o e => ?_⟩
    have hb1 : b ≠ PL := ne_of_none e PL1
    have hb2 : b ≠ S := ne_of_none e S1
    exact k20 _ _ (t19 _ _ (k16 _ _ (sm7 _ _ (sm5 _ _ e) hb1) hb2)) hb2
end
end RLX

namespace RLX
open PySem PySem.Spec PyProof.Rows L2 RL
/-- partings with no call left: nothing can be asked -/
theorem parts_none {P : Program} {w : World} {K : PySem.W.Frag} {mg : Str → Option Value} {base : Heap} {f : Addr} {fd : FuncData} : FnOk P w K mg base CX0 0 f fd ["_law_total", "_law_least"] (spParts 0) := by
  have no : ∀ vs H Q E, ¬ spParts 0 vs H Q E := fun vs H Q E h => by
    obtain ⟨t, l, _, h0, _⟩ := h
    exact absurd h0 (Nat.not_lt_zero _)
  exact ⟨fun vs H Q E h => absurd h (no vs H Q E), fun A outer s H args us vs Q E _ _ _ _ h => absurd h (no vs H Q E)⟩
theorem parts_all {P : Program} {w : World} {K : PySem.W.Frag} {mg : Str → Option Value} {base : Heap} {f : Addr} {fd : FuncData} (F : Fun K "_law_partings" "_law_partings" sPartings f fd) (mr : mg "range" = none)
    (bG : Binds K fd ["_law_total", "_law_least"] []) (mG : mg "_law_partings" = some (.ref f)) : ∀ n : Nat, n ≤ 12 → FnOk P w K mg base CX0 n f fd ["_law_total", "_law_least"] (spParts n)
  | 0, _ => parts_none
  | n + 1, hn => ok_parts F mr (by omega) (parts_all F mr bG mG n (by omega)) bG mG
/-- what the written part of the heap says, all together -/
theorem all_mk {l : PySem.W.OpenLaw} {w : World} {K : PySem.W.Frag} {h : Heap} {mg : Str → Option Value} {fa CC CL CN f1 f2 f3 f4 f5 f6 f7 f8 f9 f10 f11 f12 f13 f14 f15 f16 f17 f18 f19 f20 f21 f22 f23 f24 f25 f26 : Addr} (X : K.In h) (G : h.Ns mainGlobals mg) (hfa : mg "law" = some (.ref fa))
    {od1 an1 od2 an2 od3 an3 od4 an4 od5 an5 od6 an6 od7 an7 od8 an8 od9 an9 od10 an10 od11 an11 od12 an12 od13 an13 od14 an14 od15 an15 od16 an16 od17 an17 od18 an18 od19 an19 od20 an20 od21 an21 od22 an22 od23 an23 od24 an24 od25 an25 od26 an26 : Option Addr} {sl1 sl2 sl3 sl4 sl5 sl6 sl7 sl8 sl9 sl10 sl11 sl12 sl13 sl14 sl15 sl16 sl17 sl18 sl19 sl20 sl21 sl22 sl23 sl24 sl25 sl26 : Array (Option Value)} {oc1 kV1 dc1 pm1 cd1 ct1 oc2 kV2 dc2 pm2 cd2 ct2 oc3 kV3 dc3 pm3 cd3 ct3 oc4 kV4 dc4 pm4 cd4 ct4 oc5 kV5 dc5 pm5 cd5 ct5 oc6 kV6 dc6 pm6 cd6 ct6 oc7 kV7 dc7 pm7 cd7 ct7 oc8 kV8 dc8 pm8 cd8 ct8 oc9 kV9 dc9 pm9 cd9 ct9 oc10 kV10 dc10 pm10 cd10 ct10 oc11 kV11 dc11 pm11 cd11 ct11 oc12 kV12 dc12 pm12 cd12 ct12 oc13 kV13 dc13 pm13 cd13 ct13 oc14 kV14 dc14 pm14 cd14 ct14 oc15 kV15 dc15 pm15 cd15 ct15 oc16 kV16 dc16 pm16 cd16 ct16 oc17 kV17 dc17 pm17 cd17 ct17 oc18 kV18 dc18 pm18 cd18 ct18 oc19 kV19 dc19 pm19 cd19 ct19 oc20 kV20 dc20 pm20 cd20 ct20 oc21 kV21 dc21 pm21 cd21 ct21 oc22 kV22 dc22 pm22 cd22 ct22 oc23 kV23 dc23 pm23 cd23 ct23 oc24 kV24 dc24 pm24 cd24 ct24 oc25 kV25 dc25 pm25 cd25 ct25 oc26 kV26 dc26 pm26 cd26 ct26 : Value} {tk : Tok}
    (a1 : PySem.W.nsIn K mainGlobals "is_integer" = some (some (.ref f1))) (l1 : K.lookup f1 = some ⟨oc1, od1, .func (PySem.W.fnOf "is_integer" "is_integer" (defArgs sIsInteger) (defBody sIsInteger) (defScope sIsInteger) .none kV1 dc1 pm1 an1 cd1 ct1), sl1⟩) (c1 : PySem.W.codeIn K cd1 "is_integer" = true) (k1 : PySem.W.keepIn K (.ref f1) = true)
    (a2 : PySem.W.nsIn K mainGlobals "is_from" = some (some (.ref f2))) (l2 : K.lookup f2 = some ⟨oc2, od2, .func (PySem.W.fnOf "is_from" "is_from" (defArgs sIsFrom) (defBody sIsFrom) (defScope sIsFrom) .none kV2 dc2 pm2 an2 cd2 ct2), sl2⟩) (c2 : PySem.W.codeIn K cd2 "is_from" = true) (k2 : PySem.W.keepIn K (.ref f2) = true)
    (a3 : PySem.W.nsIn K mainGlobals "is_between" = some (some (.ref f3))) (l3 : K.lookup f3 = some ⟨oc3, od3, .func (PySem.W.fnOf "is_between" "is_between" (defArgs sIsBetween) (defBody sIsBetween) (defScope sIsBetween) .none kV3 dc3 pm3 an3 cd3 ct3), sl3⟩) (c3 : PySem.W.codeIn K cd3 "is_between" = true) (k3 : PySem.W.keepIn K (.ref f3) = true)
    (a4 : PySem.W.nsIn K mainGlobals "is_lot_of" = some (some (.ref f4))) (l4 : K.lookup f4 = some ⟨oc4, od4, .func (PySem.W.fnOf "is_lot_of" "is_lot_of" (defArgs sIsLotOf) (defBody sIsLotOf) (defScope sIsLotOf) .none kV4 dc4 pm4 an4 cd4 ct4), sl4⟩) (c4 : PySem.W.codeIn K cd4 "is_lot_of" = true) (k4 : PySem.W.keepIn K (.ref f4) = true)
    (a5 : PySem.W.nsIn K mainGlobals "check_many" = some (some (.ref f5))) (l5 : K.lookup f5 = some ⟨oc5, od5, .func (PySem.W.fnOf "check_many" "check_many" (defArgs sCheckMany) (defBody sCheckMany) (defScope sCheckMany) .none kV5 dc5 pm5 an5 cd5 ct5), sl5⟩) (c5 : PySem.W.codeIn K cd5 "check_many" = true) (k5 : PySem.W.keepIn K (.ref f5) = true)
    (a6 : PySem.W.nsIn K mainGlobals "times_itself" = some (some (.ref f6))) (l6 : K.lookup f6 = some ⟨oc6, od6, .func (PySem.W.fnOf "times_itself" "times_itself" (defArgs sTimesItself) (defBody sTimesItself) (defScope sTimesItself) .none kV6 dc6 pm6 an6 cd6 ct6), sl6⟩) (c6 : PySem.W.codeIn K cd6 "times_itself" = true) (k6 : PySem.W.keepIn K (.ref f6) = true)
    (a7 : PySem.W.nsIn K mainGlobals "check_roots" = some (some (.ref f7))) (l7 : K.lookup f7 = some ⟨oc7, od7, .func (PySem.W.fnOf "check_roots" "check_roots" (defArgs sCheckRoots) (defBody sCheckRoots) (defScope sCheckRoots) .none kV7 dc7 pm7 an7 cd7 ct7), sl7⟩) (c7 : PySem.W.codeIn K cd7 "check_roots" = true) (k7 : PySem.W.keepIn K (.ref f7) = true)
    (a8 : PySem.W.nsIn K mainGlobals "forests_on" = some (some (.ref f8))) (l8 : K.lookup f8 = some ⟨oc8, od8, .func (PySem.W.fnOf "forests_on" "forests_on" (defArgs sForestsOn) (defBody sForestsOn) (defScope sForestsOn) .none kV8 dc8 pm8 an8 cd8 ct8), sl8⟩) (c8 : PySem.W.codeIn K cd8 "forests_on" = true) (k8 : PySem.W.keepIn K (.ref f8) = true)
    (a9 : PySem.W.nsIn K mainGlobals "forest_count" = some (some (.ref f9))) (l9 : K.lookup f9 = some ⟨oc9, od9, .func (PySem.W.fnOf "forest_count" "forest_count" (defArgs sForestCount) (defBody sForestCount) (defScope sForestCount) .none kV9 dc9 pm9 an9 cd9 ct9), sl9⟩) (c9 : PySem.W.codeIn K cd9 "forest_count" = true) (k9 : PySem.W.keepIn K (.ref f9) = true)
    (a10 : PySem.W.nsIn K mainGlobals "ring_ways" = some (some (.ref f10))) (l10 : K.lookup f10 = some ⟨oc10, od10, .func (PySem.W.fnOf "ring_ways" "ring_ways" (defArgs sRingWays) (defBody sRingWays) (defScope sRingWays) .none kV10 dc10 pm10 an10 cd10 ct10), sl10⟩) (c10 : PySem.W.codeIn K cd10 "ring_ways" = true) (k10 : PySem.W.keepIn K (.ref f10) = true)
    (a11 : PySem.W.nsIn K mainGlobals "ring_place_counts" = some (some (.ref f11))) (l11 : K.lookup f11 = some ⟨oc11, od11, .func (PySem.W.fnOf "ring_place_counts" "ring_place_counts" (defArgs sRingPlaceCounts) (defBody sRingPlaceCounts) (defScope sRingPlaceCounts) .none kV11 dc11 pm11 an11 cd11 ct11), sl11⟩) (c11 : PySem.W.codeIn K cd11 "ring_place_counts" = true) (k11 : PySem.W.keepIn K (.ref f11) = true)
    (a12 : PySem.W.nsIn K mainGlobals "rows_in_rings" = some (some (.ref f12))) (l12 : K.lookup f12 = some ⟨oc12, od12, .func (PySem.W.fnOf "rows_in_rings" "rows_in_rings" (defArgs sRowsInRings) (defBody sRowsInRings) (defScope sRowsInRings) .none kV12 dc12 pm12 an12 cd12 ct12), sl12⟩) (c12 : PySem.W.codeIn K cd12 "rows_in_rings" = true) (k12 : PySem.W.keepIn K (.ref f12) = true)
    (a13 : PySem.W.nsIn K mainGlobals "piece_counts" = some (some (.ref f13))) (l13 : K.lookup f13 = some ⟨oc13, od13, .func (PySem.W.fnOf "piece_counts" "piece_counts" (defArgs sPieceCounts) (defBody sPieceCounts) (defScope sPieceCounts) .none kV13 dc13 pm13 an13 cd13 ct13), sl13⟩) (c13 : PySem.W.codeIn K cd13 "piece_counts" = true) (k13 : PySem.W.keepIn K (.ref f13) = true)
    (a14 : PySem.W.nsIn K mainGlobals "check_lengths" = some (some (.ref f14))) (l14 : K.lookup f14 = some ⟨oc14, od14, .func (PySem.W.fnOf "check_lengths" "check_lengths" (defArgs sCheckLengths) (defBody sCheckLengths) (defScope sCheckLengths) .none kV14 dc14 pm14 an14 cd14 ct14), sl14⟩) (c14 : PySem.W.codeIn K cd14 "check_lengths" = true) (k14 : PySem.W.keepIn K (.ref f14) = true)
    (a15 : PySem.W.nsIn K mainGlobals "ring_length_count" = some (some (.ref f15))) (l15 : K.lookup f15 = some ⟨oc15, od15, .func (PySem.W.fnOf "ring_length_count" "ring_length_count" (defArgs sRingLengthCount) (defBody sRingLengthCount) (defScope sRingLengthCount) .none kV15 dc15 pm15 an15 cd15 ct15), sl15⟩) (c15 : PySem.W.codeIn K cd15 "ring_length_count" = true) (k15 : PySem.W.keepIn K (.ref f15) = true)
    (a16 : PySem.W.nsIn K mainGlobals "_law_source" = some (some (.ref f16))) (l16 : K.lookup f16 = some ⟨oc16, od16, .func (PySem.W.fnOf "_law_source" "_law_source" (defArgs sSource) (defBody sSource) (defScope sSource) .none kV16 dc16 pm16 an16 cd16 ct16), sl16⟩) (c16 : PySem.W.codeIn K cd16 "_law_source" = true) (k16 : PySem.W.keepIn K (.ref f16) = true)
    (a17 : PySem.W.nsIn K mainGlobals "_law_draw" = some (some (.ref f17))) (l17 : K.lookup f17 = some ⟨oc17, od17, .func (PySem.W.fnOf "_law_draw" "_law_draw" (defArgs sDraw) (defBody sDraw) (defScope sDraw) .none kV17 dc17 pm17 an17 cd17 ct17), sl17⟩) (c17 : PySem.W.codeIn K cd17 "_law_draw" = true) (k17 : PySem.W.keepIn K (.ref f17) = true)
    (a18 : PySem.W.nsIn K mainGlobals "_law_choose" = some (some (.ref f18))) (l18 : K.lookup f18 = some ⟨oc18, od18, .func (PySem.W.fnOf "_law_choose" "_law_choose" (defArgs sChoose) (defBody sChoose) (defScope sChoose) .none kV18 dc18 pm18 an18 cd18 ct18), sl18⟩) (c18 : PySem.W.codeIn K cd18 "_law_choose" = true) (k18 : PySem.W.keepIn K (.ref f18) = true)
    (a19 : PySem.W.nsIn K mainGlobals "_law_times" = some (some (.ref f19))) (l19 : K.lookup f19 = some ⟨oc19, od19, .func (PySem.W.fnOf "_law_times" "_law_times" (defArgs sTimes) (defBody sTimes) (defScope sTimes) .none kV19 dc19 pm19 an19 cd19 ct19), sl19⟩) (c19 : PySem.W.codeIn K cd19 "_law_times" = true) (k19 : PySem.W.keepIn K (.ref f19) = true)
    (a20 : PySem.W.nsIn K mainGlobals "_law_down" = some (some (.ref f20))) (l20 : K.lookup f20 = some ⟨oc20, od20, .func (PySem.W.fnOf "_law_down" "_law_down" (defArgs sDown) (defBody sDown) (defScope sDown) .none kV20 dc20 pm20 an20 cd20 ct20), sl20⟩) (c20 : PySem.W.codeIn K cd20 "_law_down" = true) (k20 : PySem.W.keepIn K (.ref f20) = true)
    (a21 : PySem.W.nsIn K mainGlobals "_law_bad_many" = some (some (.ref f21))) (l21 : K.lookup f21 = some ⟨oc21, od21, .func (PySem.W.fnOf "_law_bad_many" "_law_bad_many" (defArgs sBadMany) (defBody sBadMany) (defScope sBadMany) .none kV21 dc21 pm21 an21 cd21 ct21), sl21⟩) (c21 : PySem.W.codeIn K cd21 "_law_bad_many" = true) (k21 : PySem.W.keepIn K (.ref f21) = true)
    (a22 : PySem.W.nsIn K mainGlobals "_law_partings" = some (some (.ref f22))) (l22 : K.lookup f22 = some ⟨oc22, od22, .func (PySem.W.fnOf "_law_partings" "_law_partings" (defArgs sPartings) (defBody sPartings) (defScope sPartings) .none kV22 dc22 pm22 an22 cd22 ct22), sl22⟩) (c22 : PySem.W.codeIn K cd22 "_law_partings" = true) (k22 : PySem.W.keepIn K (.ref f22) = true)
    (a23 : PySem.W.nsIn K mainGlobals "_law_ways" = some (some (.ref f23))) (l23 : K.lookup f23 = some ⟨oc23, od23, .func (PySem.W.fnOf "_law_ways" "_law_ways" (defArgs sWays) (defBody sWays) (defScope sWays) .none kV23 dc23 pm23 an23 cd23 ct23), sl23⟩) (c23 : PySem.W.codeIn K cd23 "_law_ways" = true) (k23 : PySem.W.keepIn K (.ref f23) = true)
    (a24 : PySem.W.nsIn K mainGlobals "_law_told" = some (some (.ref f24))) (l24 : K.lookup f24 = some ⟨oc24, od24, .func (PySem.W.fnOf "_law_told" "_law_told" (defArgs sTold) (defBody sTold) (defScope sTold) .none kV24 dc24 pm24 an24 cd24 ct24), sl24⟩) (c24 : PySem.W.codeIn K cd24 "_law_told" = true) (k24 : PySem.W.keepIn K (.ref f24) = true)
    (a25 : PySem.W.nsIn K mainGlobals "_law_refused_right" = some (some (.ref f25))) (l25 : K.lookup f25 = some ⟨oc25, od25, .func (PySem.W.fnOf "_law_refused_right" "_law_refused_right" (defArgs sRefused) (defBody sRefused) (defScope sRefused) .none kV25 dc25 pm25 an25 cd25 ct25), sl25⟩) (c25 : PySem.W.codeIn K cd25 "_law_refused_right" = true) (k25 : PySem.W.keepIn K (.ref f25) = true)
    (a26 : PySem.W.nsIn K mainGlobals "law" = some (some (.ref f26))) (l26 : K.lookup f26 = some ⟨oc26, od26, .func (PySem.W.fnOf "law" "law" (defArgs sLaw) (defBody sLaw) (defScope sLaw) .none kV26 dc26 pm26 an26 cd26 ct26), sl26⟩) (c26 : PySem.W.codeIn K cd26 "law" = true) (k26 : PySem.W.keepIn K (.ref f26) = true)
    (z0 : PySem.W.nsIn K mainGlobals "len" = some none)
    (z1 : PySem.W.nsIn K mainGlobals "range" = some none)
    (z2 : PySem.W.nsIn K mainGlobals "repr" = some none)
    (z3 : PySem.W.nsIn K mainGlobals "tuple" = some none)
    (z4 : PySem.W.nsIn K mainGlobals "sorted" = some none)
    (z5 : PySem.W.nsIn K mainGlobals "sum" = some none)
    (z6 : PySem.W.nsIn K mainGlobals "max" = some none)
    (z7 : PySem.W.nsIn K mainGlobals "isinstance" = some none)
    (z8 : PySem.W.nsIn K mainGlobals "int" = some none)
    (z9 : PySem.W.nsIn K mainGlobals "bool" = some none)
    (z10 : PySem.W.nsIn K mainGlobals "all" = some none)
    (z11 : PySem.W.nsIn K mainGlobals "enumerate" = some none)
    (z12 : PySem.W.nsIn K mainGlobals "list" = some none)
    (mc : PySem.W.nsIn K mainGlobals "comb" = some (some (.builtin "math.comb"))) (mf : PySem.W.nsIn K mainGlobals "factorial" = some (some (.builtin "math.factorial"))) (mm : PySem.W.nsIn K mainGlobals "MOST_PLACES" = some (some (.int 10 tk)))
    (gCC : PySem.W.nsIn K mainGlobals "InvalidCount" = some (some (.ref CC))) (xCC : PySem.W.excIn K CC veBases "ValueError.__new__" = true) (kCC : PySem.W.keepIn K (.ref CC) = true) (bCC : PySem.W.subIn K (.ref CC) (.type "BaseException") = some true) (tCC : PySem.W.typeIn K (.ref CC) = some (.type "type")) (hCC : PySem.W.hasDictIn K CC = true)
    (gCL : PySem.W.nsIn K mainGlobals "InvalidLengths" = some (some (.ref CL))) (xCL : PySem.W.excIn K CL veBases "ValueError.__new__" = true) (kCL : PySem.W.keepIn K (.ref CL) = true) (bCL : PySem.W.subIn K (.ref CL) (.type "BaseException") = some true) (tCL : PySem.W.typeIn K (.ref CL) = some (.type "type")) (hCL : PySem.W.hasDictIn K CL = true)
    (gCN : PySem.W.nsIn K mainGlobals "NextError" = some (some (.ref CN)))
    (s1 : PySem.W.subIn K (.ref CC) (.ref CC) = some true) (s2 : PySem.W.subIn K (.ref CL) (.ref CC) = some false) (s3 : PySem.W.subIn K (.ref CL) (.ref CL) = some true) :
    ∃ fd : FuncData, (∀ (s : Shared) (u : Value), BindsTo s fd ⟨[u], []⟩ [("_law_script", u)]) ∧ ∀ base : Heap, K.In base → base.Ns mainGlobals mg → AtCaller l.prog w K mg base fa fd "_law_script" (spLaw K) := by
  have e := hfa.symm.trans (PySem.W.mg_of X G a26)
  cases e
  have F1 := fun_mk (st := sIsInteger) l1 c1 k1
  have b1 := F1.binds (ps := ["value"]) fun _ _ _ _ _ _ us hl => match us, hl with | [_], _ => rfl
  have m1 := PySem.W.mg_of X G a1
  have F2 := fun_mk (st := sIsFrom) l2 c2 k2
  have b2 := F2.binds (ps := ["low", "value"]) fun _ _ _ _ _ _ us hl => match us, hl with | [_, _], _ => rfl
  have m2 := PySem.W.mg_of X G a2
  have F3 := fun_mk (st := sIsBetween) l3 c3 k3
  have b3 := F3.binds (ps := ["low", "value", "high"]) fun _ _ _ _ _ _ us hl => match us, hl with | [_, _, _], _ => rfl
  have m3 := PySem.W.mg_of X G a3
  have F4 := fun_mk (st := sIsLotOf) l4 c4 k4
  have b4 := F4.binds (ps := ["many", "value"]) fun _ _ _ _ _ _ us hl => match us, hl with | [_, _], _ => rfl
  have m4 := PySem.W.mg_of X G a4
  have F5 := fun_mk (st := sCheckMany) l5 c5 k5
  have b5 := F5.binds (ps := ["value"]) fun _ _ _ _ _ _ us hl => match us, hl with | [_], _ => rfl
  have m5 := PySem.W.mg_of X G a5
  have F6 := fun_mk (st := sTimesItself) l6 c6 k6
  have b6 := F6.binds (ps := ["base", "times"]) fun _ _ _ _ _ _ us hl => match us, hl with | [_, _], _ => rfl
  have m6 := PySem.W.mg_of X G a6
  have F7 := fun_mk (st := sCheckRoots) l7 c7 k7
  have b7 := F7.binds (ps := ["many", "lot"]) fun _ _ _ _ _ _ us hl => match us, hl with | [_, _], _ => rfl
  have m7 := PySem.W.mg_of X G a7
  have F8 := fun_mk (st := sForestsOn) l8 c8 k8
  have b8 := F8.binds (ps := ["many", "roots"]) fun _ _ _ _ _ _ us hl => match us, hl with | [_, _], _ => rfl
  have m8 := PySem.W.mg_of X G a8
  have F9 := fun_mk (st := sForestCount) l9 c9 k9
  have b9 := F9.binds (ps := ["many", "lot"]) fun _ _ _ _ _ _ us hl => match us, hl with | [_, _], _ => rfl
  have m9 := PySem.W.mg_of X G a9
  have F10 := fun_mk (st := sRingWays) l10 c10 k10
  have b10 := F10.binds (ps := ["many", "places"]) fun _ _ _ _ _ _ us hl => match us, hl with | [_, _], _ => rfl
  have m10 := PySem.W.mg_of X G a10
  have F11 := fun_mk (st := sRingPlaceCounts) l11 c11 k11
  have b11 := F11.binds (ps := ["many"]) fun _ _ _ _ _ _ us hl => match us, hl with | [_], _ => rfl
  have m11 := PySem.W.mg_of X G a11
  have F12 := fun_mk (st := sRowsInRings) l12 c12 k12
  have b12 := F12.binds (ps := ["places"]) fun _ _ _ _ _ _ us hl => match us, hl with | [_], _ => rfl
  have m12 := PySem.W.mg_of X G a12
  have F13 := fun_mk (st := sPieceCounts) l13 c13 k13
  have b13 := F13.binds (ps := ["many"]) fun _ _ _ _ _ _ us hl => match us, hl with | [_], _ => rfl
  have m13 := PySem.W.mg_of X G a13
  have F14 := fun_mk (st := sCheckLengths) l14 c14 k14
  have b14 := F14.binds (ps := ["value"]) fun _ _ _ _ _ _ us hl => match us, hl with | [_], _ => rfl
  have m14 := PySem.W.mg_of X G a14
  have F15 := fun_mk (st := sRingLengthCount) l15 c15 k15
  have b15 := F15.binds (ps := ["many", "lengths"]) fun _ _ _ _ _ _ us hl => match us, hl with | [_, _], _ => rfl
  have m15 := PySem.W.mg_of X G a15
  have F16 := fun_mk (st := sSource) l16 c16 k16
  have b16 := F16.binds (ps := ["_law_cell"]) fun _ _ _ _ _ _ us hl => match us, hl with | [_], _ => rfl
  have m16 := PySem.W.mg_of X G a16
  have F17 := fun_mk (st := sDraw) l17 c17 k17
  have b17 := F17.binds (ps := ["_law_source_here", "_law_many"]) fun _ _ _ _ _ _ us hl => match us, hl with | [_, _], _ => rfl
  have m17 := PySem.W.mg_of X G a17
  have F18 := fun_mk (st := sChoose) l18 c18 k18
  have b18 := F18.binds (ps := ["_law_many", "_law_few"]) fun _ _ _ _ _ _ us hl => match us, hl with | [_, _], _ => rfl
  have m18 := PySem.W.mg_of X G a18
  have F19 := fun_mk (st := sTimes) l19 c19 k19
  have b19 := F19.binds (ps := ["_law_base", "_law_count"]) fun _ _ _ _ _ _ us hl => match us, hl with | [_, _], _ => rfl
  have m19 := PySem.W.mg_of X G a19
  have F20 := fun_mk (st := sDown) l20 c20 k20
  have b20 := F20.binds (ps := ["_law_many", "_law_few"]) fun _ _ _ _ _ _ us hl => match us, hl with | [_, _], _ => rfl
  have m20 := PySem.W.mg_of X G a20
  have F21 := fun_mk (st := sBadMany) l21 c21 k21
  have b21 := F21.binds (ps := ["_law_source_here"]) fun _ _ _ _ _ _ us hl => match us, hl with | [_], _ => rfl
  have m21 := PySem.W.mg_of X G a21
  have F22 := fun_mk (st := sPartings) l22 c22 k22
  have b22 := F22.binds (ps := ["_law_total", "_law_least"]) fun _ _ _ _ _ _ us hl => match us, hl with | [_, _], _ => rfl
  have m22 := PySem.W.mg_of X G a22
  have F23 := fun_mk (st := sWays) l23 c23 k23
  have b23 := F23.binds (ps := ["_law_many", "_law_lengths"]) fun _ _ _ _ _ _ us hl => match us, hl with | [_, _], _ => rfl
  have m23 := PySem.W.mg_of X G a23
  have F24 := fun_mk (st := sTold) l24 c24 k24
  have b24 := F24.binds (ps := ["_law_many", "_law_lengths"]) fun _ _ _ _ _ _ us hl => match us, hl with | [_, _], _ => rfl
  have m24 := PySem.W.mg_of X G a24
  have F25 := fun_mk (st := sRefused) l25 c25 k25
  have b25 := F25.binds (ps := ["_law_source_here", "_law_many", "_law_lengths"]) fun _ _ _ _ _ _ us hl => match us, hl with | [_, _, _], _ => rfl
  have m25 := PySem.W.mg_of X G a25
  have F26 := fun_mk (st := sLaw) l26 c26 k26
  have q0 := PySem.W.mg_none_of X G z0
  have q1 := PySem.W.mg_none_of X G z1
  have q2 := PySem.W.mg_none_of X G z2
  have q3 := PySem.W.mg_none_of X G z3
  have q4 := PySem.W.mg_none_of X G z4
  have q5 := PySem.W.mg_none_of X G z5
  have q6 := PySem.W.mg_none_of X G z6
  have q7 := PySem.W.mg_none_of X G z7
  have q8 := PySem.W.mg_none_of X G z8
  have q9 := PySem.W.mg_none_of X G z9
  have q10 := PySem.W.mg_none_of X G z10
  have q11 := PySem.W.mg_none_of X G z11
  have q12 := PySem.W.mg_none_of X G z12
  have qc := PySem.W.mg_of X G mc
  have qf := PySem.W.mg_of X G mf
  have qm := PySem.W.mg_of X G mm
  have TC : ErrAt K mg "InvalidCount" CC := ⟨PySem.W.mg_of X G gCC, xCC, kCC, bCC, tCC⟩
  have TL : ErrAt K mg "InvalidLengths" CL := ⟨PySem.W.mg_of X G gCL, xCL, kCL, bCL, tCL⟩
  have TT : Clauses K mg CC CL CN := ⟨TC.g, TL.g, PySem.W.mg_of X G gCN, PySem.W.exm_ref bCC hCC tCC s1, PySem.W.exm_ref bCC hCC tCC s2, PySem.W.exm_ref bCL hCL tCL s3⟩
  refine ⟨PySem.W.fnOf "law" "law" (defArgs sLaw) (defBody sLaw) (defScope sLaw) .none kV26 dc26 pm26 an26 cd26 ct26, fun s u => .of_eq rfl, fun base _ _ => ?_⟩
  have O1 := ok_isInteger (P := l.prog) (w := w) (base := base) (mg := mg) F1 q7 q8 q9
  have O2 := ok_isFrom (P := l.prog) (w := w) (base := base) (mg := mg) F2 O1 b1 k1 m1
  have O3 := ok_isBetween (P := l.prog) (w := w) (base := base) (mg := mg) F3 O1 b1 k1 m1
  have O4 := ok_lot (P := l.prog) (w := w) (base := base) (mg := mg) F4 q7 q3 q10 q1 q0 O3 b3 k3 m3
  have O5 := ok_checkMany (P := l.prog) (w := w) (base := base) (mg := mg) F5 O3 b3 k3 m3 qm TC
  have O6 := ok_timesItself (P := l.prog) (w := w) (base := base) (mg := mg) F6 q1
  have O8 := ok_forestsOn (P := l.prog) (w := w) (base := base) (mg := mg) F8 O6 b6 k6 m6
  have O10 := ok_ringWays (P := l.prog) (w := w) (base := base) (mg := mg) F10 qc O8 b8 k8 m8
  have O7 := ok_roots (P := l.prog) (w := w) (base := base) (mg := mg) F7 O5 b5 k5 m5 O4 b4 k4 m4
  have O9 := ok_forest (P := l.prog) (w := w) (base := base) (mg := mg) F9 q0 O7 b7 k7 m7 O8 b8 k8 m8
  have O11 := ok_rpc (P := l.prog) (w := w) (base := base) (mg := mg) F11 q1 qf O5 b5 k5 m5 O10 b10 k10 m10
  have O12 := ok_rows (P := l.prog) (w := w) (base := base) (mg := mg) F12 q1 q11
  have O13 := ok_pieces (P := l.prog) (w := w) (base := base) (mg := mg) F13 q1 q11 O5 b5 k5 m5 O10 b10 k10 m10 O12 b12 k12 m12
  have O14 := ok_checkLengths (P := l.prog) (w := w) (base := base) (mg := mg) F14 q7 q3 q10 q1 q0 TL O2 b2 k2 m2
  have O15 := ok_rlc (P := l.prog) (w := w) (base := base) (mg := mg) F15 q5 qf q11 O5 b5 k5 m5 O14 b14 k14 m14 O10 b10 k10 m10
  have O16 := ok_source (P := l.prog) (w := w) (base := base) (mg := mg) F16 q8
  have O17 := draw2 (ok_draw (P := l.prog) (w := w) (base := base) (mg := mg) F17 q8)
  have O18 := ok_choose (P := l.prog) (w := w) (base := base) (mg := mg) F18 q1
  have O19 := ok_times (P := l.prog) (w := w) (base := base) (mg := mg) F19 q1
  have O20 := ok_down (P := l.prog) (w := w) (base := base) (mg := mg) F20 q1
  have O21 := ok_bad (P := l.prog) (w := w) (base := base) (mg := mg) F21 O17 b17 k17 m17
  have O22 := parts_all (P := l.prog) (w := w) (base := base) (mg := mg) F22 q1 b22 m22 11 (by decide)
  have O23 := ok_ways (P := l.prog) (w := w) (base := base) (mg := mg) F23 q1 q0 O18 b18 k18 m18 O20 b20 k20 m20 O19 b19 k19 m19
  have O24 := ok_told (P := l.prog) (w := w) (base := base) (mg := mg) F24 TT O15 b15 k15 m15
  have O25 := ok_refused (P := l.prog) (w := w) (base := base) (mg := mg) F25 q0 q12 O21 b21 k21 m21 O17 b17 k17 m17 O24 b24 k24 m24
  have R2 := rlc2 O15
  exact ok_law F26 ⟨⟨f16, _, O16, b16, k16, m16⟩, ⟨f17, _, O17, b17, k17, m17⟩, ⟨f11, _, O11, b11, k11, m11⟩, ⟨f22, _, O22, b22, k22, m22⟩, ⟨f23, _, O23, b23, k23, m23⟩, ⟨f15, _, R2, b15, k15, m15⟩, swap_binds (fun s a b => .of_eq rfl), ⟨f18, _, O18, b18, k18, m18⟩, ⟨f9, _, O9, b9, k9, m9⟩, ⟨f13, _, O13, b13, k13, m13⟩, ⟨f25, _, O25, b25, k25, m25⟩⟩ ⟨q0, q1, q2, q3, q4, q5, q6⟩
end RLX
open PySem PySem.W PyProof.Rows
set_option maxRecDepth 100000 in
set_option maxHeartbeats 0 in
theorem PySem.Challenge.cw_everynext_k56_whole_charts_by_ring_lengt_holds : PySem.Challenge.rw_everynext_k56_whole_charts_by_ring_lengt.Holds := by
  w_on; o_law; k_head; (case hw => w_witness2)
  k_fill
  refine RLX.walk_law (l := PySem.Challenge.rw_everynext_k56_whole_charts_by_ring_lengt) (n := 63) (x := "_law_script") (sp := RLX.spLaw) rfl (by decide) rfl (fun w h Y => PySem.W.kIn_of Y) ?F (fun K H a ns hl hS => ⟨a, ns, rfl, hS, hl, fun _ => rfl⟩)
  case F =>
    intro w mg fa h KX G hmg
    refine' RLX.all_mk KX G hmg ?a1 ?l1 ?c1 ?k1 ?a2 ?l2 ?c2 ?k2 ?a3 ?l3 ?c3 ?k3 ?a4 ?l4 ?c4 ?k4 ?a5 ?l5 ?c5 ?k5 ?a6 ?l6 ?c6 ?k6 ?a7 ?l7 ?c7 ?k7 ?a8 ?l8 ?c8 ?k8 ?a9 ?l9 ?c9 ?k9 ?a10 ?l10 ?c10 ?k10 ?a11 ?l11 ?c11 ?k11 ?a12 ?l12 ?c12 ?k12 ?a13 ?l13 ?c13 ?k13 ?a14 ?l14 ?c14 ?k14 ?a15 ?l15 ?c15 ?k15 ?a16 ?l16 ?c16 ?k16 ?a17 ?l17 ?c17 ?k17 ?a18 ?l18 ?c18 ?k18 ?a19 ?l19 ?c19 ?k19 ?a20 ?l20 ?c20 ?k20 ?a21 ?l21 ?c21 ?k21 ?a22 ?l22 ?c22 ?k22 ?a23 ?l23 ?c23 ?k23 ?a24 ?l24 ?c24 ?k24 ?a25 ?l25 ?c25 ?k25 ?a26 ?l26 ?c26 ?k26 ?z0 ?z1 ?z2 ?z3 ?z4 ?z5 ?z6 ?z7 ?z8 ?z9 ?z10 ?z11 ?z12 ?mc ?mf ?mm ?gCC ?xCC ?kCC ?bCC ?tCC ?hCC ?gCL ?xCL ?kCL ?bCL ?tCL ?hCL ?gCN ?s1 ?s2 ?s3
    (case a1 => k_is)
    (case l1 => k_is)
    (case c1 => k_is)
    (case k1 => k_is)
    (case a2 => k_is)
    (case l2 => k_is)
    (case c2 => k_is)
    (case k2 => k_is)
    (case a3 => k_is)
    (case l3 => k_is)
    (case c3 => k_is)
    (case k3 => k_is)
    (case a4 => k_is)
    (case l4 => k_is)
    (case c4 => k_is)
    (case k4 => k_is)
    (case a5 => k_is)
    (case l5 => k_is)
    (case c5 => k_is)
    (case k5 => k_is)
    (case a6 => k_is)
    (case l6 => k_is)
    (case c6 => k_is)
    (case k6 => k_is)
    (case a7 => k_is)
    (case l7 => k_is)
    (case c7 => k_is)
    (case k7 => k_is)
    (case a8 => k_is)
    (case l8 => k_is)
    (case c8 => k_is)
    (case k8 => k_is)
    (case a9 => k_is)
    (case l9 => k_is)
    (case c9 => k_is)
    (case k9 => k_is)
    (case a10 => k_is)
    (case l10 => k_is)
    (case c10 => k_is)
    (case k10 => k_is)
    (case a11 => k_is)
    (case l11 => k_is)
    (case c11 => k_is)
    (case k11 => k_is)
    (case a12 => k_is)
    (case l12 => k_is)
    (case c12 => k_is)
    (case k12 => k_is)
    (case a13 => k_is)
    (case l13 => k_is)
    (case c13 => k_is)
    (case k13 => k_is)
    (case a14 => k_is)
    (case l14 => k_is)
    (case c14 => k_is)
    (case k14 => k_is)
    (case a15 => k_is)
    (case l15 => k_is)
    (case c15 => k_is)
    (case k15 => k_is)
    (case a16 => k_is)
    (case l16 => k_is)
    (case c16 => k_is)
    (case k16 => k_is)
    (case a17 => k_is)
    (case l17 => k_is)
    (case c17 => k_is)
    (case k17 => k_is)
    (case a18 => k_is)
    (case l18 => k_is)
    (case c18 => k_is)
    (case k18 => k_is)
    (case a19 => k_is)
    (case l19 => k_is)
    (case c19 => k_is)
    (case k19 => k_is)
    (case a20 => k_is)
    (case l20 => k_is)
    (case c20 => k_is)
    (case k20 => k_is)
    (case a21 => k_is)
    (case l21 => k_is)
    (case c21 => k_is)
    (case k21 => k_is)
    (case a22 => k_is)
    (case l22 => k_is)
    (case c22 => k_is)
    (case k22 => k_is)
    (case a23 => k_is)
    (case l23 => k_is)
    (case c23 => k_is)
    (case k23 => k_is)
    (case a24 => k_is)
    (case l24 => k_is)
    (case c24 => k_is)
    (case k24 => k_is)
    (case a25 => k_is)
    (case l25 => k_is)
    (case c25 => k_is)
    (case k25 => k_is)
    (case a26 => k_is)
    (case l26 => k_is)
    (case c26 => k_is)
    (case k26 => k_is)
    (case z0 => k_is)
    (case z1 => k_is)
    (case z2 => k_is)
    (case z3 => k_is)
    (case z4 => k_is)
    (case z5 => k_is)
    (case z6 => k_is)
    (case z7 => k_is)
    (case z8 => k_is)
    (case z9 => k_is)
    (case z10 => k_is)
    (case z11 => k_is)
    (case z12 => k_is)
    (case mc => k_is)
    (case mf => k_is)
    (case mm => k_is)
    (case gCC => k_is)
    (case xCC => k_exc)
    (case kCC => k_is)
    (case bCC => k_is)
    (case tCC => k_is)
    (case hCC => k_is)
    (case gCL => k_is)
    (case xCL => k_exc)
    (case kCL => k_is)
    (case bCL => k_is)
    (case tCL => k_is)
    (case hCL => k_is)
    (case gCN => k_is)
    (case s1 => first | rfl | k_is)
    (case s2 => first | rfl | k_is)
    (case s3 => first | rfl | k_is)
