import PyProof.Rows.All
import Wide.All
import OpenK.AllK
import Wide.FinOn
import HandS.ForMost
import HandS.Conv
import HandS.TupAny
import HandS.DictComp
import HandS.IsInst
import HandS.More
import KE.KIndexOf
import KE.DatumOrd
import HandS.NoneIn
import HandS.Codes
import PySem.Challenge.RW_turnedrows_k08_whole_blocks_none_fewer
set_option Elab.async false
set_option linter.all false
set_option maxRecDepth 100000
set_option maxHeartbeats 8000000
/-! K1: rules that the layer lacks: tuple.index of ints, sorted and max of a tuple of ints, a dict comprehension given to a name. -/
namespace K8
open PySem PySem.Spec PyProof.Rows L2

section
variable {prog : Program} {w : World} {A : Around} {E : Value → Shared → Prop} {s : Shared}
/-- what list(t) begins with: the items of a tuple, gathered -/
theorem gatherTup {tp : Addr} {its : List Value} {Q : List Value → Shared → Prop} (ht : IsTup s.heap tp its.toArray) (hz : its.length ≤ sizeLine)
    (hQ : ∀ (hp' : Heap), (∀ b o, s.heap.get? b = some o → hp'.get? b = some o) → Q its { s with heap := hp' }) :
    wpAny (model prog w) A (collect (.ref tp)) Q E s := by
  obtain ⟨ob, hob, hcls, nn, hdat⟩ := ht
  unfold collect
  refine wpAny_bind (wpAny_runValue (codeAny_builtin F.entry_proto_collect ?_))
  rw [Around.under_plainId F.plain_proto_collect _]
  show wpAny _ A.in1 (newList [] >>= fun nl => again (.builtin "list.__iadd__" ⟨[nl, .ref tp], []⟩)) _ _ s
  refine wpAny_bind (wpAny_newObj_type ?_)
  refine wpAny_pure ⟨plainId_quiet F.plain_list_iadd _, codeAny_builtin F.entry_list_iadd ?_⟩
  rw [Around.under_plainId F.plain_list_iadd _]
  show wpAny _ A.in1 (Builtin.List.listExtendWith (.ref s.heap.objs.size) (.ref tp) (.ref s.heap.objs.size)) _ _ _
  have hL : (s.heap.push { cls := .type "list", data := .seq ([] : List Value).toArray }).get? s.heap.objs.size = some { cls := .type "list", data := .seq #[] 0 } := Heap.get?_push_size _ rfl
  have hne : tp ≠ s.heap.objs.size := Nat.ne_of_lt (Heap.lt_size hob)
  have hL2 := Heap.get?_update_self (Obj.mapSeq (· ++ its.toArray)) hL rfl
  refine wpAny_mono (wpAny_extend_seq (A := A) (R := fun rr s' => rr = .ok (.ret (.ref s.heap.objs.size)) ∧ s' = { s with heap := (s.heap.push { cls := .type "list", data := .seq ([] : List Value).toArray }).update s.heap.objs.size (Obj.mapSeq (· ++ its.toArray)) })
    (s := { s with heap := s.heap.push { cls := .type "list", data := .seq ([] : List Value).toArray } }) _ tp _ 0 (.inr rfl) hL (Heap.get?_push_of_some _ hob) hcls hdat ⟨rfl, rfl⟩ (by rw [List.size_toArray]; exact hz)) (fun fin s' hfin => ?_) (fun e s' hfin => ?_)
  · cases fin with
    | done ff =>
      obtain ⟨e1, e2⟩ := hfin
      cases e1
      subst e2
      show wpAny _ A (load s.heap.objs.size >>= _) _ _ _
      refine wpAny_bind (wpAny_load hL2 (wpAny_pure ?_))
      have := hQ ((s.heap.push { cls := .type "list", data := .seq ([] : List Value).toArray }).update s.heap.objs.size (Obj.mapSeq (· ++ its.toArray))) (fun b o q => (Heap.get?_update_other _ _ (Ne.symm (Nat.ne_of_lt (Heap.lt_size q)))).trans (Heap.get?_push_of_some _ q))
      simpa [Obj.mapSeq] using this
    | again c' =>
      refine ⟨hfin.1, codeAny_mono hfin.2 fun rr s'' hr' => ?_⟩
      obtain ⟨rfl, rfl⟩ := hr'
      show wpAny _ A (load s.heap.objs.size >>= _) _ _ _
      refine wpAny_bind (wpAny_load hL2 (wpAny_pure ?_))
      have := hQ ((s.heap.push { cls := .type "list", data := .seq ([] : List Value).toArray }).update s.heap.objs.size (Obj.mapSeq (· ++ its.toArray))) (fun b o q => (Heap.get?_update_other _ _ (Ne.symm (Nat.ne_of_lt (Heap.lt_size q)))).trans (Heap.get?_push_of_some _ q))
      simpa [Obj.mapSeq] using this
  · exact absurd hfin.1 (by simp)
end

section
variable {X : Cx}
/-- t.index(k) of a tuple of ints in which k stands -/
def rIdxT (K : PySem.W.Frag) : V → List V → Hp → VK → Prop := fun x xs H Q => ∃ (p : Addr) (ns : List Int) (k : Int), x = .ref p ∧ xs = [.int k] ∧ SqT K H p (ns.map V.int) ∧ k ∈ ns ∧ Q (.int (ns.idxOf k : Nat)) H
theorem mt_idxT : MtR X "tuple.index" (rIdxT X.K) := by
  intro pins s σ H x xs v us Q I rx rs hyp
  obtain ⟨p, ns, k, rfl, rfl, hq, hk, q⟩ := hyp
  cases rx
  obtain ⟨u, rfl, t, rfl⟩ := vals1 rs
  obtain ⟨its, rv, pl, _⟩ := I.tuple hq
  exact PySem.SeqAt.tuple_index_ints pl rv.ints hk ⟨.int _, H, I.tok _, ⟨_, rfl⟩, q⟩
/-- max(t) of a tuple of ints -/
def rMaxT (K : PySem.W.Frag) : List V → Hp → VK → Prop := fun vs H Q => ∃ (p : Addr) (ns : List Int), vs = [V.ref p] ∧ SqT K H p (ns.map V.int) ∧ ns ≠ [] ∧ ∀ m, m ∈ ns → (∀ y, y ∈ ns → y ≤ m) → Q (.int m) H
theorem foldMax : ∀ (xs : List Int) (x : Int), PySem.W.maxOf x xs ∈ x :: xs ∧ ∀ y ∈ x :: xs, y ≤ PySem.W.maxOf x xs
  | [], x => ⟨List.mem_cons_self, fun y hy => by
    rcases List.mem_cons.mp hy with e | e
    · exact Int.le_of_eq e
    · cases e⟩
  | z :: zs, x => by
    have step : PySem.W.maxOf x (z :: zs) = PySem.W.maxOf (if decide (x < z) = true then z else x) zs := rfl
    rw [step]
    obtain ⟨m1, m2⟩ := foldMax zs (if decide (x < z) = true then z else x)
    have big := m2 _ List.mem_cons_self
    refine ⟨?_, fun y hy => ?_⟩
    · rcases List.mem_cons.mp m1 with e | e
      · rw [e]
        by_cases hxz : x < z
        · rw [if_pos (decide_eq_true hxz)]
          exact List.mem_cons_of_mem _ List.mem_cons_self
        · rw [if_neg (by rw [decide_eq_true_eq]; exact hxz)]
          exact List.mem_cons_self
      · exact List.mem_cons_of_mem _ (List.mem_cons_of_mem _ e)
    · by_cases hxz : x < z
      · rw [if_pos (decide_eq_true hxz)] at big m2 ⊢
        rcases List.mem_cons.mp hy with e | hy
        · omega
        · rcases List.mem_cons.mp hy with e | hy
          · omega
          · exact m2 y (List.mem_cons_of_mem _ hy)
      · rw [if_neg (by rw [decide_eq_true_eq]; exact hxz)] at big m2 ⊢
        rcases List.mem_cons.mp hy with e | hy
        · omega
        · rcases List.mem_cons.mp hy with e | hy
          · omega
          · exact m2 y (List.mem_cons_of_mem _ hy)
theorem cr_maxT (hc : X.calm = true) (hu : X.A.units + 1 < cLine) : CallR X (.builtin "max") (rMaxT X.K) := by
  intro pins s σ H vs us Q I rr hyp
  obtain ⟨p, ns, rfl, hs, hne, q⟩ := hyp
  obtain ⟨its, rv, pl, hz⟩ := I.tuple hs
  rw [Vals.ref1 rr]
  cases ns with
  | nil => exact absurd rfl hne
  | cons n0 ns =>
    have hH : PySem.W.HoldAll s.heap its.toArray.toList (n0 :: ns) := by
      rw [List.toList_toArray]
      exact PySem.W.HoldAll.of_ints rv.ints
    refine PySem.W.max_tuple_datum (α := Int) (I.ok.hd hc) pl hH hu fun i v hp' tk _ hv keep => ?_
    obtain ⟨t, rfl⟩ := PySem.W.int_of_holds hv
    have fm := foldMax ns n0
    exact ⟨.int _, H, I.kept keep, ⟨_, rfl⟩, q _ fm.1 fm.2⟩
/-- sorted(t) of a tuple of fewer than 64 ints -/
def rSrtT (K : PySem.W.Frag) : List V → Hp → VK → Prop := fun vs H Q => ∃ (p : Addr) (ns : List Int), vs = [V.ref p] ∧ SqT K H p (ns.map V.int) ∧ ns.length < 64 ∧
  ∀ (ys : List Int) (l : Addr), ys.Perm ns → ys.Pairwise (· ≤ ·) → H l = none → Q (.ref l) (upd H l (.lst (ys.map V.int)))
theorem cr_srtT : CallR X (.builtin "sorted") (rSrtT X.K) := by
  intro pins s σ H vs us Q I rr hyp
  obtain ⟨p, ns, rfl, hs, h64, q⟩ := hyp
  obtain ⟨its, rv, pl, hz⟩ := I.tuple hs
  rw [Vals.ref1 rr]
  have hlen : its.length = ns.length := by rw [← rv.length, List.length_map]
  refine Calls.call_function_entry kind_sorted plain_sorted entry_sorted (args_sorted1 _) ?_
  unfold Builtin.«sorted»
  refine wpAny_bind (m := checkCount "sorted" 1 1 _) (wpAny_pure ?_)
  refine wpAny_bind (gatherTup pl (by rw [hlen]; exact small64 h64) fun hp' keep => ?_)
  have I1 : Inv X pins σ H { s with heap := hp' } := I.kept (t' := s.toks) keep
  refine wpAny_bind (wpAny_newList ?_ (by rw [hlen]; exact small64 h64))
  have hoL : (hp'.push (seqObj "list" its.toArray 0)).get? hp'.objs.size = some (seqObj "list" its.toArray 0) := Heap.get?_push_size _ rfl
  show wpAny _ _ _ _ _ { s with heap := hp'.push (seqObj "list" its.toArray 0) }
  refine wpAny_bind (wpAny_holding (wpAny_call_entry slot_list_sort ⟨_, hoL, rfl⟩ entry_list_sort
    (list_sort_tree (s := { s with heap := hp'.push (seqObj "list" its.toArray 0) }) hoL rv.ints (by rw [hlen]; exact h64) fun out ys g1 g2 g3 => ⟨_, rfl, ?_⟩) (args_list_sort _)))
  obtain ⟨e', he'⟩ := sortedHeap_at (vs := its) (out := out) hoL
  have hl2 : (ys.map V.int).length ≤ sizeLine := by
    rw [List.length_map, g2.length_eq]
    exact small64 h64
  refine wpAny_pure ⟨_, rfl, .ref hp'.objs.size, upd H hp'.objs.size (.lst (ys.map V.int)), I1.laid (t' := s.toks) (fun b u e => ?_) (Nat.le_refl _)
    (show ObjOk X.prog X.w _ _ _ (.lst (ys.map V.int)) from ⟨hl2, out.toList, e', vals_of_ints g1, by rw [Array.toArray_toList]; exact he'⟩), rfl, q ys _ g2 g3 (I1.hok.fresh (Nat.le_refl _))⟩
  have hb : b < hp'.objs.size := Heap.lt_size e
  rw [sortedHeap_old (Nat.ne_of_lt hb) (by rw [size_push']; exact Nat.lt_succ_of_lt hb)]
  exact Heap.get?_push_of_some _ e
/-- a dict comprehension over a range: Pv by the turn and the heap -/
theorem dc_range {lo : Int} {n : Nat} {g : TG} {tt : TT} {tk tv : TE} {vs : List Nat} {σ : L2.St} {H1 : Hp} {D : Addr} {Qd : Hp → Prop} (Pv : Nat → Hp → Prop) (h0 : Pv 0 (upd H1 D (.dK [])))
    (hs : ∀ i H, i < n → Pv i H → g (.int (lo + i)) (wipe σ vs) H fun σ2 H2 => wipe σ2 vs = wipe σ vs ∧ tt σ2 H2 fun b H3 =>
      if b = true then tk σ2 H3 fun y H4 => tv σ2 H4 fun z H5 => ∃ kvs k, y = kV k ∧ H5 D = some (.dK kvs) ∧ kvs.length < sizeLine ∧ Pv (i + 1) (upd H5 D (.dK (putK kvs k z))) else Pv (i + 1) H3)
    (hd : ∀ H, Pv n H → Qd H) :
    ∃ W : Nat → Nat → Hp → Prop, (∃ m, W 0 m (upd H1 D (.dK []))) ∧ ∀ i m H, W i m H →
      ((Itr lo n).stop i H ∧ Qd H) ∨ ((Itr lo n).go i H ∧ ∃ Nx : Hp → Prop, (∀ H', Nx H' → ∃ m', m' < m ∧ W (i + 1) m' H') ∧ ∀ x H', (Itr lo n).yld i H x H' → g x (wipe σ vs) H' fun σ2 H2 => wipe σ2 vs = wipe σ vs ∧ tt σ2 H2 fun b H3 =>
        if b = true then tk σ2 H3 fun y H4 => tv σ2 H4 fun z H5 => ∃ kvs k, y = kV k ∧ H5 D = some (.dK kvs) ∧ kvs.length < sizeLine ∧ Nx (upd H5 D (.dK (putK kvs k z))) else Nx H3) := by
  refine ⟨fun i m H => m = n - i ∧ i ≤ n ∧ Pv i H, ⟨n, (Nat.sub_zero n).symm, Nat.zero_le _, h0⟩, ?_⟩
  rintro i m H ⟨rfl, hi, p⟩
  rcases Nat.lt_or_ge i n with hlt | hge
  · refine .inr ⟨hlt, Pv (i + 1), fun H' p' => ⟨n - (i + 1), by omega, rfl, hlt, p'⟩, fun x H' y => ?_⟩
    obtain ⟨e, y⟩ := y
    subst e y
    exact hs i _ hlt p
  · obtain rfl : i = n := Nat.le_antisymm hi hge
    exact .inl ⟨Nat.le_refl _, hd H p⟩
/-! ### tuples whose record is known: they have no dict of their own, so that a method of theirs may be called -/
/-- a tuple at p, with its record -/
def FzT (H : Hp) (p : Addr) (xs : List V) : Prop := ∃ ob : Obj, ob.dict = none ∧ H p = some (.frz ob (.tup xs))
theorem FzT.sq {K : PySem.W.Frag} {H : Hp} {p : Addr} {xs : List V} (h : FzT H p xs) : SqT K H p xs := by
  obtain ⟨ob, _, e⟩ := h
  exact .inl (.inr ⟨ob, e⟩)
theorem FzT.same {H H' : Hp} {p : Addr} {xs : List V} (h : FzT H p xs) (s : Same H H') : FzT H' p xs := by
  obtain ⟨ob, d, e⟩ := h
  exact ⟨ob, d, s _ _ e⟩
/-- t + u -/
def rCatF (K : PySem.W.Frag) : R2 := fun x y H Q => ∃ a b xs ys, x = .ref a ∧ y = .ref b ∧ SqT K H a xs ∧ SqT K H b ys ∧ xs.length + ys.length ≤ sizeLine ∧
  (xs = [] → Q (.ref b) H) ∧ (xs ≠ [] → ys = [] → Q (.ref a) H) ∧ (xs ≠ [] → ys ≠ [] → ∀ p ob, ob.dict = none → H p = none → Q (.ref p) (upd H p (.frz ob (.tup (xs ++ ys)))))
theorem op_catF : OpR X (binaryOp .Add) (rCatF X.K) := by
  intro pins s σ H x y v u Q I rx ry hyp
  obtain ⟨a, b, xs, ys, rfl, rfl, ha, hb, hz, q0, q1, q2⟩ := hyp
  cases rx
  cases ry
  obtain ⟨its, r1, p1, _⟩ := I.tuple ha
  obtain ⟨its2, r2, p2, _⟩ := I.tuple hb
  by_cases hx : xs = []
  · subst hx
    cases r1
    exact cat_tup0 p1 p2 ⟨.ref b, H, I, rfl, q0 rfl⟩
  · refine HT.cat_tup p1 p2 (fun z => hx (r1.nil_iff.mp z)) (fun z => ⟨.ref a, H, I, rfl, q1 hx (r2.nil_iff.mp z)⟩) (fun z => ?_) (by rw [← r1.length, ← r2.length]; exact hz)
    refine ⟨.ref s.heap.objs.size, _, I.laid (t' := s.toks) (o := .frz { cls := .type "tuple", data := .seq (its ++ its2).toArray } (.tup (xs ++ ys))) (fun b ob q => Heap.get?_push_of_some _ q) (Nat.le_refl _) ?_, rfl,
      q2 hx (fun w => z (r2.nil_iff.mpr w)) _ _ rfl (I.hok.fresh (Nat.le_refl _))⟩
    exact ⟨Heap.get?_push_size _ rfl, by rw [List.length_append]; exact hz, _, r1.append r2, IsTup.new _ _⟩
/-- tuple(l) of a list -/
def rTupF (K : PySem.W.Frag) : List V → Hp → VK → Prop := fun vs H Q => ∃ l xs, vs = [V.ref l] ∧ SqL K H l xs ∧ ∀ p ob, ob.dict = none → H p = none → Q (.ref p) (upd H p (.frz ob (.tup xs)))
theorem call_tupF : CallR X (.type "tuple") (rTupF X.K) := by
  intro pins s σ H vs us Q I rr hyp
  obtain ⟨l, xs, rfl, hs, q⟩ := hyp
  rw [Vals.ref1 rr]
  obtain ⟨its, rv, pl, hz⟩ := I.list hs
  refine call_tuple_list pl.isList (fun h' keep => ?_) (by rw [List.size_toArray, ← rv.length]; exact hz)
  have I1 : Inv X pins σ H { s with heap := h' } := I.kept (t' := s.toks) keep
  refine ⟨.ref h'.objs.size, _, I1.laid (t' := s.toks) (o := .frz { cls := .type "tuple", data := .seq its.toArray } (.tup xs)) (fun b o e => Heap.get?_push_of_some _ e) (Nat.le_refl _) ?_, rfl, q _ _ rfl (I1.hok.fresh (Nat.le_refl _))⟩
  exact ⟨Heap.get?_push_size _ rfl, hz, its, rv, IsTup.new _ _⟩
/-- t.index(k) of such a tuple -/
def tTIdx (K : PySem.W.Frag) (to : TE) (t : TA) : TE := fun σ H Q => to σ H fun x H1 => ∃ p xs, x = .ref p ∧ FzT H1 p xs ∧ t σ H1 fun ys H2 => rIdxT K x ys H2 Q
theorem pe_tidx {o e : Expr} {to : TE} {t : TA} {apos cpos : Pos} (ho : PE X o to) (ha : PA X [e] t)
    (hbase : attributeBase o "index" X.env (eval o X.env) = eval o X.env := by rfl)
    (hfew : ((backTo cpos (starEach [e] X.env)).all (fun x => !x.1) && (backToKw cpos (keywordEach [] X.env)).all (fun x => x.1.isSome)
      && decide ([e].length + ([] : List Keyword).length + (if ([] : List Keyword).isEmpty then 0 else 1) < 30)) = true := by rfl)
    (hline : (apos.endLine == cpos.line) = true := by rfl) (hs : starEach [e] X.env = (false, eval e X.env) :: starEach [] X.env := by rfl) (hplain : (backTo cpos (starEach [] X.env)).any (·.1) = false := by rfl) :
    PE X (.Call (.Attribute o "index" apos) [e] [] cpos) (tTIdx X.K to t) := by
  refine ⟨fun pins s σ H Q I hyp => ?_⟩
  refine wpAny_Call_method_late hbase hfew hline rfl (thn (ho.run pins s σ H _ I hyp) fun v s1 ⟨x, H1, I1, r1, p, xs, ex, ⟨ob, hd, hp⟩, q1⟩ => ?_)
  subst ex
  obtain rfl : v = Value.ref p := r1
  obtain ⟨hget, _, its, rvs, tup⟩ := (show ObjOk X.prog X.w H1 s1.heap p (.frz ob (.tup xs)) from I1.hok p _ hp)
  obtain ⟨o2, ho2, hc2, _⟩ := tup
  have eo : o2 = ob := by
    rw [hget] at ho2
    exact (Option.some.inj ho2).symm
  subst eo
  refine ⟨"tuple", "tuple.index", PySem.F.plainAttrs_tuple, PySem.F.slot_tuple_index, PySem.F.type_tuple_index, ⟨o2, hget, hc2⟩, fun a ea => ?_, ?_⟩
  · cases ea
    exact ⟨o2, hget, hd⟩
  · have hA := ha.run cpos pins s1 σ H1 _ I1 q1
    rw [hs] at hA ⊢
    refine Calls.callWith_builtin (by show (false || (backTo cpos (starEach [] X.env)).any (·.1)) = false; rw [hplain] <;> rfl) (Calls.evalArgs_plain ?_)
    exact thn hA fun us s2 ⟨vs, H2, I2, r2, q2⟩ => mt_idxT pins s2 σ H2 (V.ref p) vs (Value.ref p) us Q I2 rfl r2 q2
end
end K8
/-! K2: the mathematics: the number of the rings of a permutation of 0 .. N - 1. -/
namespace K8

/-- a and b exchanged -/
def sw (a b y : Nat) : Nat := if y = a then b else if y = b then a else y
theorem sw_a (a b : Nat) : sw a b a = b := if_pos rfl
theorem sw_b (a b : Nat) : sw a b b = a := by
  unfold sw
  split
  · assumption
  · exact if_pos rfl
theorem sw_o {a b y : Nat} (h : y ≠ a) (h' : y ≠ b) : sw a b y = y := by
  unfold sw
  rw [if_neg h, if_neg h']
theorem sw_comm (a b y : Nat) : sw a b y = sw b a y := by
  unfold sw
  split <;> split <;> omega
theorem sw_sw (a b y : Nat) : sw a b (sw a b y) = y := by
  unfold sw
  split <;> (try split) <;> (try split) <;> omega
theorem sw_lt {a b y N : Nat} (ha : a < N) (hb : b < N) (hy : y < N) : sw a b y < N := by
  unfold sw
  split
  · exact hb
  · split
    · exact ha
    · exact hy

/-- a permutation of 0 .. N - 1 -/
structure Bj (N : Nat) (f : Nat → Nat) : Prop where
  lt : ∀ i, i < N → f i < N
  inj : ∀ i j, i < N → j < N → f i = f j → i = j

/-- N passed by -/
def byp (N : Nat) (f : Nat → Nat) (i : Nat) : Nat := if f i = N then f N else f i
/-- the number of the rings -/
def cyc : Nat → (Nat → Nat) → Nat
  | 0, _ => 0
  | N + 1, f => cyc N (byp N f) + if f N = N then 1 else 0

theorem cyc_congr : ∀ (N : Nat) (f g : Nat → Nat), (∀ i, i < N → f i = g i) → cyc N f = cyc N g
  | 0, _, _, _ => rfl
  | N + 1, f, g, h => by
    have hN := h N (Nat.lt_succ_self N)
    unfold cyc
    rw [hN, cyc_congr N (byp N f) (byp N g) fun i hi => by
      unfold byp
      rw [hN, h i (Nat.lt_succ_of_lt hi)]]
theorem cyc_le : ∀ (N : Nat) (f : Nat → Nat), cyc N f ≤ N
  | 0, _ => Nat.le_refl _
  | N + 1, f => by
    have ih := cyc_le N (byp N f)
    unfold cyc
    split <;> omega
theorem cyc_id : ∀ (N : Nat) (f : Nat → Nat), (∀ i, i < N → f i = i) → cyc N f = N
  | 0, _, _ => rfl
  | N + 1, f, h => by
    have hN := h N (Nat.lt_succ_self N)
    unfold cyc
    rw [if_pos hN, cyc_id N (byp N f) fun i hi => by
      unfold byp
      rw [h i (Nat.lt_succ_of_lt hi), if_neg (Nat.ne_of_lt hi)]]

theorem Bj.byp {N : Nat} {f : Nat → Nat} (h : Bj (N + 1) f) : Bj N (byp N f) := by
  refine ⟨fun i hi => ?_, fun i j hi hj e => ?_⟩
  · have a := h.lt i (by omega)
    have b := h.lt N (by omega)
    unfold K8.byp
    split
    · rename_i e
      have : f N ≠ N := fun z => by
        have := h.inj i N (by omega) (by omega) (e.trans z.symm)
        omega
      omega
    · omega
  · unfold K8.byp at e
    by_cases e1 : f i = N
    · by_cases e2 : f j = N
      · exact h.inj i j (by omega) (by omega) (e1.trans e2.symm)
      · rw [if_pos e1, if_neg e2] at e
        have := h.inj N j (by omega) (by omega) e
        omega
    · by_cases e2 : f j = N
      · rw [if_neg e1, if_pos e2] at e
        have := h.inj i N (by omega) (by omega) e
        omega
      · rw [if_neg e1, if_neg e2] at e
        exact h.inj i j (by omega) (by omega) e
theorem Bj.surj : ∀ {N : Nat} {f : Nat → Nat}, Bj N f → ∀ y, y < N → ∃ i, i < N ∧ f i = y
  | 0, _, _, y, hy => absurd hy (Nat.not_lt_zero y)
  | N + 1, f, h, y, hy => by
    have g := h.byp
    by_cases e : f N = y
    · exact ⟨N, by omega, e⟩
    · by_cases hyN : y = N
      · have hlt := h.lt N (by omega)
        obtain ⟨i, hi, ei⟩ := Bj.surj g (f N) (by omega)
        unfold K8.byp at ei
        by_cases e1 : f i = N
        · exact ⟨i, by omega, by omega⟩
        · rw [if_neg e1] at ei
          have := h.inj i N (by omega) (by omega) ei
          omega
      · obtain ⟨i, hi, ei⟩ := Bj.surj g y (by omega)
        unfold K8.byp at ei
        by_cases e1 : f i = N
        · rw [if_pos e1] at ei
          exact absurd ei e
        · rw [if_neg e1] at ei
          exact ⟨i, by omega, ei⟩
theorem Bj.sw {N a b : Nat} {f : Nat → Nat} (h : Bj N f) (ha : a < N) (hb : b < N) : Bj N (fun i => sw a b (f i)) :=
  ⟨fun i hi => sw_lt ha hb (h.lt i hi), fun i j hi hj e => h.inj i j hi hj (by
    have := congrArg (K8.sw a b) e
    simpa only [sw_sw] using this)⟩
theorem Bj.comp {N : Nat} {f g : Nat → Nat} (hf : Bj N f) (hg : Bj N g) : Bj N (fun i => f (g i)) :=
  ⟨fun i hi => hf.lt _ (hg.lt i hi), fun i j hi hj e => hg.inj i j hi hj (hf.inj _ _ (hg.lt i hi) (hg.lt j hj) e)⟩
theorem Bj.congr {N : Nat} {f g : Nat → Nat} (hf : Bj N f) (e : ∀ i, i < N → f i = g i) : Bj N g :=
  ⟨fun i hi => by rw [← e i hi]; exact hf.lt i hi, fun i j hi hj q => hf.inj i j hi hj (by rw [e i hi, e j hj]; exact q)⟩

/-- an exchange behind a permutation makes one ring more or one less; one more where it makes a fixed point -/
def OneOff (c' c : Nat) (split : Prop) : Prop := (c' = c + 1 ∨ c' + 1 = c) ∧ (split → c' = c + 1)
theorem cyc_sw_top {N a : Nat} {f : Nat → Nat} (ih : ∀ (a b : Nat) (f : Nat → Nat), Bj N f → a < N → b < N → a ≠ b → OneOff (cyc N fun i => sw a b (f i)) (cyc N f) (f a = b ∨ f b = a))
    (h : Bj (N + 1) f) (ha : a < N) : OneOff (cyc (N + 1) fun i => sw a N (f i)) (cyc (N + 1) f) (f a = N ∨ f N = a) := by
  by_cases hNN : f N = N
  · -- N stands by itself: it is put into the ring of a
    have e1 : sw a N (f N) = a := by rw [hNN, sw_b]
    have key : cyc N (byp N fun i => sw a N (f i)) = cyc N (byp N f) := cyc_congr _ _ _ fun i hi => by
      have hi1 : f i ≠ N := fun z => by
        have := h.inj i N (by omega) (by omega) (z.trans hNN.symm)
        omega
      show (if sw a N (f i) = N then sw a N (f N) else sw a N (f i)) = if f i = N then f N else f i
      rw [e1, if_neg hi1]
      by_cases hi2 : f i = a
      · rw [hi2, sw_a, if_pos rfl]
      · rw [sw_o hi2 hi1, if_neg hi1]
    have c1 : cyc (N + 1) (fun i => sw a N (f i)) = cyc N (byp N fun i => sw a N (f i)) := by
      show _ + (if sw a N (f N) = N then 1 else 0) = _
      rw [e1, if_neg (Nat.ne_of_lt ha)]
      rfl
    have c2 : cyc (N + 1) f = cyc N (byp N f) + 1 := by
      show _ + (if f N = N then 1 else 0) = _
      rw [if_pos hNN]
    rw [c1, c2, key]
    refine ⟨.inr rfl, fun s => ?_⟩
    rcases s with s | s
    · have := h.inj a N (by omega) (by omega) (s.trans hNN.symm)
      omega
    · omega
  · by_cases hNa : f N = a
    · -- N is cut off
      have e1 : sw a N (f N) = N := by rw [hNa, sw_a]
      have key : cyc N (byp N fun i => sw a N (f i)) = cyc N (byp N f) := cyc_congr _ _ _ fun i hi => by
        have hi1 : f i ≠ a := fun z => by
          have := h.inj i N (by omega) (by omega) (z.trans hNa.symm)
          omega
        show (if sw a N (f i) = N then sw a N (f N) else sw a N (f i)) = if f i = N then f N else f i
        rw [e1]
        by_cases hi2 : f i = N
        · rw [hi2, sw_b, if_neg (Nat.ne_of_lt ha), if_pos rfl, hNa]
        · rw [sw_o hi1 hi2, if_neg hi2, if_neg hi2]
      have c1 : cyc (N + 1) (fun i => sw a N (f i)) = cyc N (byp N fun i => sw a N (f i)) + 1 := by
        show _ + (if sw a N (f N) = N then 1 else 0) = _
        rw [if_pos e1]
      have c2 : cyc (N + 1) f = cyc N (byp N f) := by
        show _ + (if f N = N then 1 else 0) = _
        rw [if_neg hNN]
        rfl
      rw [c1, c2, key]
      exact ⟨.inl rfl, fun _ => rfl⟩
    · -- N is passed by on both sides
      have hlt := h.lt N (by omega)
      have e1 : sw a N (f N) = f N := sw_o hNa hNN
      have key : cyc N (byp N fun i => sw a N (f i)) = cyc N (fun i => sw a (f N) (byp N f i)) := cyc_congr _ _ _ fun i hi => by
        have hi0 : f i ≠ f N := fun z => by
          have := h.inj i N (by omega) (by omega) z
          omega
        show (if sw a N (f i) = N then sw a N (f N) else sw a N (f i)) = sw a (f N) (if f i = N then f N else f i)
        rw [e1]
        by_cases hi1 : f i = a
        · rw [hi1, sw_a, if_pos rfl, if_neg (Nat.ne_of_lt ha), sw_a]
        · by_cases hi2 : f i = N
          · rw [hi2, sw_b, if_neg (Nat.ne_of_lt ha), if_pos rfl, sw_b]
          · rw [sw_o hi1 hi2, if_neg hi2, sw_o hi1 hi0]
      have c1 : cyc (N + 1) (fun i => sw a N (f i)) = cyc N (byp N fun i => sw a N (f i)) := by
        show _ + (if sw a N (f N) = N then 1 else 0) = _
        rw [e1, if_neg hNN]
        rfl
      have c2 : cyc (N + 1) f = cyc N (byp N f) := by
        show _ + (if f N = N then 1 else 0) = _
        rw [if_neg hNN]
        rfl
      rw [c1, c2, key]
      have r := ih a (f N) (byp N f) h.byp ha (by omega) (fun z => hNa z.symm)
      refine ⟨r.1, fun s => r.2 (.inl ?_)⟩
      rcases s with s | s
      · show (if f a = N then f N else f a) = f N
        rw [if_pos s]
      · exact absurd s hNa
theorem cyc_sw : ∀ (N a b : Nat) (f : Nat → Nat), Bj N f → a < N → b < N → a ≠ b → OneOff (cyc N fun i => sw a b (f i)) (cyc N f) (f a = b ∨ f b = a)
  | 0, a, _, _, _, ha, _, _ => absurd ha (Nat.not_lt_zero a)
  | N + 1, a, b, f, h, ha, hb, hab => by
    by_cases hbN : b = N
    · subst hbN
      exact cyc_sw_top (cyc_sw b) h (by omega)
    · by_cases haN : a = N
      · subst haN
        have r := cyc_sw_top (a := b) (cyc_sw a) h (by omega)
        rw [show (fun i => sw a b (f i)) = fun i => sw b a (f i) from funext fun i => sw_comm a b (f i)]
        exact ⟨r.1, fun s => r.2 (s.symm)⟩
      · -- neither is N
        have r := cyc_sw N a b (byp N f) h.byp (by omega) (by omega) hab
        have iffN : ∀ y, sw a b y = N ↔ y = N := fun y => by
          unfold sw
          split
          · omega
          · split <;> omega
        have key : cyc N (byp N fun i => sw a b (f i)) = cyc N (fun i => sw a b (byp N f i)) := cyc_congr _ _ _ fun i _ => by
          show (if sw a b (f i) = N then sw a b (f N) else sw a b (f i)) = sw a b (if f i = N then f N else f i)
          by_cases e : f i = N
          · rw [if_pos e, if_pos ((iffN _).mpr e)]
          · rw [if_neg e, if_neg fun z => e ((iffN _).mp z)]
        have c1 : cyc (N + 1) (fun i => sw a b (f i)) = cyc N (fun i => sw a b (byp N f i)) + if f N = N then 1 else 0 := by
          show cyc N (byp N fun i => sw a b (f i)) + (if sw a b (f N) = N then 1 else 0) = _
          rw [key]
          by_cases e : f N = N
          · rw [if_pos e, if_pos ((iffN _).mpr e)]
          · rw [if_neg e, if_neg fun z => e ((iffN _).mp z)]
        have c2 : cyc (N + 1) f = cyc N (byp N f) + if f N = N then 1 else 0 := rfl
        rw [c1, c2]
        refine ⟨by rcases r.1 with q | q <;> omega, fun s => ?_⟩
        have s2 : byp N f a = b ∨ byp N f b = a := by
          unfold byp
          rcases s with s | s
          · exact .inl (by rw [if_neg (by omega)]; exact s)
          · exact .inr (by rw [if_neg (by omega)]; exact s)
        have := r.2 s2
        omega

/-- the number of rings is the same behind a renaming -/
theorem cyc_conj_le : ∀ (m N : Nat) (f t ti : Nat → Nat), N - cyc N f = m → Bj N f → Bj N t → Bj N ti → (∀ i, i < N → ti (t i) = i) → (∀ i, i < N → t (ti i) = i) → cyc N f ≤ cyc N (fun i => t (f (ti i)))
  | m, N, f, t, ti, hm, hf, ht, hti, h1, h2 => by
    by_cases hid : ∀ i, i < N → f i = i
    · rw [cyc_id N (fun i => t (f (ti i))) fun i hi => by
        show t (f (ti i)) = i
        rw [hid _ (hti.lt i hi), h2 i hi]]
      exact cyc_le N f
    · obtain ⟨a, ha⟩ := Classical.not_forall.mp hid
      obtain ⟨ha, hne⟩ := Classical.not_imp.mp ha
      have hb := hf.lt a ha
      have r := cyc_sw N a (f a) f hf ha hb (fun z => hne z.symm)
      have up : cyc N (fun i => sw a (f a) (f i)) = cyc N f + 1 := r.2 (.inl rfl)
      have hle := cyc_le N fun i => sw a (f a) (f i)
      have hf2 : Bj N fun i => sw a (f a) (f i) := hf.sw ha hb
      have ih := cyc_conj_le (m - 1) N (fun i => sw a (f a) (f i)) t ti (by omega) hf2 ht hti h1 h2
      have hc : Bj N fun i => t (f (ti i)) := ht.comp (hf.comp hti)
      have e : cyc N (fun i => t (sw a (f a) (f (ti i)))) = cyc N (fun i => sw (t a) (t (f a)) (t (f (ti i)))) := cyc_congr _ _ _ fun i hi => by
        have hlt := hf.lt _ (hti.lt i hi)
        by_cases q1 : f (ti i) = a
        · rw [q1, sw_a, sw_a]
        · by_cases q2 : f (ti i) = f a
          · rw [q2, sw_b, sw_b]
          · rw [sw_o q1 q2, sw_o (fun z => q1 (ht.inj _ _ hlt ha z)) (fun z => q2 (ht.inj _ _ hlt hb z))]
      have r2 := cyc_sw N (t a) (t (f a)) (fun i => t (f (ti i))) hc (ht.lt _ ha) (ht.lt _ hb) (fun z => hne (ht.inj _ _ ha hb z).symm)
      rw [← e] at r2
      rcases r2.1 with q | q <;> omega
  termination_by m => m
  decreasing_by omega
theorem cyc_conj {N : Nat} {f t ti : Nat → Nat} (hf : Bj N f) (ht : Bj N t) (hti : Bj N ti) (h1 : ∀ i, i < N → ti (t i) = i) (h2 : ∀ i, i < N → t (ti i) = i) : cyc N (fun i => t (f (ti i))) = cyc N f := by
  refine Nat.le_antisymm ?_ (cyc_conj_le _ N f t ti rfl hf ht hti h1 h2)
  have hc : Bj N fun i => t (f (ti i)) := ht.comp (hf.comp hti)
  refine Nat.le_trans (cyc_conj_le _ N _ ti t rfl hc hti ht h2 h1) (Nat.le_of_eq (cyc_congr _ _ _ fun i hi => ?_))
  show ti (t (f (ti (t i)))) = f i
  rw [h1 i hi, h1 _ (hf.lt i hi)]
end K8
/-! K3: the mathematics of rows: an exchange of two blocks turns the rings' number by at most two, the chosen one by two. -/
namespace K8

/-- the stretches i .. j - 1 and k .. l - 1 exchanged -/
def exch {α : Type} (r : List α) (i j k l : Nat) : List α := r.take i ++ ((r.drop k).take (l - k) ++ ((r.drop j).take (k - j) ++ ((r.drop i).take (j - i) ++ r.drop l)))
structure Mv (n i j k l : Nat) : Prop where
  ij : i < j
  jk : j ≤ k
  kl : k < l
  ln : l ≤ n
/-- from which place the piece comes -/
def fro (i j k l q : Nat) : Nat := if q < i then q else if q < i + (l - k) then q - i + k else if q < i + (l - k) + (k - j) then q - (i + (l - k)) + j else if q < l then q - (i + (l - k) + (k - j)) + i else q
theorem exch_get {α : Type} {r : List α} {i j k l : Nat} (h : Mv r.length i j k l) (q : Nat) : (exch r i j k l)[q]? = r[fro i j k l q]? := by
  obtain ⟨h1, h2, h3, h4⟩ := h
  have lA : (r.take i).length = i := by rw [List.length_take]; omega
  have lD : ((r.drop k).take (l - k)).length = l - k := by rw [List.length_take, List.length_drop]; omega
  have lC : ((r.drop j).take (k - j)).length = k - j := by rw [List.length_take, List.length_drop]; omega
  have lB : ((r.drop i).take (j - i)).length = j - i := by rw [List.length_take, List.length_drop]; omega
  unfold exch fro
  rw [List.getElem?_append, lA]
  by_cases c1 : q < i
  · rw [if_pos c1, if_pos c1, List.getElem?_take, if_pos c1]
  · rw [if_neg c1, if_neg c1, List.getElem?_append, lD]
    by_cases c2 : q < i + (l - k)
    · rw [if_pos (by omega), if_pos c2, List.getElem?_take, if_pos (by omega), List.getElem?_drop]
      congr 1
      omega
    · rw [if_neg (by omega), if_neg c2, List.getElem?_append, lC]
      by_cases c3 : q < i + (l - k) + (k - j)
      · rw [if_pos (by omega), if_pos c3, List.getElem?_take, if_pos (by omega), List.getElem?_drop]
        congr 1
        omega
      · rw [if_neg (by omega), if_neg c3, List.getElem?_append, lB]
        by_cases c4 : q < l
        · rw [if_pos (by omega), if_pos c4, List.getElem?_take, if_pos (by omega), List.getElem?_drop]
          congr 1
          omega
        · rw [if_neg (by omega), if_neg c4, List.getElem?_drop]
          congr 1
          omega
theorem exch_parts {α : Type} {r : List α} {i j k l : Nat} (h : Mv r.length i j k l) : r = r.take i ++ ((r.drop i).take (j - i) ++ ((r.drop j).take (k - j) ++ ((r.drop k).take (l - k) ++ r.drop l))) := by
  obtain ⟨h1, h2, h3, h4⟩ := h
  have e1 : (r.drop k).take (l - k) ++ r.drop l = r.drop k := by
    have := List.take_append_drop (l - k) (r.drop k)
    rw [List.drop_drop, show k + (l - k) = l by omega] at this
    exact this
  have e2 : (r.drop j).take (k - j) ++ r.drop k = r.drop j := by
    have := List.take_append_drop (k - j) (r.drop j)
    rw [List.drop_drop, show j + (k - j) = k by omega] at this
    exact this
  have e3 : (r.drop i).take (j - i) ++ r.drop j = r.drop i := by
    have := List.take_append_drop (j - i) (r.drop i)
    rw [List.drop_drop, show i + (j - i) = j by omega] at this
    exact this
  rw [e1, e2, e3, List.take_append_drop]
theorem exch_perm {α : Type} {r : List α} {i j k l : Nat} (h : Mv r.length i j k l) : (exch r i j k l).Perm r := by
  have e := exch_parts h
  refine List.Perm.trans ?_ (List.Perm.of_eq e.symm)
  unfold exch
  refine List.Perm.append_left _ ?_
  generalize (r.drop k).take (l - k) = D
  generalize (r.drop j).take (k - j) = C
  generalize (r.drop i).take (j - i) = B
  generalize r.drop l = E
  -- D ++ (C ++ (B ++ E)) is B ++ (C ++ (D ++ E))
  refine List.Perm.trans ?_ (List.Perm.trans (List.perm_append_comm_assoc C B (D ++ E)) (List.Perm.refl _))
  refine List.Perm.trans (List.perm_append_comm_assoc D C (B ++ E)) (List.Perm.append_left C ?_)
  exact List.perm_append_comm_assoc D B E
theorem exch_length {α : Type} {r : List α} {i j k l : Nat} (h : Mv r.length i j k l) : (exch r i j k l).length = r.length := (exch_perm h).length_eq
theorem exch_map {α β : Type} (f : α → β) (r : List α) (i j k l : Nat) : exch (r.map f) i j k l = (exch r i j k l).map f := by
  unfold exch
  simp only [List.map_append, List.map_take, List.map_drop]
/-- the way back is an exchange too -/
theorem exch_back {α : Type} {r : List α} {i j k l : Nat} (h : Mv r.length i j k l) : exch (exch r i j k l) i (i + (l - k)) (i + (l - k) + (k - j)) l = r ∧ Mv r.length i (i + (l - k)) (i + (l - k) + (k - j)) l := by
  have h' : Mv r.length i (i + (l - k)) (i + (l - k) + (k - j)) l := by
    obtain ⟨h1, h2, h3, h4⟩ := h
    exact ⟨by omega, by omega, by omega, by omega⟩
  refine ⟨List.ext_getElem? fun q => ?_, h'⟩
  rw [exch_get (by rw [exch_length h]; exact h'), exch_get h]
  congr 1
  obtain ⟨h1, h2, h3, h4⟩ := h
  unfold fro
  (repeat' split) <;> omega

/-! ### rows -/
/-- each of 1 .. n once -/
def IsRow (n : Nat) (r : List Nat) : Prop := r.Perm (List.range' 1 n)
theorem IsRow.len {n : Nat} {r : List Nat} (h : IsRow n r) : r.length = n := by
  rw [List.Perm.length_eq h, List.length_range']
theorem IsRow.nd {n : Nat} {r : List Nat} (h : IsRow n r) : r.Nodup := (List.Perm.nodup_iff h).mpr (List.nodup_range' 1)
theorem IsRow.mem {n : Nat} {r : List Nat} (h : IsRow n r) {x : Nat} : x ∈ r ↔ 1 ≤ x ∧ x ≤ n := by
  rw [List.Perm.mem_iff h, List.mem_range'_1]
  omega
theorem IsRow.exch {n : Nat} {r : List Nat} (h : IsRow n r) {i j k l : Nat} (m : Mv n i j k l) : IsRow n (exch r i j k l) :=
  (exch_perm (by rw [h.len]; exact m)).trans h
theorem IsRow.sorted (n : Nat) : IsRow n (List.range' 1 n) := List.Perm.refl _

/-- the extended row: 0 ahead, n + 1 behind -/
def ev (r : List Nat) : Nat → Nat
  | 0 => 0
  | p + 1 => r.getD p (r.length + 1)
/-- place p leads to the place ahead of the number that is one greater -/
def rho (r : List Nat) (p : Nat) : Nat := r.idxOf (ev r p + 1)
theorem ev_in {n : Nat} {r : List Nat} (h : IsRow n r) {p : Nat} (h1 : p < n) : ∃ (hp : p < r.length), ev r (p + 1) = r[p] ∧ r[p] ∈ r := by
  have hl := h.len
  refine ⟨by omega, ?_, List.getElem_mem _⟩
  show r.getD p _ = _
  rw [List.getD_eq_getElem?_getD, List.getElem?_eq_getElem (by omega)]
  rfl
theorem ev_last {n : Nat} {r : List Nat} (h : IsRow n r) : ev r (n + 1) = n + 1 := by
  show r.getD n _ = _
  rw [List.getD_eq_getElem?_getD, List.getElem?_eq_none (by rw [h.len]; exact Nat.le_refl _), h.len]
  rfl
theorem ev_le {n : Nat} {r : List Nat} (h : IsRow n r) {p : Nat} (hp : p ≤ n) : ev r p ≤ n := by
  cases p with
  | zero => exact Nat.zero_le _
  | succ p =>
    obtain ⟨h1, h2, h3⟩ := ev_in h (show p < n by omega)
    rw [h2]
    exact (h.mem.mp h3).2
/-- the place of a number, and back -/
theorem idx_ev {n : Nat} {r : List Nat} (h : IsRow n r) {p : Nat} (hp : p ≤ n) : r.idxOf (ev r (p + 1)) = p := by
  by_cases hpn : p = n
  · subst hpn
    rw [ev_last h, List.idxOf_eq_length fun z => by have := (h.mem.mp z).2; omega, h.len]
  · obtain ⟨h1, h2, _⟩ := ev_in h (show p < n by omega)
    rw [h2]
    exact h.nd.idxOf_getElem p h1
theorem ev_idx {n : Nat} {r : List Nat} (h : IsRow n r) {u : Nat} (h1 : 1 ≤ u) (h2 : u ≤ n + 1) : ev r (r.idxOf u + 1) = u := by
  by_cases hu : u = n + 1
  · subst hu
    rw [List.idxOf_eq_length fun z => by have := (h.mem.mp z).2; omega, h.len]
    exact ev_last h
  · have hm : u ∈ r := h.mem.mpr ⟨h1, by omega⟩
    have hlt := List.idxOf_lt_length_of_mem hm
    show r.getD (r.idxOf u) _ = u
    rw [List.getD_eq_getElem?_getD, List.getElem?_eq_getElem hlt]
    exact List.getElem_idxOf hlt
theorem idx_le {n : Nat} {r : List Nat} (h : IsRow n r) (u : Nat) : r.idxOf u ≤ n := by
  have := List.idxOf_le_length (l := r) (a := u)
  rw [h.len] at this
  exact this
theorem ev_inj {n : Nat} {r : List Nat} (h : IsRow n r) {p q : Nat} (hp : p ≤ n) (hq : q ≤ n) (e : ev r p = ev r q) : p = q := by
  have pos : ∀ p, p < n → 1 ≤ ev r (p + 1) := fun p hp => by
    obtain ⟨h1, h2, h3⟩ := ev_in h hp
    rw [h2]
    exact (h.mem.mp h3).1
  cases p with
  | zero =>
    cases q with
    | zero => rfl
    | succ q =>
      have := pos q (by omega)
      rw [← e] at this
      exact absurd this (by show ¬ 1 ≤ 0; omega)
  | succ p =>
    cases q with
    | zero =>
      have := pos p (by omega)
      rw [e] at this
      exact absurd this (by show ¬ 1 ≤ 0; omega)
    | succ q =>
      have a := idx_ev h (show p ≤ n by omega)
      have b := idx_ev h (show q ≤ n by omega)
      rw [e, b] at a
      rw [a]
theorem rho_bj {n : Nat} {r : List Nat} (h : IsRow n r) : Bj (n + 1) (rho r) := by
  refine ⟨fun p _ => Nat.lt_succ_of_le (idx_le h _), fun p q hp hq e => ?_⟩
  unfold rho at e
  have a := ev_idx h (show 1 ≤ ev r p + 1 by omega) (Nat.succ_le_succ (ev_le h (show p ≤ n by omega)))
  have b := ev_idx h (show 1 ≤ ev r q + 1 by omega) (Nat.succ_le_succ (ev_le h (show q ≤ n by omega)))
  rw [e, b] at a
  exact ev_inj h (by omega) (by omega) (by omega)
theorem ev_sorted {n p : Nat} (hp : p ≤ n + 1) : ev (List.range' 1 n) p = p := by
  cases p with
  | zero => rfl
  | succ p =>
    show (List.range' 1 n).getD p _ = p + 1
    rw [List.getD_eq_getElem?_getD]
    by_cases hpn : p < n
    · rw [List.getElem?_range' hpn]
      show 1 + 1 * p = p + 1
      omega
    · rw [List.getElem?_eq_none (by rw [List.length_range']; omega), List.length_range']
      show n + 1 = p + 1
      omega
theorem rho_sorted {n p : Nat} (hp : p ≤ n) : rho (List.range' 1 n) p = p := by
  unfold rho
  rw [ev_sorted (by omega)]
  have := idx_ev (IsRow.sorted n) hp
  rw [ev_sorted (by omega)] at this
  exact this
/-- the number of the block rings -/
def cn (n : Nat) (r : List Nat) : Nat := cyc (n + 1) (rho r)
theorem cn_sorted (n : Nat) : cn n (List.range' 1 n) = n + 1 := cyc_id _ _ fun _ hi => rho_sorted (by omega)
theorem cn_le (n : Nat) (r : List Nat) : cn n r ≤ n + 1 := cyc_le _ _

/-! ### one exchange -/
def bt (i j k l : Nat) : Nat → Nat
  | 0 => 0
  | p + 1 => fro i j k l p + 1
def bti (i j k l : Nat) (q : Nat) : Nat := if q ≤ i then q else if q ≤ j then q + (l - k) + (k - j) else if q ≤ k then q - j + (i + (l - k)) else if q ≤ l then q - k + i else q
section
variable {n i j k l : Nat} (m : Mv n i j k l)
include m
theorem bt_le {p : Nat} (hp : p ≤ n) : bt i j k l p ≤ n := by
  obtain ⟨h1, h2, h3, h4⟩ := m
  cases p with
  | zero => exact Nat.zero_le _
  | succ p =>
    show fro i j k l p + 1 ≤ n
    unfold fro
    (repeat' split) <;> omega
theorem bti_le {p : Nat} (hp : p ≤ n) : bti i j k l p ≤ n := by
  obtain ⟨h1, h2, h3, h4⟩ := m
  unfold bti
  (repeat' split) <;> omega
theorem bti_bt (p : Nat) : bti i j k l (bt i j k l p) = p := by
  obtain ⟨h1, h2, h3, h4⟩ := m
  cases p with
  | zero => exact if_pos (Nat.zero_le _)
  | succ p =>
    show bti i j k l (fro i j k l p + 1) = p + 1
    unfold bti fro
    (repeat' split) <;> omega
theorem bt_bti (q : Nat) : bt i j k l (bti i j k l q) = q := by
  obtain ⟨h1, h2, h3, h4⟩ := m
  have key : ∀ p, bti i j k l q = p → bt i j k l p = q := fun p e => by
    unfold bti at e
    cases p with
    | zero =>
      show 0 = q
      (repeat' split at e) <;> omega
    | succ p =>
      show fro i j k l p + 1 = q
      unfold fro
      (repeat' split at e) <;> (repeat' split) <;> omega
  exact key _ rfl
theorem bt_bj : Bj (n + 1) (bt i j k l) := ⟨fun p hp => Nat.lt_succ_of_le (bt_le m (by omega)), fun p q _ _ e => by
  have := congrArg (bti i j k l) e
  rw [bti_bt m, bti_bt m] at this
  exact this⟩
theorem bti_bj : Bj (n + 1) (bti i j k l) := ⟨fun p hp => Nat.lt_succ_of_le (bti_le m (by omega)), fun p q _ _ e => by
  have := congrArg (bt i j k l) e
  rw [bt_bti m, bt_bti m] at this
  exact this⟩
theorem gam {g : Nat} (hg : g ≤ n) : bt i j k l (bti i j k l (g + 1) - 1) = sw j l (sw i k g) := by
  obtain ⟨h1, h2, h3, h4⟩ := m
  have key : ∀ p, bti i j k l (g + 1) - 1 = p → bt i j k l p = sw j l (sw i k g) := fun p e => by
    unfold bti at e
    unfold sw
    cases p with
    | zero =>
      show 0 = _
      (repeat' split at e) <;> (repeat' split) <;> omega
    | succ p =>
      show fro i j k l p + 1 = _
      unfold fro
      (repeat' split at e) <;> (repeat' split) <;> omega
  exact key _ rfl
theorem ev_exch {r : List Nat} (h : IsRow n r) (p : Nat) : ev (exch r i j k l) p = ev r (bt i j k l p) := by
  cases p with
  | zero => rfl
  | succ p =>
    show (exch r i j k l).getD p _ = r.getD (fro i j k l p) _
    rw [List.getD_eq_getElem?_getD, List.getD_eq_getElem?_getD, exch_get (by rw [h.len]; exact m), (h.exch m).len, h.len]
theorem rho_exch {r : List Nat} (h : IsRow n r) {p : Nat} (hp : p ≤ n) : rho (exch r i j k l) p = bti i j k l (rho r (bt i j k l p) + 1) - 1 := by
  unfold rho
  rw [ev_exch m h]
  have hb := bt_le m hp
  generalize bt i j k l p = q at hb ⊢
  have hu := ev_le h hb
  have e1 := ev_idx h (show 1 ≤ ev r q + 1 by omega) (show ev r q + 1 ≤ n + 1 by omega)
  have hx := idx_le h (ev r q + 1)
  generalize r.idxOf (ev r q + 1) = x at e1 hx ⊢
  have e2 := bt_bti m (x + 1)
  have h3 : 1 ≤ bti i j k l (x + 1) ∧ bti i j k l (x + 1) ≤ n + 1 := by
    obtain ⟨h1, h2, h3, h4⟩ := m
    unfold bti
    refine ⟨?_, ?_⟩ <;> (repeat' split) <;> omega
  obtain ⟨y, hy⟩ : ∃ y, bti i j k l (x + 1) = y + 1 := ⟨bti i j k l (x + 1) - 1, by omega⟩
  rw [hy] at h3 e2 ⊢
  have e3 := idx_ev (h.exch m) (show y ≤ n by omega)
  rw [ev_exch m h, e2, e1] at e3
  rw [e3]
  omega
theorem cn_exch {r : List Nat} (h : IsRow n r) : cn n (exch r i j k l) = cyc (n + 1) fun q => sw j l (sw i k (rho r q)) := by
  unfold cn
  rw [← cyc_conj (rho_bj (h.exch m)) (bt_bj m) (bti_bj m) (fun q _ => bti_bt m q) (fun q _ => bt_bti m q)]
  refine cyc_congr _ _ _ fun q hq => ?_
  show bt i j k l (rho (exch r i j k l) (bti i j k l q)) = _
  rw [rho_exch m h (bti_le m (by omega)), bt_bti m, gam m (show rho r q ≤ n from idx_le h _)]
theorem cn_step {r : List Nat} (h : IsRow n r) : cn n (exch r i j k l) ≤ cn n r + 2 := by
  rw [cn_exch m h]
  have b := rho_bj h
  obtain ⟨h1, h2, h3, h4⟩ := m
  have s1 := (cyc_sw (n + 1) i k (rho r) b (by omega) (by omega) (by omega)).1
  have s2 := (cyc_sw (n + 1) j l _ (b.sw (a := i) (b := k) (by omega) (by omega)) (by omega) (by omega) (by omega)).1
  unfold cn
  omega
theorem cn_two {r : List Nat} (h : IsRow n r) (e1 : rho r i = k) (e2 : rho r j = l) : cn n (exch r i j k l) = cn n r + 2 := by
  rw [cn_exch m h]
  have b := rho_bj h
  obtain ⟨h1, h2, h3, h4⟩ := m
  have s1 := (cyc_sw (n + 1) i k (rho r) b (by omega) (by omega) (by omega)).2 (.inl e1)
  have s2 := (cyc_sw (n + 1) j l _ (b.sw (a := i) (b := k) (by omega) (by omega)) (by omega) (by omega) (by omega)).2 (.inl (by rw [e2]; exact sw_o (by omega) (by omega)))
  unfold cn
  omega
end
end K8
/-! K4: scripts of exchanges; the relative row; the least number. -/
namespace K8

/-- the chosen exchange -/
structure Chosen (n : Nat) (r : List Nat) (i j k l : Nat) : Prop where
  lt : i < n
  first : ∀ p, p < i → r[p]? = some (p + 1)
  off : r[i]? ≠ some (i + 1)
  kk : k = r.idxOf (i + 1)
  gr : ∃ g, g ∈ (r.drop i).take (k - i) ∧ (∀ y, y ∈ (r.drop i).take (k - i) → y ≤ g) ∧ j = r.idxOf g + 1 ∧ l = r.idxOf (g + 1)
theorem idx_of_get {n : Nat} {r : List Nat} (h : IsRow n r) {p x : Nat} (e : r[p]? = some x) : r.idxOf x = p := by
  obtain ⟨hp, ex⟩ := List.getElem?_eq_some_iff.mp e
  rw [← ex]
  exact h.nd.idxOf_getElem p hp
theorem get_of_idx {n : Nat} {r : List Nat} (h : IsRow n r) {x : Nat} (h1 : 1 ≤ x) (h2 : x ≤ n) : r[r.idxOf x]? = some x := by
  have hm := h.mem.mpr ⟨h1, h2⟩
  have hlt := List.idxOf_lt_length_of_mem hm
  rw [List.getElem?_eq_getElem hlt, List.getElem_idxOf hlt]
theorem mem_cut {r : List Nat} {i k y : Nat} : y ∈ (r.drop i).take (k - i) ↔ ∃ p, i ≤ p ∧ p < k ∧ r[p]? = some y := by
  constructor
  · intro h
    obtain ⟨q, hq⟩ := List.mem_iff_getElem?.mp h
    rw [List.getElem?_take] at hq
    split at hq
    · rename_i hlt
      rw [List.getElem?_drop] at hq
      exact ⟨i + q, by omega, by omega, hq⟩
    · cases hq
  · rintro ⟨p, h1, h2, h3⟩
    refine List.mem_iff_getElem?.mpr ⟨p - i, ?_⟩
    rw [List.getElem?_take, if_pos (by omega), List.getElem?_drop, show i + (p - i) = p by omega]
    exact h3
/-- the first place that holds another number: the number that belongs there stands further right -/
theorem first_off {n : Nat} {r : List Nat} (h : IsRow n r) {i : Nat} (hi : i < n) (hf : ∀ p, p < i → r[p]? = some (p + 1)) (ho : r[i]? ≠ some (i + 1)) : i < r.idxOf (i + 1) ∧ r.idxOf (i + 1) < n := by
  have e := get_of_idx h (show 1 ≤ i + 1 by omega) (show i + 1 ≤ n by omega)
  have hlt : r.idxOf (i + 1) < n := by
    have := List.idxOf_lt_length_of_mem (h.mem.mpr ⟨show 1 ≤ i + 1 by omega, show i + 1 ≤ n by omega⟩)
    rw [h.len] at this
    exact this
  refine ⟨?_, hlt⟩
  rcases Nat.lt_trichotomy i (r.idxOf (i + 1)) with c | c | c
  · exact c
  · exact absurd (by rw [← c] at e; exact e) ho
  · have := hf _ c
    rw [e] at this
    have := Option.some.inj this
    omega
theorem Chosen.mv {n : Nat} {r : List Nat} {i j k l : Nat} (h : IsRow n r) (c : Chosen n r i j k l) : Mv n i j k l ∧ rho r i = k ∧ rho r j = l := by
  obtain ⟨hi, hf, ho, rfl, g, hg, hmax, rfl, rfl⟩ := c
  obtain ⟨k1, k2⟩ := first_off h hi hf ho
  have ek := get_of_idx h (show 1 ≤ i + 1 by omega) (show i + 1 ≤ n by omega)
  obtain ⟨p, p1, p2, p3⟩ := mem_cut.mp hg
  have eg := idx_of_get h p3
  have gm : 1 ≤ g ∧ g ≤ n := h.mem.mp (List.mem_iff_getElem?.mpr ⟨p, p3⟩)
  -- the greatest number is greater than i + 1
  have big : i + 2 ≤ g := by
    have hri : i < r.length := by rw [h.len]; exact hi
    have e0 : r[i]? = some r[i] := List.getElem?_eq_getElem hri
    have m0 := (h.mem.mp (List.getElem_mem hri)).1
    have le0 : r[i] ≤ g := hmax _ (mem_cut.mpr ⟨i, by omega, by omega, e0⟩)
    have n1 : r[i] ≠ i + 1 := fun z => ho (by rw [e0, z])
    have n2 : ¬ r[i] ≤ i := fun z => by
      have q := hf (r[i] - 1) (by omega)
      rw [show r[i] - 1 + 1 = r[i] by omega] at q
      have a := idx_of_get h q
      have b := idx_of_get h e0
      omega
    omega
  have lgt : r.idxOf (i + 1) < r.idxOf (g + 1) := by
    by_cases hgn : g = n
    · subst hgn
      rw [List.idxOf_eq_length (a := g + 1) fun z => by have := (h.mem.mp z).2; omega, h.len]
      exact k2
    · have e1 := get_of_idx h (show 1 ≤ g + 1 by omega) (show g + 1 ≤ n by omega)
      rcases Nat.lt_or_ge (r.idxOf (i + 1)) (r.idxOf (g + 1)) with q | q
      · exact q
      · exfalso
        rcases Nat.lt_or_ge (r.idxOf (g + 1)) i with q1 | q1
        · have := hf _ q1
          rw [e1] at this
          have := Option.some.inj this
          omega
        · rcases Nat.lt_or_ge (r.idxOf (g + 1)) (r.idxOf (i + 1)) with q2 | q2
          · have := hmax _ (mem_cut.mpr ⟨_, q1, q2, e1⟩)
            omega
          · have e3 : r.idxOf (g + 1) = r.idxOf (i + 1) := by omega
            rw [e3, ek] at e1
            have := Option.some.inj e1
            omega
  refine ⟨⟨by omega, by omega, lgt, idx_le h _⟩, ?_, ?_⟩
  · unfold rho
    congr 2
    cases i with
    | zero => rfl
    | succ i =>
      show r.getD i _ = i + 1
      rw [List.getD_eq_getElem?_getD, hf i (by omega)]
      rfl
  · unfold rho
    congr 2
    show r.getD (r.idxOf g) _ = g
    rw [List.getD_eq_getElem?_getD, get_of_idx h gm.1 gm.2]
    rfl
theorem Chosen.two {n : Nat} {r : List Nat} {i j k l : Nat} (h : IsRow n r) (c : Chosen n r i j k l) : cn n (exch r i j k l) = cn n r + 2 := by
  obtain ⟨m, e1, e2⟩ := c.mv h
  exact cn_two m h e1 e2

/-! ### scripts -/
abbrev Quad := Nat × Nat × Nat × Nat
def exchs {α : Type} (r : List α) : List Quad → List α
  | [] => r
  | (i, j, k, l) :: ms => exchs (exch r i j k l) ms
def Mvs (n : Nat) (ms : List Quad) : Prop := ∀ i j k l, (i, j, k, l) ∈ ms → Mv n i j k l
theorem Mvs.nil (n : Nat) : Mvs n [] := fun _ _ _ _ h => nomatch h
theorem Mvs.cons {n i j k l : Nat} {ms : List Quad} (m : Mv n i j k l) (h : Mvs n ms) : Mvs n ((i, j, k, l) :: ms) := fun a b c d hm => by
  rcases List.mem_cons.mp hm with e | e
  · cases e
    exact m
  · exact h a b c d e
theorem Mvs.head {n i j k l : Nat} {ms : List Quad} (h : Mvs n ((i, j, k, l) :: ms)) : Mv n i j k l := h i j k l List.mem_cons_self
theorem Mvs.tail {n : Nat} {q : Quad} {ms : List Quad} (h : Mvs n (q :: ms)) : Mvs n ms := fun a b c d hm => h a b c d (List.mem_cons_of_mem _ hm)
theorem Mvs.snoc {n i j k l : Nat} {ms : List Quad} (h : Mvs n ms) (m : Mv n i j k l) : Mvs n (ms ++ [(i, j, k, l)]) := fun a b c d hm => by
  rcases List.mem_append.mp hm with e | e
  · exact h a b c d e
  · rcases List.mem_cons.mp e with e | e
    · cases e
      exact m
    · cases e
theorem exchs_snoc {α : Type} : ∀ (ms : List Quad) (r : List α) (i j k l : Nat), exchs r (ms ++ [(i, j, k, l)]) = exch (exchs r ms) i j k l
  | [], _, _, _, _, _ => rfl
  | (a, b, c, d) :: ms, r, i, j, k, l => exchs_snoc ms (exch r a b c d) i j k l
theorem exchs_map {α β : Type} (f : α → β) : ∀ (ms : List Quad) (r : List α), exchs (r.map f) ms = (exchs r ms).map f
  | [], _ => rfl
  | (i, j, k, l) :: ms, r => by
    show exchs (exch (r.map f) i j k l) ms = (exchs (exch r i j k l) ms).map f
    rw [exch_map, exchs_map f ms]
theorem IsRow.exchs {n : Nat} : ∀ {ms : List Quad} {r : List Nat}, IsRow n r → Mvs n ms → IsRow n (K8.exchs r ms)
  | [], _, h, _ => h
  | (i, j, k, l) :: ms, r, h, m => by
    show IsRow n (K8.exchs (K8.exch r i j k l) ms)
    exact IsRow.exchs (h.exch m.head) m.tail
theorem exchs_back {n : Nat} : ∀ (ms : List Quad) (r : List Nat), IsRow n r → Mvs n ms → ∃ ms', Mvs n ms' ∧ ms'.length = ms.length ∧ exchs (exchs r ms) ms' = r
  | [], r, _, _ => ⟨[], Mvs.nil n, rfl, rfl⟩
  | (i, j, k, l) :: ms, r, h, m => by
    obtain ⟨ms', m', e1, e2⟩ := exchs_back ms (exch r i j k l) (h.exch m.head) m.tail
    have b := exch_back (r := r) (by rw [h.len]; exact m.head)
    refine ⟨ms' ++ [(i, i + (l - k), i + (l - k) + (k - j), l)], m'.snoc (by have := b.2; rw [h.len] at this; exact this), ?_, ?_⟩
    · rw [List.length_append, e1]
      rfl
    · rw [exchs_snoc]
      show exch (exchs (exchs (exch r i j k l) ms) ms') _ _ _ _ = r
      rw [e2]
      exact b.1
theorem cn_script {n : Nat} : ∀ (ms : List Quad) (r : List Nat), IsRow n r → Mvs n ms → cn n (exchs r ms) ≤ cn n r + 2 * ms.length
  | [], r, _, _ => Nat.le_add_right _ _
  | (i, j, k, l) :: ms, r, h, m => by
    have s := cn_step m.head h
    have t := cn_script ms (exch r i j k l) (h.exch m.head) m.tail
    show cn n (exchs (exch r i j k l) ms) ≤ cn n r + 2 * (ms.length + 1)
    omega

/-! ### the relative row -/
def rel (a b : List Nat) : List Nat := a.map fun v => b.idxOf v + 1
theorem rel_self {n : Nat} {b : List Nat} (h : IsRow n b) : rel b b = List.range' 1 n := by
  refine List.ext_getElem? fun p => ?_
  unfold rel
  rw [List.getElem?_map]
  by_cases hp : p < n
  · have hl : p < b.length := by rw [h.len]; exact hp
    rw [List.getElem?_eq_getElem hl, List.getElem?_range' hp]
    show some (b.idxOf b[p] + 1) = _
    rw [h.nd.idxOf_getElem p hl]
    congr 1
    omega
  · rw [List.getElem?_eq_none (by rw [h.len]; omega), List.getElem?_eq_none (by rw [List.length_range']; omega)]
    rfl
theorem IsRow.rel {n : Nat} {a b : List Nat} (ha : IsRow n a) (hb : IsRow n b) : IsRow n (rel a b) := by
  have e := rel_self hb
  unfold IsRow
  rw [← e]
  exact List.Perm.map _ (ha.trans hb.symm)
/-- back from the relative row -/
theorem rel_back {n : Nat} {a b : List Nat} (ha : IsRow n a) (hb : IsRow n b) : (rel a b).map (fun u => b.getD (u - 1) 0) = a := by
  unfold K8.rel
  rw [List.map_map]
  refine List.ext_getElem? fun p => ?_
  rw [List.getElem?_map]
  cases e : a[p]? with
  | none => rfl
  | some v =>
    have hv : v ∈ b := hb.mem.mpr (ha.mem.mp (List.mem_iff_getElem?.mpr ⟨p, e⟩))
    have hlt := List.idxOf_lt_length_of_mem hv
    show some (b.getD (b.idxOf v + 1 - 1) 0) = some v
    rw [Nat.add_sub_cancel, List.getD_eq_getElem?_getD, List.getElem?_eq_getElem hlt, List.getElem_idxOf hlt]
    rfl
theorem leads_of_rel {n : Nat} {a b : List Nat} (ha : IsRow n a) (hb : IsRow n b) {ms : List Quad} (e : exchs (rel a b) ms = List.range' 1 n) : exchs a ms = b := by
  have h1 := rel_back ha hb
  have h2 := rel_back hb hb
  rw [rel_self hb] at h2
  rw [← h1, exchs_map, e]
  exact h2
theorem rel_of_leads {n : Nat} {a b : List Nat} (hb : IsRow n b) {ms : List Quad} (e : exchs a ms = b) : exchs (rel a b) ms = List.range' 1 n := by
  unfold rel
  rw [exchs_map, e]
  exact rel_self hb
/-- what least_blocks tells -/
def lb (n : Nat) (a b : List Nat) : Nat := (n + 1 - cn n (rel a b)) / 2
theorem lb_le {n : Nat} {a b : List Nat} (ha : IsRow n a) (hb : IsRow n b) {ms : List Quad} (m : Mvs n ms) (e : exchs a ms = b) : lb n a b ≤ ms.length := by
  have h := cn_script ms (rel a b) (ha.rel hb) m
  rw [rel_of_leads hb e, cn_sorted] at h
  unfold lb
  omega
theorem lb_back {n : Nat} {a b : List Nat} (ha : IsRow n a) (hb : IsRow n b) {ms : List Quad} (m : Mvs n ms) (e : exchs a ms = b) : lb n b a ≤ ms.length := by
  obtain ⟨ms', m', l', e'⟩ := exchs_back ms a ha m
  rw [e] at e'
  rw [← l']
  exact lb_le hb ha m' e'
theorem lb_any {n : Nat} (h : 2 ≤ n) (a b : List Nat) : lb n a b ≤ n * n := by
  have : 2 * n ≤ n * n := Nat.mul_le_mul_right n h
  unfold lb
  omega
theorem lb_self {n : Nat} {a : List Nat} (ha : IsRow n a) : lb n a a = 0 := by
  have := lb_le ha ha (Mvs.nil n) (rfl : exchs a [] = a)
  exact Nat.le_zero.mp this
end K8
/-! K5: the mathematics of the walk along the rings: what is found so far, what is not yet seen. -/
namespace K8
/-- how many of 0 .. N - 1 are not seen -/
def uns (sn : List Nat) : Nat → Nat
  | 0 => 0
  | N + 1 => uns sn N + if N ∈ sn then 0 else 1
theorem uns_congr {sn sm : List Nat} : ∀ (N : Nat), (∀ i, i < N → (i ∈ sn ↔ i ∈ sm)) → uns sn N = uns sm N
  | 0, _ => rfl
  | N + 1, h => by
    have ih := uns_congr N fun i hi => h i (by omega)
    have hN := h N (by omega)
    show uns sn N + (if N ∈ sn then 0 else 1) = uns sm N + (if N ∈ sm then 0 else 1)
    rw [ih]
    by_cases c : N ∈ sn
    · rw [if_pos c, if_pos (hN.mp c)]
    · rw [if_neg c, if_neg fun z => c (hN.mpr z)]
theorem uns_nil : ∀ N : Nat, uns [] N = N
  | 0 => rfl
  | N + 1 => by
    show uns [] N + (if N ∈ ([] : List Nat) then 0 else 1) = N + 1
    rw [uns_nil N, if_neg (fun z => nomatch z)]
theorem uns_all {sn : List Nat} : ∀ N : Nat, (∀ i, i < N → i ∈ sn) → uns sn N = 0
  | 0, _ => rfl
  | N + 1, h => by
    show uns sn N + (if N ∈ sn then 0 else 1) = 0
    rw [uns_all N fun i hi => h i (by omega), if_pos (h N (by omega))]
theorem mem_snoc {sn : List Nat} {x y : Nat} : y ∈ sn ++ [x] ↔ y ∈ sn ∨ y = x := by
  rw [List.mem_append, List.mem_singleton]
theorem uns_add {sn : List Nat} {x : Nat} (hx : x ∉ sn) : ∀ N : Nat, x < N → uns (sn ++ [x]) N + 1 = uns sn N
  | 0, h => absurd h (Nat.not_lt_zero x)
  | N + 1, h => by
    show uns (sn ++ [x]) N + (if N ∈ sn ++ [x] then 0 else 1) + 1 = uns sn N + (if N ∈ sn then 0 else 1)
    by_cases c : x = N
    · subst c
      rw [if_pos (mem_snoc.mpr (.inr rfl)), if_neg hx, uns_congr (sn := sn ++ [x]) (sm := sn) x fun i hi => ⟨fun z => (mem_snoc.mp z).resolve_right (by omega), fun z => mem_snoc.mpr (.inl z)⟩]
    · have ih := uns_add hx N (by omega)
      by_cases d : N ∈ sn
      · rw [if_pos (mem_snoc.mpr (.inl d)), if_pos d]
        omega
      · rw [if_neg fun z => (mem_snoc.mp z).elim d (fun q => c q.symm), if_neg d]
        omega

/-- all rings that were begun are closed: c of them -/
structure Outer (N : Nat) (f : Nat → Nat) (sn : List Nat) (c : Nat) : Prop where
  lt : ∀ y, y ∈ sn → y < N
  ex : ∃ π : Nat → Nat, Bj N π ∧ (∀ y, y ∈ sn → π y = f y) ∧ (∀ y, y ∉ sn → π y = y) ∧ cyc N π = c + uns sn N
/-- one more ring is begun at x0 and has come to z -/
structure Inner (N : Nat) (f : Nat → Nat) (sn : List Nat) (c x0 z : Nat) : Prop where
  lt : ∀ y, y ∈ sn → y < N
  hx : x0 ∈ sn
  hz : z ∈ sn
  ex : ∃ π : Nat → Nat, Bj N π ∧ (∀ y, y ∈ sn → y ≠ z → π y = f y) ∧ π z = x0 ∧ (∀ y, y ∉ sn → π y = y) ∧ cyc N π = c + 1 + uns sn N
theorem Outer.start (N : Nat) (f : Nat → Nat) : Outer N f [] 0 :=
  ⟨fun _ h => (nomatch h), fun y => y, ⟨fun _ h => h, fun _ _ _ _ e => e⟩, fun _ h => (nomatch h), fun _ _ => rfl, by rw [uns_nil, cyc_id N _ fun _ _ => rfl, Nat.zero_add]⟩
theorem Outer.begin {N : Nat} {f : Nat → Nat} {sn : List Nat} {c x : Nat} (o : Outer N f sn c) (hx : x < N) (hn : x ∉ sn) : Inner N f (sn ++ [x]) c x x := by
  obtain ⟨lt, π, b, h1, h2, h3⟩ := o
  refine ⟨fun y hy => ?_, mem_snoc.mpr (.inr rfl), mem_snoc.mpr (.inr rfl), π, b, fun y hy hne => ?_, h2 x hn, fun y hy => h2 y fun z => hy (mem_snoc.mpr (.inl z)), ?_⟩
  · rcases mem_snoc.mp hy with e | e
    · exact lt y e
    · omega
  · exact h1 y ((mem_snoc.mp hy).resolve_right hne)
  · have := uns_add hn N hx
    omega
theorem Inner.step {N : Nat} {f : Nat → Nat} {sn : List Nat} {c x0 z : Nat} (bf : Bj N f) (o : Inner N f sn c x0 z) (hn : f z ∉ sn) : Inner N f (sn ++ [f z]) c x0 (f z) := by
  obtain ⟨lt, hx, hz, π, b, h1, h2, h3, h4⟩ := o
  have hzN := lt z hz
  have hfz := bf.lt z hzN
  have hx0 := lt x0 hx
  have hne : x0 ≠ f z := fun e => hn (by rw [← e]; exact hx)
  have p1 : π (f z) = f z := h3 _ hn
  refine ⟨fun y hy => ?_, mem_snoc.mpr (.inl hx), mem_snoc.mpr (.inr rfl), fun y => sw x0 (f z) (π y), b.sw hx0 hfz, fun y hy hyz => ?_, ?_, fun y hy => ?_, ?_⟩
  · rcases mem_snoc.mp hy with e | e
    · exact lt y e
    · omega
  · have hy := (mem_snoc.mp hy).resolve_right hyz
    by_cases e : y = z
    · subst e
      show sw x0 (f y) (π y) = f y
      rw [h2, sw_a]
    · show sw x0 (f z) (π y) = f y
      have e1 := h1 y hy e
      have q1 : π y ≠ x0 := fun w => e (b.inj _ _ (lt y hy) hzN (w.trans h2.symm))
      have q2 : π y ≠ f z := fun w => e (bf.inj _ _ (lt y hy) hzN (by rw [← e1]; exact w))
      rw [sw_o q1 q2, e1]
  · show sw x0 (f z) (π (f z)) = x0
    rw [p1, sw_b]
  · have hy1 : y ∉ sn := fun w => hy (mem_snoc.mpr (.inl w))
    have hy2 : y ≠ f z := fun w => hy (mem_snoc.mpr (.inr w))
    show sw x0 (f z) (π y) = y
    rw [h3 y hy1, sw_o (fun w => hy1 (by rw [w]; exact hx)) hy2]
  · -- the new one goes round one more: before it was a ring of its own
    have back : cyc N (fun y => sw x0 (f z) (sw x0 (f z) (π y))) = cyc N π := cyc_congr _ _ _ fun y _ => sw_sw _ _ _
    have r := (cyc_sw N x0 (f z) (fun y => sw x0 (f z) (π y)) (b.sw hx0 hfz) hx0 hfz hne).2 (.inr (by
      show sw x0 (f z) (π (f z)) = x0
      rw [p1, sw_b]))
    rw [back] at r
    have u := uns_add hn N hfz
    omega
theorem Inner.close {N : Nat} {f : Nat → Nat} {sn : List Nat} {c x0 z : Nat} (bf : Bj N f) (o : Inner N f sn c x0 z) (hm : f z ∈ sn) : Outer N f sn (c + 1) := by
  obtain ⟨lt, hx, hz, π, b, h1, h2, h3, h4⟩ := o
  have key : f z = x0 := by
    obtain ⟨y, hy, e⟩ := b.surj (f z) (lt _ hm)
    by_cases c1 : y ∈ sn
    · by_cases c2 : y = z
      · rw [← e, c2, h2]
      · have := h1 y c1 c2
        exact absurd (bf.inj y z hy (lt z hz) (this.symm.trans e)) c2
    · have := h3 y c1
      rw [this] at e
      exact absurd (by rw [e]; exact hm) c1
  refine ⟨lt, π, b, fun y hy => ?_, h3, by omega⟩
  by_cases e : y = z
  · rw [e, h2, key]
  · exact h1 y hy e
theorem Outer.done {N : Nat} {f : Nat → Nat} {sn : List Nat} {c : Nat} (o : Outer N f sn c) (h : ∀ y, y < N → y ∈ sn) : cyc N f = c := by
  obtain ⟨lt, π, b, h1, h2, h3⟩ := o
  rw [uns_all N h] at h3
  rw [← cyc_congr N π f fun y hy => h1 y (h y hy)]
  exact h3

/-- one turn of the outer loop at st: the walk has come to pl; ring is what it has passed -/
structure Wk (N : Nat) (f : Nat → Nat) (sn0 : List Nat) (c st : Nat) (sn ring : List Nat) (pl : Nat) : Prop where
  sub : ∀ y, y ∈ sn0 → y ∈ sn
  hp : pl < N
  lt : ∀ y, y ∈ sn → y < N
  two : (ring = [] ∧ pl = st ∧ Outer N f sn c) ∨ (ring ≠ [] ∧ st ∈ sn ∧ ∃ x0 z, Inner N f sn c x0 z ∧ pl = f z)
theorem Wk.start {N : Nat} {f : Nat → Nat} {sn : List Nat} {c st : Nat} (o : Outer N f sn c) (h : st < N) : Wk N f sn c st sn [] st :=
  ⟨fun _ h => h, h, o.lt, .inl ⟨rfl, rfl, o⟩⟩
theorem Wk.next {N : Nat} {f : Nat → Nat} {sn0 sn ring : List Nat} {c st pl : Nat} (bf : Bj N f) (w : Wk N f sn0 c st sn ring pl) (hn : pl ∉ sn) : Wk N f sn0 c st (sn ++ [pl]) (ring ++ [pl]) (f pl) := by
  obtain ⟨sub, hp, lt, two⟩ := w
  have lt' : ∀ y, y ∈ sn ++ [pl] → y < N := fun y hy => by
    rcases mem_snoc.mp hy with e | e
    · exact lt y e
    · omega
  refine ⟨fun y hy => mem_snoc.mpr (.inl (sub y hy)), bf.lt _ hp, lt', .inr ⟨by simp, ?_⟩⟩
  rcases two with ⟨_, e, o⟩ | ⟨_, hs, x0, z, o, e⟩
  · subst e
    exact ⟨mem_snoc.mpr (.inr rfl), pl, pl, o.begin hp hn, rfl⟩
  · subst e
    exact ⟨mem_snoc.mpr (.inl hs), x0, f z, o.step bf hn, rfl⟩
theorem Wk.stop {N : Nat} {f : Nat → Nat} {sn0 sn ring : List Nat} {c st pl : Nat} (bf : Bj N f) (w : Wk N f sn0 c st sn ring pl) (hm : pl ∈ sn) : st ∈ sn ∧ (ring = [] → Outer N f sn c) ∧ (ring ≠ [] → Outer N f sn (c + 1)) := by
  obtain ⟨sub, hp, lt, two⟩ := w
  rcases two with ⟨e0, e, o⟩ | ⟨e0, hs, x0, z, o, e⟩
  · exact ⟨by rw [← e]; exact hm, fun _ => o, fun h => absurd e0 h⟩
  · subst e
    exact ⟨hs, fun h => absurd h e0, fun _ => o.close bf hm⟩
end K8
/-! K6: the text by places; values; the small defs of the rows. -/
namespace K8
open PySem PySem.Spec PyProof.Rows L2

/-! ### the text -/
def topS (i : Nat) : Stmt := PySem.Challenge.pw_turnedrows_k08_whole_blocks_none_fewer.main.body.getD i (.Pass ⟨0, 0, 0, 0⟩)
abbrev sCheck : Stmt := topS 5
abbrev sSorted : Stmt := topS 6
abbrev sNeed : Stmt := topS 7
abbrev sRel : Stmt := topS 8
abbrev sRings : Stmt := topS 9
abbrev sLeads : Stmt := topS 10
abbrev sBRings : Stmt := topS 11
abbrev sExch : Stmt := topS 13
abbrev sLeast : Stmt := topS 15
abbrev sNext : Stmt := topS 16
abbrev sScript : Stmt := topS 17
abbrev sCell : Stmt := topS 19
abbrev sDigits : Stmt := topS 20
abbrev sRich : Stmt := topS 21
abbrev sRow : Stmt := topS 22
abbrev sPMove : Stmt := topS 23
abbrev sMoved : Stmt := topS 24
abbrev sIsInt : Stmt := topS 25
abbrev sLeadsTo : Stmt := topS 26
abbrev sLaw : Stmt := topS 27
/-- the module's facts that the defs ask: the built-ins are still the built-ins -/
structure Txt (mg : Str → Option Value) : Prop where
  len : mg "len" = none
  sorted : mg "sorted" = none
  list : mg "list" = none
  range : mg "range" = none
  tuple : mg "tuple" = none
  min : mg "min" = none
  max : mg "max" = none
  int : mg "int" = none
  isi : mg "isinstance" = none
  bool : mg "bool" = none
  most : ∃ t, mg "MOST_PIECES" = some (.int 40 t)

/-! ### values -/
/-- numbers of a row as ints -/
def ir (r : List Nat) : List Int := r.map fun x : Nat => (x : Int)
abbrev rv (r : List Nat) : List V := (ir r).map V.int
theorem ir_len (r : List Nat) : (ir r).length = r.length := List.length_map _
theorem rv_len (r : List Nat) : (rv r).length = r.length := by rw [List.length_map, ir_len]
theorem rv_get {r : List Nat} {i x : Nat} (h : r[i]? = some x) : (rv r)[i]? = some (.int (x : Int)) := by
  show ((ir r).map V.int)[i]? = _
  unfold ir
  rw [List.getElem?_map, List.getElem?_map, h]
  rfl
theorem rv_inv {r : List Nat} {i : Nat} {v : V} (h : (rv r)[i]? = some v) : ∃ x, r[i]? = some x ∧ v = .int (x : Int) := by
  have h : ((ir r).map V.int)[i]? = some v := h
  unfold ir at h
  rw [List.getElem?_map, List.getElem?_map] at h
  cases e : r[i]? with
  | none => rw [e] at h; cases h
  | some x => rw [e] at h; exact ⟨x, rfl, (Option.some.inj h).symm⟩
theorem rv_app (r s : List Nat) : rv (r ++ s) = rv r ++ rv s := by
  show (ir (r ++ s)).map V.int = (ir r).map V.int ++ (ir s).map V.int
  unfold ir
  rw [List.map_append, List.map_append]
theorem ir_range (n : Nat) : (ir (List.range' 1 n)).map V.int = rgV 1 ((n : Int) + 1) := by
  unfold ir rgV
  rw [show ((n : Int) + 1 - 1).toNat = n by omega, List.range'_eq_map_range, List.map_map, List.map_map]
  refine List.map_congr_left fun i _ => ?_
  show V.int ((1 + i : Nat) : Int) = V.int (1 + (i : Nat))
  congr 1
theorem ir_mem {r : List Nat} {z : Int} : z ∈ ir r ↔ ∃ x, x ∈ r ∧ z = (x : Int) := by
  unfold ir
  rw [List.mem_map]
  constructor
  · rintro ⟨x, h, e⟩
    exact ⟨x, h, e.symm⟩
  · rintro ⟨x, h, e⟩
    exact ⟨x, h, e.symm⟩
theorem small40 {n : Nat} (h : n ≤ 1000) : n ≤ sizeLine := Nat.le_of_lt (small1000 h)
theorem ir_idx : ∀ (r : List Nat) (x : Nat), (ir r).idxOf (x : Int) = r.idxOf x
  | [], _ => rfl
  | a :: r, x => by
    have ih := ir_idx r x
    show (((a : Int) :: ir r).idxOf (x : Int)) = _
    rw [List.idxOf_cons, List.idxOf_cons, ih]
    by_cases h : a = x
    · subst h
      rw [beq_self_eq_true, beq_self_eq_true]
    · rw [beq_false_of_ne h, beq_false_of_ne (show (a : Int) ≠ (x : Int) by omega)]

/-! ### heaps -/
theorem sameU {H : Hp} {p : Addr} {o : HO} (h : H p = none) : Same H (upd H p o) := fun b x e => by
  rw [upd_ne (ne_of_none e h)]
  exact e
theorem sameU2 {H0 H : Hp} {p : Addr} {o : HO} (s : Same H0 H) (h : H0 p = none) : Same H0 (upd H p o) := fun b x e => by
  rw [upd_ne (ne_of_none e h)]
  exact s _ _ e
theorem sameU3 {H0 H : Hp} {p : Addr} {o : HO} (s : Same H0 H) (h : H p = none) : Same H0 (upd H p o) := s.trans (sameU h)
theorem tupK {K : PySem.W.Frag} {H H' : Hp} {a : Addr} {xs : List V} (e : Same H H') (h : SqT K H a xs) : SqT K H' a xs := by
  rcases h with (h | ⟨o, h⟩) | h
  · exact .inl (.inl (e _ _ h))
  · exact .inl (.inr ⟨o, e _ _ h⟩)
  · exact .inr h

/-! ### == of sequences of ints -/
theorem dpInts {K : PySem.W.Frag} {H : Hp} : ∀ ns : List Int, DpAll K H (ns.map V.int) (ns.map PyData.int)
  | [] => .nil
  | n :: ns => .cons (.int n) (dpInts ns)
theorem canInts : ∀ ns : List Int, PyData.canLayAll0 (ns.map PyData.int) = true
  | [] => rfl
  | n :: ns => by
    rw [List.map_cons, PyData.canLayAll0, canInts ns]
    rfl
theorem deepInts : ∀ ns : List Int, PyData.depthAll (ns.map PyData.int) = 0
  | [] => rfl
  | n :: ns => by
    rw [List.map_cons, PyData.depthAll, deepInts ns]
    rfl
theorem shapedT (ns : List Int) : SeqAt.shaped (.tuple (ns.map PyData.int)) = true := by
  unfold SeqAt.shaped
  rw [PyData.canLay0, canInts, PyData.depth, deepInts]
  rfl
theorem shapedL (ns : List Int) : SeqAt.shaped (.list (ns.map PyData.int)) = true := by
  unfold SeqAt.shaped
  rw [PyData.canLay0, canInts, PyData.depth, deepInts]
  rfl
theorem eqvL (ns ms : List Int) : PyData.eqv (.list (ns.map PyData.int)) (.list (ms.map PyData.int)) = decide (ns = ms) := by
  rw [PyData.eqv]
  exact PySem.W.eqvAll_map ns ms
theorem eqvT (ns ms : List Int) : PyData.eqv (.tuple (ns.map PyData.int)) (.tuple (ms.map PyData.int)) = decide (ns = ms) := by
  rw [PyData.eqv]
  exact PySem.W.eqvAll_map ns ms
theorem ir_inj {r s : List Nat} (h : ir r = ir s) : r = s := by
  unfold ir at h
  exact (List.map_inj_right fun a b e => Int.ofNat.inj e).mp h
end K8
/-! K7: check_row, sorted_row, need_same_length, relative_row. -/
namespace K8
open PySem PySem.Spec PyProof.Rows L2
section
variable {P : Program} {w : World} {K : PySem.W.Frag} {mg : Str → Option Value} {base : Heap}
/-! ### check_row -/
theorem scCheck : FnScope ["row", "n"] ["row"] (defScope sCheck) := ⟨rfl, rfl, rfl, by decide +kernel, rfl, by decide +kernel, by decide +kernel⟩
def spCheck (K : PySem.W.Frag) : Sp := fun vs H Q _ => ∃ (p : Addr) (n : Nat) (r : List Nat), vs = [.ref p] ∧ SqT K H p (rv r) ∧ IsRow n r ∧ n ≤ 40 ∧ ∀ H', Same H H' → Q (.ref p) H'
theorem ok_check {f : Addr} {fd : FuncData} (F : Fun K "check_row" "check_row" sCheck f fd) (T : Txt mg) : FnOk P w K mg base CX0 1 f fd ["row"] (spCheck K) := by
  refine F.ok scCheck (fun vs H Q E h => ?_) (fun cdv A outer s H vs Q E hr h => ?_)
  · obtain ⟨p, n, r, rfl, _⟩ := h
    rfl
  · obtain ⟨p, n, r, rfl, hp, hrow, hn, q⟩ := h
    obtain ⟨tm, hm⟩ := T.most
    refine ⟨_, pss_cons (ps_set (i := 1) scCheck.nd rfl (.inl rfl) (pe_callB call_len_seq (by rfl) T.len PySem.boot_len (pa_cons (pv 0) pa_nil)))
      (pss_cons (ps_if (PW.pt (pw_or (pt_cmpR op_gt (pv 1) (pe_glob (v := .int 40) rfl hm ⟨_, rfl⟩) (nomark _))
          (pw_or1 (pt_cmpR (op_neD hr.units) (pe_callB cr_srtT (by rfl) T.sorted boot_sorted (pa_cons (pv 0) pa_nil))
            (pe_listRg rfl (by rfl) T.list (prg_2 (by rfl) T.range pe_int (pe_op op_add (pv 1) pe_int))) (nomark _)))))
        (pss_one ps_never) pss_nil)
      (pss_one (ps_ret (pv 0)))), ?_⟩
    refine ⟨.ref p, rfl, p, rv r, rfl, .inr hp, ?_⟩
    rw [rv_len, hrow.len]
    refine ⟨_, rfl, n, 40, rfl, rfl, _, rfl, ?_⟩
    rw [decide_eq_false (show ¬ (40 : Int) < (n : Int) by omega)]
    refine iteF ?_
    refine ⟨.ref p, rfl, p, ir r, rfl, hp, by rw [ir_len, hrow.len]; omega, fun ys l perm up hl => ?_⟩
    refine ⟨_, rfl, n, 1, rfl, rfl, _, _, rfl, rfl, RgOk.of_le (by omega) (by omega) (by omega) (by omega), fun l2 hl2 => ?_⟩
    have nl : l ≠ l2 := fun z => by
      rw [← z, upd_same] at hl2
      cases hl2
    -- the sorted row is 1 .. n
    have ey : ys = ir (List.range' 1 n) := by
      refine PySem.W.ksm_same (perm.trans ?_) up ?_
      · exact List.Perm.map _ hrow
      · unfold ir
        rw [List.pairwise_map]
        exact (List.pairwise_lt_range' 1).imp fun h => by omega
    rw [← ir_range]
    refine ⟨.list (ys.map PyData.int), .list ((ir (List.range' 1 n)).map PyData.int), .lst (SqL.of (by rw [upd_ne nl, upd_same])) (dpInts _), .lst (SqL.of upd_same) (dpInts _), shapedL _, shapedL _, ?_⟩
    rw [eqvL, decide_eq_true ey]
    refine ⟨_, rfl, iteF ?_⟩
    exact ⟨_, rfl, q _ (sameU3 (sameU hl) hl2)⟩
/-! ### sorted_row -/
theorem scSorted : FnScope ["n"] ["n"] (defScope sSorted) := ⟨rfl, rfl, rfl, by decide +kernel, rfl, by decide +kernel, by decide +kernel⟩
def spSorted : Sp := fun vs H Q _ => ∃ (n : Nat), vs = [.int (n : Int)] ∧ n ≤ 40 ∧ ∀ H' p, Same H H' → H' p = some (.tup (rv (List.range' 1 n))) → Q (.ref p) H'
theorem ok_sorted {f : Addr} {fd : FuncData} (F : Fun K "sorted_row" "sorted_row" sSorted f fd) (T : Txt mg) : FnOk P w K mg base CX0 1 f fd ["n"] spSorted := by
  refine F.ok scSorted (fun vs H Q E h => ?_) (fun cdv A outer s H vs Q E hr h => ?_)
  · obtain ⟨n, rfl, _⟩ := h
    rfl
  · obtain ⟨n, rfl, hn, q⟩ := h
    refine ⟨_, pss_one (ps_ret (pe_tupRg rfl (by rfl) T.tuple (prg_2 (by rfl) T.range pe_int (pe_op op_add (pv 0) pe_int)))), ?_⟩
    refine ⟨_, rfl, n, 1, rfl, rfl, _, _, rfl, rfl, RgOk.of_le (by omega) (by omega) (by omega) (by omega), fun p hp => ?_⟩
    refine q _ p (sameU hp) ?_
    rw [upd_same, ← ir_range]
/-! ### need_same_length -/
theorem scNeed : FnScope ["first", "second"] ["first", "second"] (defScope sNeed) := ⟨rfl, rfl, rfl, by decide +kernel, rfl, by decide +kernel, by decide +kernel⟩
def spNeed (K : PySem.W.Frag) : Sp := fun vs H Q _ => ∃ (p o : Addr) (n : Nat) (a b : List Nat), vs = [.ref p, .ref o] ∧ SqT K H p (rv a) ∧ SqT K H o (rv b) ∧ IsRow n a ∧ IsRow n b ∧ Q .non H
theorem ok_need {f : Addr} {fd : FuncData} (F : Fun K "need_same_length" "need_same_length" sNeed f fd) (T : Txt mg) : FnOk P w K mg base CX0 1 f fd ["first", "second"] (spNeed K) := by
  refine F.ok scNeed (fun vs H Q E h => ?_) (fun cdv A outer s H vs Q E hr h => ?_)
  · obtain ⟨p, o, n, a, b, rfl, _⟩ := h
    rfl
  · obtain ⟨p, o, n, a, b, rfl, hp, ho, ha, hb, q⟩ := h
    refine ⟨_, pss_one (ps_if (pt_cmpR op_ne (pe_callB call_len_seq (by rfl) T.len PySem.boot_len (pa_cons (pv 0) pa_nil)) (pe_callB call_len_seq (by rfl) T.len PySem.boot_len (pa_cons (pv 1) pa_nil)) (nomark _)) (pss_one ps_never) pss_nil), ?_⟩
    refine ⟨.ref p, rfl, p, rv a, rfl, .inr hp, .ref o, rfl, o, rv b, rfl, .inr ho, ?_⟩
    rw [rv_len, rv_len, ha.len, hb.len]
    refine ⟨rfl, _, rfl, iteNS rfl ?_⟩
    exact q
end
end K8
/-! K8a: relative_row. -/
namespace K8
open PySem PySem.Spec PyProof.Rows L2
section
variable {P : Program} {w : World} {K : PySem.W.Frag} {mg : Str → Option Value} {base : Heap}
theorem scRel : FnScope ["first", "second", "places", "place", "piece"] ["first", "second"] (defScope sRel) := ⟨rfl, rfl, rfl, by decide +kernel, rfl, by decide +kernel, by decide +kernel⟩
def spRel (K : PySem.W.Frag) : Sp := fun vs H Q _ => ∃ (p o : Addr) (n : Nat) (a b : List Nat), vs = [.ref p, .ref o] ∧ SqT K H p (rv a) ∧ SqT K H o (rv b) ∧ IsRow n a ∧ IsRow n b ∧ n ≤ 40 ∧
  ∀ H' t, Same H H' → FzT H' t (rv (rel a b)) → Q (.ref t) H'
theorem ok_rel {f fC fN : Addr} {fd fdC fdN : FuncData} (F : Fun K "relative_row" "relative_row" sRel f fd) (T : Txt mg)
    (FC : Fun K "check_row" "check_row" sCheck fC fdC) (bC : Binds K fdC ["row"] []) (gC : mg "check_row" = some (.ref fC))
    (FN : Fun K "need_same_length" "need_same_length" sNeed fN fdN) (bN : Binds K fdN ["first", "second"] []) (gN : mg "need_same_length" = some (.ref fN)) :
    FnOk P w K mg base CX0 2 f fd ["first", "second"] (spRel K) := by
  have GC : FnOk P w K mg base CX0 1 fC fdC ["row"] (spCheck K) := ok_check FC T
  have GN : FnOk P w K mg base CX0 1 fN fdN ["first", "second"] (spNeed K) := ok_need FN T
  refine F.ok scRel (fun vs H Q E h => ?_) (fun cdv A outer s H vs Q E hr h => ?_)
  · obtain ⟨p, o, n, a, b, rfl, _⟩ := h
    rfl
  · obtain ⟨p, o, n, a, b, rfl, hp, ho, ha, hb, hn, q⟩ := h
    refine ⟨_, pss_cons (ps_expr (pe_call GC hr (by rfl) gC FC.kp bC .nil pass0 (pa_cons (pv 0) pa_nil)))
      (pss_cons (ps_expr (pe_call GC hr (by rfl) gC FC.kp bC .nil pass0 (pa_cons (pv 1) pa_nil)))
      (pss_cons (ps_expr (pe_call GN hr (by rfl) gN FN.kp bN .nil pass0 (pa_cons (pv 0) (pa_cons (pv 1) pa_nil))))
      (pss_cons (ps_set (i := 2) scRel.nd rfl (.inr rfl) (pe_dc (own := [("place", 3)]) (g := gName 3) (tt := tYes) rfl scRel.nd
          (pi_range1 (by rfl) T.range (pa_cons (pe_callB call_len_seq (by rfl) T.len PySem.boot_len (pa_cons (pv 1) pa_nil)) pa_nil))
          (blkOk_by (N := ["first", "second", "places", "place", "piece"]) (sc := defScope sRel) (by decide +kernel))
          (fun _ _ _ _ _ => pg_name (i := 3) scRel.nd rfl (Or.inl rfl)) (fun _ _ _ _ _ => pts_nil)
          (fun _ _ _ _ _ => pe_ix (r := rIxT K) ix_tup (pv 1) (pv 3) (fun _ _ => rfl)) (fun _ _ _ _ _ => pe_op op_add (pv 3) pe_int)))
      (pss_one (ps_ret (pe_callTy call_tupF (by rfl) T.tuple PyProof.Rows.boot_tuple (pa_cons (pe_lc (own := [("piece", 4)]) (g := gName 4) (tt := tYes) rfl scRel.nd (pi_tup (pv 0))
          (blkOk_by (N := ["first", "second", "places", "place", "piece"]) (sc := defScope sRel) (by decide +kernel))
          (fun _ _ _ _ _ => pg_name (i := 4) scRel.nd rfl (Or.inl rfl)) (fun _ _ _ _ _ => pts_nil)
          (fun _ _ _ _ _ => pe_dget (hu_of hr) (pv 2) (pv 4) (fun _ _ => rfl))) pa_nil))))))), ?_⟩
    -- the three calls
    refine ⟨_, rfl, p, n, a, rfl, hp, ha, hn, fun H1 s1 => ?_⟩
    refine ⟨_, rfl, o, n, b, rfl, tupK s1 ho, hb, hn, fun H2 s2 => ?_⟩
    have s02 : Same H H2 := s1.trans s2
    refine ⟨_, rfl, _, rfl, p, o, n, a, b, rfl, tupK s02 hp, tupK s02 ho, ha, hb, ?_⟩
    -- the places
    refine ⟨_, rfl, o, rv b, rfl, .inr (tupK s02 ho), ?_⟩
    rw [rv_len, hb.len]
    refine ⟨n, rfl, by omega, by omega, fun D hD => ?_⟩
    refine dc_range (lo := 0) (n := n) (fun i H' => Same H H' ∧ ∃ kvs : List (Key × V), H' D = some (.dK kvs) ∧ kvs.length ≤ i ∧ ∀ (j x : Nat), j < i → b[j]? = some x → valV kvs (Sum.inl (x : Int)) = some (.int ((j + 1 : Nat) : Int)))
      ⟨sameU3 s02 hD, [], upd_same, Nat.le_refl _, fun j x h _ => absurd h (Nat.not_lt_zero j)⟩ (fun i H3 hi hP => ?_) (fun H3 hP => ?_)
    · obtain ⟨s3, kvs, hK, hlen, hval⟩ := hP
      have hib : i < b.length := by rw [hb.len]; exact hi
      have eb : b[i]? = some b[i] := List.getElem?_eq_getElem hib
      refine ⟨rfl, _, rfl, _, rfl, o, rv b, _, _, rfl, rfl, tupK s3 ho, at_of (Int.zero_add _) (rv_get eb), ?_⟩
      refine ⟨_, rfl, _, _, rfl, rfl, kvs, Sum.inl ((b[i] : Nat) : Int), rfl, hK, small1000 (by omega), ?_⟩
      have nD : H D = none := s02.free hD
      refine ⟨sameU2 s3 nD, _, upd_same, Nat.le_trans (length_putK _ _ _) (by omega), fun j x hj ej => ?_⟩
      rw [valV_put]
      by_cases hji : j = i
      · subst hji
        rw [eb] at ej
        have ex := Option.some.inj ej
        rw [ex, if_pos rfl]
        show some (V.int (0 + (j : Int) + 1)) = some (V.int ((j + 1 : Nat) : Int))
        rw [show (0 + (j : Int) + 1) = ((j + 1 : Nat) : Int) by omega]
      · have nx : ¬ (Sum.inl (x : Int) : Key) = Sum.inl ((b[i] : Nat) : Int) := fun z => by
          have z1 : x = b[i] := Int.ofNat.inj (Sum.inl.inj z)
          have := idx_of_get hb ej
          have := idx_of_get hb eb
          rw [z1] at *
          omega
        rw [if_neg nx]
        exact hval j x (by omega) ej
    · obtain ⟨s3, kvs, hK, hlen, hval⟩ := hP
      -- the answer
      refine ⟨_, rfl, p, rfl, ⟨_, tupK s3 hp⟩, fun L hL => ?_⟩
      have nL : H L = none := s3.free hL
      have nDL : D ≠ L := ne_of_none hK hL
      refine lc_tup (K := K) (a := p) (xs := rv a) (fun i H' => Same H H' ∧ H' D = some (.dK kvs) ∧ H' L = some (.lst (rv ((rel a b).take i))))
        ⟨sameU2 s3 nL, by rw [upd_ne nDL]; exact hK, upd_same⟩ (fun i H' _ hP => tupK hP.1 hp) (fun i y H4 hy hP => ?_) (fun H4 hP => ?_)
      · obtain ⟨s4, hK4, hL4⟩ := hP
        obtain ⟨x, ex, rfl⟩ := rv_inv hy
        have hx := ha.mem.mp (List.mem_iff_getElem?.mpr ⟨i, ex⟩)
        have gv := hval (b.idxOf x) x (by
          have := List.idxOf_lt_length_of_mem (hb.mem.mpr hx)
          rw [hb.len] at this
          exact this) (get_of_idx hb hx.1 hx.2)
        refine ⟨rfl, _, rfl, _, rfl, D, _, rfl, (by rw [← gv]; exact DGet.k (k := Sum.inl (x : Int)) hK4), ?_⟩
        refine ⟨_, hL4, small1000 (by rw [rv_len, List.length_take]; unfold rel; rw [List.length_map, ha.len]; omega), ?_⟩
        refine ⟨sameU2 s4 nL, by rw [upd_ne nDL]; exact hK4, ?_⟩
        rw [upd_same, List.take_add_one, rv_app]
        have er : (rel a b)[i]? = some (b.idxOf x + 1) := by
          unfold rel
          rw [List.getElem?_map, ex]
          rfl
        rw [er]
        rfl
      · obtain ⟨s4, hK4, hL4⟩ := hP
        rw [rv_len, List.take_of_length_le (by unfold rel; rw [List.length_map]; exact Nat.le_refl _)] at hL4
        refine ⟨L, _, rfl, SqL.of hL4, fun t ob hd ht => ?_⟩
        exact q _ t (sameU3 s4 ht) ⟨ob, hd, upd_same⟩
end
end K8
/-! K8b: rings_of. -/
namespace K8
open PySem PySem.Spec PyProof.Rows L2

/-! ### its dicts -/
def kN (y : Nat) : Key := Sum.inl ((y + 1 : Nat) : Int)
theorem kN_inj {x y : Nat} (h : kN x = kN y) : x = y := by
  have := Sum.inl.inj h
  omega
/-- what each number leads to: number i + 1 to number f i + 1 -/
def tbl (N : Nat) (f : Nat → Nat) : List (Key × V) := (List.range N).map fun i => (kN i, V.int ((f i + 1 : Nat) : Int))
/-- what is seen -/
def skv (sn : List Nat) : List (Key × V) := sn.map fun y => (kN y, V.bl true)
theorem valV_tab {g : Nat → V} : ∀ (l : List Nat) (y : Nat), valV (l.map fun i => (kN i, g i)) (kN y) = if y ∈ l then some (g y) else none
  | [], y => by rw [if_neg (fun z => nomatch z)]; rfl
  | a :: l, y => by
    have ih := valV_tab (g := g) l y
    rw [List.map_cons]
    by_cases h : a = y
    · subst h
      rw [valV_pos (p := (kN a, g a)) rfl, if_pos List.mem_cons_self]
    · rw [valV_neg (p := (kN a, g a)) (fun z => h (kN_inj z)), ih]
      by_cases hy : y ∈ l
      · rw [if_pos hy, if_pos (List.mem_cons_of_mem _ hy)]
      · rw [if_neg hy, if_neg fun z => (List.mem_cons.mp z).elim (fun w => h w.symm) hy]
theorem valV_tbl {N : Nat} {f : Nat → Nat} {y : Nat} (h : y < N) : valV (tbl N f) (kN y) = some (.int ((f y + 1 : Nat) : Int)) := by
  unfold tbl
  rw [valV_tab (g := fun i => V.int ((f i + 1 : Nat) : Int)), if_pos (List.mem_range.mpr h)]
theorem valV_skv (sn : List Nat) (y : Nat) : valV (skv sn) (kN y) = if y ∈ sn then some (.bl true) else none := valV_tab (g := fun _ => V.bl true) sn y
theorem skv_put {sn : List Nat} {y : Nat} (h : y ∉ sn) : putK (skv sn) (kN y) (.bl true) = skv (sn ++ [y]) := by
  rw [putK_new _ (by rw [valV_skv, if_neg h])]
  unfold skv
  rw [List.map_append]
  rfl
theorem skv_len (sn : List Nat) : (skv sn).length = sn.length := List.length_map _
theorem tbl_keys (N : Nat) (f : Nat → Nat) : (tbl N f).map (·.1) = ((List.range N).map fun i : Nat => ((i + 1 : Nat) : Int)).map Sum.inl := by
  unfold tbl
  rw [List.map_map, List.map_map]
  rfl

section
variable {P : Program} {w : World} {K : PySem.W.Frag} {mg : Str → Option Value} {base : Heap}
theorem scRings : FnScope ["leads", "found", "seen", "start", "ring", "place"] ["leads"] (defScope sRings) := ⟨rfl, rfl, rfl, by decide +kernel, rfl, by decide +kernel, by decide +kernel⟩
def spRings : Sp := fun vs H Q _ => ∃ (d : Addr) (N : Nat) (f : Nat → Nat), vs = [.ref d] ∧ H d = some (.dK (tbl N f)) ∧ Bj N f ∧ N < 64 ∧
  ∀ H' t xs, Same H H' → H' t = some (.tup xs) → xs.length = cyc N f → Q (.ref t) H'
theorem ok_rings {f : Addr} {fd : FuncData} (F : Fun K "rings_of" "rings_of" sRings f fd) (T : Txt mg) : FnOk P w K mg base CX0 1 f fd ["leads"] spRings := by
  refine F.ok scRings (fun vs H Q E h => ?_) (fun cdv A outer s H vs Q E hr h => ?_)
  · obtain ⟨d, N, f, rfl, _⟩ := h
    rfl
  · obtain ⟨d, N, g, rfl, hd, bj, hN, q⟩ := h
    refine ⟨_, pss_cons (ps_set (i := 1) scRings.nd rfl (.inl rfl) (pe_lst pa_nil))
      (pss_cons (ps_set (i := 2) scRings.nd rfl (.inl rfl) pe_dnewK)
      (pss_cons (ps_for PassesOwn.never rfl (pi_list (pe_callB (call_sortedDI rfl) (by rfl) T.sorted boot_sorted (pa_cons (pv 0) pa_nil))) (pg_name (i := 3) scRings.nd rfl (Or.inl rfl))
        (pss_cons (ps_set (i := 4) scRings.nd rfl (.inl rfl) (pe_lst pa_nil))
        (pss_cons (ps_set (i := 5) scRings.nd rfl (.inl rfl) (pv 3))
        (pss_cons (ps_while PassesOwn.never (pt_cmp (pc_dnotin (hu_of hr) (pv 5) (pv 2)))
          (pss_cons (ps_dput (hu_of hr) (pv 2) (pv 5) pe_bl rfl)
          (pss_cons (ps_expr (pe_bm PySem.F.plainAttrs_list PySem.F.slot_list_append PySem.F.type_list_append mt_append (pv 4) (pa_cons (pv 5) pa_nil)))
          (pss_one (ps_set (i := 5) scRings.nd rfl (.inl rfl) (pe_dget (hu_of hr) (pv 0) (pv 5) (fun _ _ => rfl)))))))
        (pss_one (ps_if (pt_cmpR (op_neD hr.units) (pv 4) (pe_lst pa_nil) (nomark _))
          (pss_one (ps_expr (pe_bm PySem.F.plainAttrs_list PySem.F.slot_list_append PySem.F.type_list_append mt_append (pv 1)
            (pa_cons (pe_callTy call_tuple_of (by rfl) T.tuple PyProof.Rows.boot_tuple (pa_cons (pv 4) pa_nil)) pa_nil)))) pss_nil))))))
      (pss_one (ps_ret (pe_callTy call_tuple_of (by rfl) T.tuple PyProof.Rows.boot_tuple (pa_cons (pv 1) pa_nil)))))), ?_⟩
    -- both begin empty
    refine ⟨Nat.zero_le _, fun fo hfo => fun se hse => ?_⟩
    have nfs : fo ≠ se := fun z => by
      rw [← z, upd_same] at hse
      cases hse
    have sA : Same H (upd H fo (.lst [])) := sameU hfo
    have hse0 : H se = none := sA.free hse
    have sB : Same H (upd (upd H fo (.lst [])) se (.dK [])) := sameU3 sA hse
    have eFo : (upd (upd H fo (.lst [])) se (.dK [])) fo = some (.lst []) := by rw [upd_ne nfs, upd_same]
    have eSe : (upd (upd H fo (.lst [])) se (.dK [])) se = some (.dK []) := upd_same
    generalize upd (upd H fo (.lst [])) se (.dK []) = HB at sB eFo eSe
    -- the starts in order
    refine ⟨.ref d, rfl, d, tbl N g, (List.range N).map fun i : Nat => ((i + 1 : Nat) : Int), rfl, .inl (sB _ _ hd), tbl_keys N g, by rw [List.length_map, List.length_range]; exact hN, fun ys l perm up hl => ?_⟩
    have hl0 : H l = none := sB.free hl
    have sC : Same H (upd HB l (.lst (ys.map V.int))) := sameU3 sB hl
    have nfl : fo ≠ l := ne_of_none eFo hl
    have nsl : se ≠ l := ne_of_none eSe hl
    have ymem : ∀ z : Int, z ∈ ys ↔ ∃ y, y < N ∧ z = ((y + 1 : Nat) : Int) := fun z => by
      rw [perm.mem_iff, List.mem_map]
      constructor
      · rintro ⟨y, h1, h2⟩
        exact ⟨y, List.mem_range.mp h1, h2.symm⟩
      · rintro ⟨y, h1, h2⟩
        exact ⟨y, List.mem_range.mpr h1, h2.symm⟩
    refine ⟨l, rfl, ⟨_, SqL.of upd_same⟩, for_list (K := K) (a := l) (xs := ys.map V.int)
      (fun i σ H' => ∃ (sn : List Nat) (c : Nat) (fs : List V) (v3 v4 v5 : Option V), σ = [some (.ref d), some (.ref fo), some (.ref se), v3, v4, v5] ∧ Same H H' ∧ H' l = some (.lst (ys.map V.int)) ∧ H' fo = some (.lst fs) ∧ fs.length = c ∧ c ≤ i ∧
        H' se = some (.dK (skv sn)) ∧ Outer N g sn c ∧ sn.length + uns sn N = N ∧ ∀ j z, j < i → ys[j]? = some z → ∃ y, y ∈ sn ∧ z = ((y + 1 : Nat) : Int))
      ⟨[], 0, [], none, none, none, rfl, sC, upd_same, by rw [upd_ne nfl]; exact eFo, rfl, Nat.le_refl _, by rw [upd_ne nsl]; exact eSe, Outer.start N g, by rw [uns_nil]; exact Nat.zero_add N, fun j z h _ => absurd h (Nat.not_lt_zero j)⟩
      (fun i σ H' _ ⟨_, _, _, _, _, _, _, _, hL, _⟩ => SqL.of hL) ?_ ?_⟩
    · rintro i v σ H1 hv ⟨sn, c, fs, v3, v4, v5, rfl, s1, hL1, hF1, hc, hci, hS1, ou, hu, hcov⟩
      -- the start
      obtain ⟨z, ez, rfl⟩ : ∃ z, ys[i]? = some z ∧ v = V.int z := by
        rw [List.getElem?_map] at hv
        cases e : ys[i]? with
        | none => rw [e] at hv; cases hv
        | some z => rw [e] at hv; exact ⟨z, rfl, (Option.some.inj hv).symm⟩
      obtain ⟨st, hst, rfl⟩ := (ymem z).mp (List.mem_iff_getElem?.mpr ⟨i, ez⟩)
      have hi : i < N := by
        have := (List.getElem?_eq_some_iff.mp ez).1
        rw [perm.length_eq, List.length_map, List.length_range] at this
        exact this
      -- a turn begins
      refine ⟨Nat.zero_le _, fun ri hri => ⟨_, rfl, ?_⟩⟩
      have hri0 : H ri = none := s1.free hri
      have nfr : fo ≠ ri := ne_of_none hF1 hri
      have nsr : se ≠ ri := ne_of_none hS1 hri
      have nlr : l ≠ ri := ne_of_none hL1 hri
      have nfs1 : fo ≠ se := ne_of hF1 hS1 (by intro q; cases q)
      have nls1 : l ≠ se := ne_of hL1 hS1 (by intro q; cases q)
      have ndr : d ≠ ri := ne_of_none hd hri0
      -- the walk
      refine ⟨fun m σ H2 => ∃ (sm ring : List Nat) (pl : Nat), σ = [some (.ref d), some (.ref fo), some (.ref se), some (.int ((st + 1 : Nat) : Int)), some (.ref ri), some (.int ((pl + 1 : Nat) : Int))] ∧
          Same H H2 ∧ H2 l = some (.lst (ys.map V.int)) ∧ H2 fo = some (.lst fs) ∧ H2 se = some (.dK (skv sm)) ∧ H2 ri = some (.lst (rv (ring.map (· + 1)))) ∧ Wk N g sn c st sm ring pl ∧ sm.length + uns sm N = N ∧ ring.length ≤ sm.length ∧ m = uns sm N,
        ⟨uns sn N, sn, [], st, rfl, sameU2 s1 hri0, by rw [upd_ne nlr]; exact hL1, by rw [upd_ne nfr]; exact hF1, by rw [upd_ne nsr]; exact hS1, upd_same, Wk.start ou hst, hu, Nat.zero_le _, rfl⟩, ?_⟩
      rintro m σ H2 ⟨sm, ring, pl, rfl, s2, hL2, hF2, hS2, hR2, wk, hu2, hrl, rfl⟩
      refine ⟨_, rfl, _, rfl, se, _, rfl, DGet.k (k := kN pl) hS2, _, rfl, ?_⟩
      rw [valV_skv]
      by_cases hseen : pl ∈ sm
      · rw [if_pos hseen]
        refine iteF ?_
        obtain ⟨hs1, hs2, hs3⟩ := wk.stop bj hseen
        -- was one walked
        refine ⟨_, rfl, Nat.zero_le _, fun ne hne => ?_⟩
        have hne0 : H ne = none := s2.free hne
        have nrn : ri ≠ ne := ne_of_none hR2 hne
        refine ⟨.list ((ir (ring.map (· + 1))).map PyData.int), .list (([] : List Int).map PyData.int), .lst (SqL.of (by rw [upd_ne nrn]; exact hR2)) (dpInts _), .lst (SqL.of upd_same) (dpInts []), shapedL _, shapedL [], ?_⟩
        rw [eqvL]
        have cov : ∀ j z, j < i + 1 → ys[j]? = some z → ∃ y, y ∈ sm ∧ z = ((y + 1 : Nat) : Int) := fun j z hj ej => by
          by_cases hji : j = i
          · subst hji
            rw [ez] at ej
            exact ⟨st, hs1, (Option.some.inj ej).symm⟩
          · obtain ⟨y, h1, h2⟩ := hcov j z (by omega) ej
            exact ⟨y, wk.sub y h1, h2⟩
        have nfn : fo ≠ ne := ne_of_none hF2 hne
        have nsn : se ≠ ne := ne_of_none hS2 hne
        have nln : l ≠ ne := ne_of_none hL2 hne
        by_cases hring : ring = []
        · subst hring
          rw [decide_eq_true (show ir (([] : List Nat).map (· + 1)) = ([] : List Int) from rfl)]
          refine ⟨_, rfl, iteF ?_⟩
          exact ⟨sm, c, fs, _, _, _, rfl, sameU2 s2 hne0, by rw [upd_ne nln]; exact hL2, by rw [upd_ne nfn]; exact hF2, hc, by omega, by rw [upd_ne nsn]; exact hS2, hs2 rfl, hu2, cov⟩
        · rw [decide_eq_false (show ¬ ir (ring.map (· + 1)) = ([] : List Int) from fun z => hring (by
            have := congrArg List.length z
            rw [ir_len, List.length_map] at this
            exact List.eq_nil_of_length_eq_zero this))]
          refine ⟨_, rfl, iteT ?_⟩
          -- one more is kept
          have hF3 : (upd H2 ne (.lst [])) fo = some (.lst fs) := by rw [upd_ne nfn]; exact hF2
          refine ⟨.ref fo, rfl, .inl ⟨rfl, _, SqL.of hF3⟩, _, rfl, ri, _, rfl, .inl ⟨SqL.of (by rw [upd_ne nrn]; exact hR2), fun t ht => ?_⟩⟩
          have nft : fo ≠ t := ne_of_none hF3 ht
          have ht2 : H2 t = none := (sameU hne).free ht
          have nst : se ≠ t := ne_of_none hS2 ht2
          have nlt : l ≠ t := ne_of_none hL2 ht2
          refine ⟨fo, fs, _, rfl, rfl, by rw [upd_ne nft]; exact hF3, small1000 (by omega), ?_⟩
          refine ⟨sm, c + 1, _, _, _, _, rfl, sameU2 (sameU3 (sameU2 s2 hne0) ht) hfo, ?_, upd_same, by rw [List.length_append, hc]; rfl, by omega, ?_, hs3 hring, hu2, cov⟩
          · rw [upd_ne (fun z => nfl z.symm), upd_ne nlt, upd_ne nln]
            exact hL2
          · rw [upd_ne (fun z => nfs1 z.symm), upd_ne nst, upd_ne nsn]
            exact hS2
      · rw [if_neg hseen]
        refine iteT ?_
        have hp := wk.hp
        have ul := uns_add hseen N hp
        refine ⟨fun σ H3 => ∃ m', m' < uns sm N ∧ ∃ (sm2 ring2 : List Nat) (pl2 : Nat), σ = [some (.ref d), some (.ref fo), some (.ref se), some (.int ((st + 1 : Nat) : Int)), some (.ref ri), some (.int ((pl2 + 1 : Nat) : Int))] ∧
          Same H H3 ∧ H3 l = some (.lst (ys.map V.int)) ∧ H3 fo = some (.lst fs) ∧ H3 se = some (.dK (skv sm2)) ∧ H3 ri = some (.lst (rv (ring2.map (· + 1)))) ∧ Wk N g sn c st sm2 ring2 pl2 ∧ sm2.length + uns sm2 N = N ∧ ring2.length ≤ sm2.length ∧ m' = uns sm2 N, fun _ _ h => h, ?_⟩
        -- mark it
        refine ⟨_, rfl, _, rfl, se, _, rfl, DPut.k (k := kN pl) hS2 (small1000 (by rw [skv_len]; omega)), ?_⟩
        rw [skv_put hseen]
        have nrs : ri ≠ se := fun z => nsr z.symm
        -- note it
        have hR3 : (upd H2 se (.dK (skv (sm ++ [pl])))) ri = some (.lst (rv (ring.map (· + 1)))) := by rw [upd_ne nrs]; exact hR2
        refine ⟨.ref ri, rfl, .inl ⟨rfl, _, SqL.of hR3⟩, _, rfl, ri, _, _, rfl, rfl, hR3, small1000 (by rw [rv_len, List.length_map]; omega), ?_⟩
        -- go on
        have hse3 : H se = none := hse0
        have s3 : Same H (upd (upd H2 se (.dK (skv (sm ++ [pl])))) ri (.lst (rv (ring.map (· + 1)) ++ [V.int ((pl + 1 : Nat) : Int)]))) := sameU2 (sameU2 s2 hse3) hri0
        refine ⟨_, rfl, _, rfl, d, _, rfl, (by rw [← valV_tbl (f := g) hp]; exact DGet.k (k := kN pl) (s3 _ _ hd)), ?_⟩
        refine ⟨uns (sm ++ [pl]) N, by omega, sm ++ [pl], ring ++ [pl], g pl, rfl, s3, ?_, ?_, ?_, ?_, wk.next bj hseen, ?_, ?_, rfl⟩
        · rw [upd_ne nlr, upd_ne nls1]
          exact hL2
        · rw [upd_ne nfr, upd_ne nfs1]
          exact hF2
        · rw [upd_ne nsr, upd_same]
        · rw [upd_same, List.map_append, rv_app]
          rfl
        · rw [List.length_append, List.length_singleton]
          omega
        · rw [List.length_append, List.length_append]
          exact Nat.succ_le_succ hrl
    · rintro σ H1 ⟨sn, c, fs, v3, v4, v5, rfl, s1, hL1, hF1, hc, hci, hS1, ou, hu, hcov⟩
      refine ⟨_, rfl, fo, fs, rfl, .inl ⟨SqL.of hF1, fun t ht => ?_⟩⟩
      refine q _ t fs (sameU3 s1 ht) upd_same ?_
      rw [hc]
      refine (ou.done fun y hy => ?_).symm
      obtain ⟨j, ej⟩ := List.mem_iff_getElem?.mp ((ymem ((y + 1 : Nat) : Int)).mpr ⟨y, hy, rfl⟩)
      have hj := (List.getElem?_eq_some_iff.mp ej).1
      obtain ⟨y2, h1, h2⟩ := hcov j _ (by rw [List.length_map]; exact hj) ej
      have : y = y2 := by omega
      rw [this]
      exact h1
end
end K8
/-! K8c: block_leads, block_rings. -/
namespace K8
open PySem PySem.Spec PyProof.Rows L2
/-- the extended row as a list -/
def exl (r : List Nat) : List Nat := 0 :: r ++ [r.length + 1]
theorem exl_get {n : Nat} {r : List Nat} (h : IsRow n r) {j : Nat} (hj : j ≤ n + 1) : (exl r)[j]? = some (ev r j) := by
  unfold exl
  cases j with
  | zero => rfl
  | succ j =>
    show (r ++ [r.length + 1])[j]? = some (r.getD j (r.length + 1))
    rw [List.getElem?_append, List.getD_eq_getElem?_getD]
    by_cases c : j < r.length
    · rw [if_pos c, List.getElem?_eq_getElem c]
      rfl
    · have e : j = r.length := by rw [h.len] at c ⊢; omega
      rw [if_neg c, e, Nat.sub_self, List.getElem?_eq_none (Nat.le_refl _)]
      rfl
theorem exl_len (r : List Nat) : (exl r).length = r.length + 2 := by
  unfold exl
  rw [List.length_append, List.length_cons]
  rfl
/-- no number stands twice in it -/
theorem ev_sep {n : Nat} {r : List Nat} (h : IsRow n r) {i j : Nat} (hi : i ≤ n + 1) (hj : j ≤ n + 1) (e : ev r i = ev r j) : i = j := by
  by_cases c1 : i = n + 1
  · by_cases c2 : j = n + 1
    · omega
    · have := ev_le h (show j ≤ n by omega)
      rw [c1, ev_last h] at e
      omega
  · by_cases c2 : j = n + 1
    · have := ev_le h (show i ≤ n by omega)
      rw [c2, ev_last h] at e
      omega
    · exact ev_inj h (by omega) (by omega) e
theorem tbl_put (i : Nat) (f : Nat → Nat) : putK (tbl i f) (kN i) (.int ((f i + 1 : Nat) : Int)) = tbl (i + 1) f := by
  rw [putK_new]
  · unfold tbl
    rw [List.range_succ, List.map_append]
    rfl
  · unfold tbl
    rw [valV_tab (g := fun i => V.int ((f i + 1 : Nat) : Int)), if_neg fun z => Nat.lt_irrefl _ (List.mem_range.mp z)]
theorem tbl_len (i : Nat) (f : Nat → Nat) : (tbl i f).length = i := by
  unfold tbl
  rw [List.length_map, List.length_range]
section
variable {P : Program} {w : World} {K : PySem.W.Frag} {mg : Str → Option Value} {base : Heap}
theorem scLeads : FnScope ["row", "n", "extended", "index", "k"] ["row"] (defScope sLeads) := ⟨rfl, rfl, rfl, by decide +kernel, rfl, by decide +kernel, by decide +kernel⟩
def spLeads (K : PySem.W.Frag) : Sp := fun vs H Q _ => ∃ (p : Addr) (n : Nat) (r : List Nat), vs = [.ref p] ∧ SqT K H p (rv r) ∧ IsRow n r ∧ 1 ≤ n ∧ n ≤ 40 ∧
  ∀ H' d, Same H H' → H' d = some (.dK (tbl (n + 1) (rho r))) → Q (.ref d) H'
theorem ok_leads {f : Addr} {fd : FuncData} (F : Fun K "block_leads" "block_leads" sLeads f fd) (T : Txt mg) : FnOk P w K mg base CX0 1 f fd ["row"] (spLeads K) := by
  refine F.ok scLeads (fun vs H Q E h => ?_) (fun cdv A outer s H vs Q E hr h => ?_)
  · obtain ⟨p, n, r, rfl, _⟩ := h
    rfl
  · obtain ⟨p, n, r, rfl, hp, hrow, hn1, hn, q⟩ := h
    refine ⟨_, pss_cons (ps_set (i := 1) scLeads.nd rfl (.inl rfl) (pe_callB call_len_seq (by rfl) T.len PySem.boot_len (pa_cons (pv 0) pa_nil)))
      (pss_cons (ps_set (i := 2) scLeads.nd rfl (.inr rfl) (pe_op op_catA (pe_op op_catA (pe_tup (pa_cons pe_int pa_nil)) (pe_callTy call_tuple_of (by rfl) T.tuple PyProof.Rows.boot_tuple (pa_cons (pv 0) pa_nil)))
          (pe_tup (pa_cons (pe_op op_add (pv 1) pe_int) pa_nil))))
      (pss_cons (ps_set (i := 3) scLeads.nd rfl (.inr rfl) (pe_dc (own := [("k", 4)]) (g := gName 4) (tt := tYes) rfl scLeads.nd
          (pi_range1 (by rfl) T.range (pa_cons (pe_op op_add (pv 1) pe_int) pa_nil))
          (blkOk_by (N := ["row", "n", "extended", "index", "k"]) (sc := defScope sLeads) (by decide +kernel))
          (fun _ _ _ _ _ => pg_name (i := 4) scLeads.nd rfl (Or.inl rfl)) (fun _ _ _ _ _ => pts_nil)
          (fun _ _ _ _ _ => pe_ix (r := rIxT K) ix_tup (pv 2) (pv 4) (fun _ _ => rfl)) (fun _ _ _ _ _ => pv 4)))
      (pss_one (ps_ret (pe_dc (own := [("k", 4)]) (g := gName 4) (tt := tYes) rfl scLeads.nd
          (pi_range2 (by rfl) T.range (pa_cons pe_int (pa_cons (pe_op op_add (pv 1) pe_int) pa_nil)))
          (blkOk_by (N := ["row", "n", "extended", "index", "k"]) (sc := defScope sLeads) (by decide +kernel))
          (fun _ _ _ _ _ => pg_name (i := 4) scLeads.nd rfl (Or.inl rfl)) (fun _ _ _ _ _ => pts_nil)
          (fun _ _ _ _ _ => pv 4)
          (fun _ _ _ _ _ => pe_dget (hu_of hr) (pv 3) (pe_op op_add (pe_ix (r := rIxT K) ix_tup (pv 2) (pe_op op_sub (pv 4) pe_int) (fun _ _ => rfl)) pe_int) (fun _ _ => rfl))))))), ?_⟩
    -- the length
    refine ⟨.ref p, rfl, p, rv r, rfl, .inr hp, ?_⟩
    rw [rv_len, hrow.len]
    have hrl := rv_len r
    rw [hrow.len] at hrl
    have nr : rv r ≠ [] := fun z => by
      rw [z] at hrl
      have : (0 : Nat) = n := hrl
      omega
    -- extended
    refine ⟨by show 1 ≤ sizeLine; decide, fun p0 h0 => ⟨.ref p, rfl, p, rv r, rfl, .inr ⟨tupK (sameU h0) hp, p0, p, [.int 0], rv r, rfl, rfl, SqT.of upd_same, tupK (sameU h0) hp, ?_, (fun z => nomatch z), (fun _ z => absurd z nr), fun _ _ e0 he0 => ?_⟩⟩⟩
    · rw [hrl]
      exact small40 (by show 1 + n ≤ 1000; omega)
    have s1 : Same H (upd (upd H p0 (.tup [.int 0])) e0 (.tup ([V.int 0] ++ rv r))) := sameU3 (sameU h0) he0
    have hE0 : (upd (upd H p0 (.tup [.int 0])) e0 (.tup ([V.int 0] ++ rv r))) e0 = some (.tup ([V.int 0] ++ rv r)) := upd_same
    generalize upd (upd H p0 (.tup [.int 0])) e0 (.tup ([V.int 0] ++ rv r)) = H1 at s1 hE0
    refine ⟨_, rfl, n, 1, rfl, rfl, by show 1 ≤ sizeLine; decide, fun p1 h1 => ⟨e0, p1, [V.int 0] ++ rv r, [.int ((n : Int) + 1)], rfl, rfl, SqT.of (by rw [upd_ne (ne_of_none hE0 h1)]; exact hE0), SqT.of upd_same, ?_, (fun z => nomatch z), (fun _ z => nomatch z), fun _ _ ex hex => ?_⟩⟩
    · rw [List.length_append, hrl]
      exact small40 (by show 1 + n + 1 ≤ 1000; omega)
    have eqE : ([V.int 0] ++ rv r) ++ [V.int ((n : Int) + 1)] = rv (exl r) := by
      unfold exl
      rw [rv_app, hrow.len]
      rfl
    rw [eqE]
    have s2 : Same H (upd (upd H1 p1 (.tup [.int ((n : Int) + 1)])) ex (.tup (rv (exl r)))) := sameU3 (sameU3 s1 h1) hex
    have hE : (upd (upd H1 p1 (.tup [.int ((n : Int) + 1)])) ex (.tup (rv (exl r)))) ex = some (.tup (rv (exl r))) := upd_same
    generalize upd (upd H1 p1 (.tup [.int ((n : Int) + 1)])) ex (.tup (rv (exl r))) = H2 at s2 hE
    -- index
    refine ⟨_, rfl, n, 2, rfl, rfl, (n : Int) + 2, rfl, by omega, by omega, fun D hD => ?_⟩
    have nED : ex ≠ D := ne_of_none hE hD
    refine dc_range (lo := 0) (n := n + 2) (fun i H' => Same H H' ∧ H' ex = some (.tup (rv (exl r))) ∧ ∃ kvs : List (Key × V), H' D = some (.dK kvs) ∧ kvs.length ≤ i ∧ ∀ j : Nat, j < i → valV kvs (Sum.inl ((ev r j : Nat) : Int)) = some (.int (j : Int)))
      ⟨sameU3 s2 hD, by rw [upd_ne nED]; exact hE, [], upd_same, Nat.le_refl _, fun j h => absurd h (Nat.not_lt_zero j)⟩ (fun i H3 hi hP => ?_) (fun H3 hP => ?_)
    · obtain ⟨s3, hE3, kvs, hK, hlen, hval⟩ := hP
      have eb : (exl r)[i]? = some (ev r i) := exl_get hrow (by omega)
      refine ⟨rfl, _, rfl, _, rfl, ex, rv (exl r), _, _, rfl, rfl, SqT.of hE3, at_of (Int.zero_add _) (rv_get eb), ?_⟩
      refine ⟨_, rfl, kvs, Sum.inl ((ev r i : Nat) : Int), rfl, hK, small1000 (by omega), ?_⟩
      refine ⟨sameU2 s3 (s2.free hD), by rw [upd_ne nED]; exact hE3, _, upd_same, Nat.le_trans (length_putK _ _ _) (by omega), fun j hj => ?_⟩
      rw [valV_put]
      by_cases hji : j = i
      · subst hji
        rw [if_pos rfl]
        show some (V.int (0 + (j : Int))) = some (V.int (j : Int))
        rw [Int.zero_add]
      · have nx : ¬ (Sum.inl ((ev r j : Nat) : Int) : Key) = Sum.inl ((ev r i : Nat) : Int) := fun z =>
          hji (ev_sep hrow (by omega) (by omega) (Int.ofNat.inj (Sum.inl.inj z)))
        rw [if_neg nx]
        exact hval j (by omega)
    · obtain ⟨s3, hE3, kvs, hK, hlen, hval⟩ := hP
      -- the answer
      refine ⟨_, rfl, n, 2, rfl, rfl, 1, (n : Int) + 2, rfl, ⟨by omega, by omega, by omega, by omega⟩, fun L hL => ?_⟩
      have nEL : ex ≠ L := ne_of_none hE3 hL
      have nDL : D ≠ L := ne_of_none hK hL
      rw [show ((n : Int) + 2 - 1).toNat = n + 1 by omega]
      refine dc_range (lo := 1) (n := n + 1) (fun i H' => Same H H' ∧ H' ex = some (.tup (rv (exl r))) ∧ H' D = some (.dK kvs) ∧ H' L = some (.dK (tbl i (rho r))))
        ⟨sameU3 s3 hL, by rw [upd_ne nEL]; exact hE3, by rw [upd_ne nDL]; exact hK, upd_same⟩ (fun i H4 hi hP => ?_) (fun H4 hP => ?_)
      · obtain ⟨s4, hE4, hK4, hL4⟩ := hP
        have eb : (exl r)[i]? = some (ev r i) := exl_get hrow (by omega)
        have hle := ev_le hrow (show i ≤ n by omega)
        have gv := hval (r.idxOf (ev r i + 1) + 1) (by
          have := idx_le hrow (ev r i + 1)
          omega)
        rw [ev_idx hrow (by omega) (by omega)] at gv
        refine ⟨rfl, _, rfl, _, rfl, _, rfl, _, rfl, _, _, rfl, rfl, ex, rv (exl r), _, _, rfl, rfl, SqT.of hE4, at_of (show (1 + (i : Int) - 1) = (i : Int) by omega) (rv_get eb), _, _, rfl, rfl, D, V.int ((r.idxOf (ev r i + 1) + 1 : Nat) : Int), rfl, ?_, ?_⟩
        · rw [← gv]
          exact DGet.k (k := Sum.inl ((ev r i + 1 : Nat) : Int)) hK4
        · refine ⟨tbl i (rho r), kN i, ?_, hL4, small1000 (by rw [tbl_len]; omega), ?_⟩
          · show V.int (1 + (i : Int)) = V.int ((i + 1 : Nat) : Int)
            rw [show (1 + (i : Int)) = ((i + 1 : Nat) : Int) by omega]
          · refine ⟨sameU2 s4 (s3.free hL), by rw [upd_ne nEL]; exact hE4, by rw [upd_ne nDL]; exact hK4, ?_⟩
            rw [upd_same, ← tbl_put]
            rfl
      · obtain ⟨s4, hE4, hK4, hL4⟩ := hP
        exact q _ L s4 hL4
/-! ### block_rings -/
theorem scBRings : FnScope ["row"] ["row"] (defScope sBRings) := ⟨rfl, rfl, rfl, by decide +kernel, rfl, by decide +kernel, by decide +kernel⟩
def spBRings (K : PySem.W.Frag) : Sp := fun vs H Q _ => ∃ (p : Addr) (n : Nat) (r : List Nat), vs = [.ref p] ∧ SqT K H p (rv r) ∧ IsRow n r ∧ 1 ≤ n ∧ n ≤ 40 ∧
  ∀ H' t xs, Same H H' → H' t = some (.tup xs) → xs.length = cn n r → Q (.ref t) H'
theorem ok_brings {f fC fR fL : Addr} {fd fdC fdR fdL : FuncData} (F : Fun K "block_rings" "block_rings" sBRings f fd) (T : Txt mg)
    (FC : Fun K "check_row" "check_row" sCheck fC fdC) (bC : Binds K fdC ["row"] []) (gC : mg "check_row" = some (.ref fC))
    (FR : Fun K "rings_of" "rings_of" sRings fR fdR) (bR : Binds K fdR ["leads"] []) (gR : mg "rings_of" = some (.ref fR))
    (FL : Fun K "block_leads" "block_leads" sLeads fL fdL) (bL : Binds K fdL ["row"] []) (gL : mg "block_leads" = some (.ref fL)) :
    FnOk P w K mg base CX0 2 f fd ["row"] (spBRings K) := by
  have GC : FnOk P w K mg base CX0 1 fC fdC ["row"] (spCheck K) := ok_check FC T
  have GR : FnOk P w K mg base CX0 1 fR fdR ["leads"] spRings := ok_rings FR T
  have GL : FnOk P w K mg base CX0 1 fL fdL ["row"] (spLeads K) := ok_leads FL T
  refine F.ok scBRings (fun vs H Q E h => ?_) (fun cdv A outer s H vs Q E hr h => ?_)
  · obtain ⟨p, n, r, rfl, _⟩ := h
    rfl
  · obtain ⟨p, n, r, rfl, hp, hrow, hn1, hn, q⟩ := h
    refine ⟨_, pss_cons (ps_expr (pe_call GC hr (by rfl) gC FC.kp bC .nil pass0 (pa_cons (pv 0) pa_nil)))
      (pss_one (ps_ret (pe_call GR hr (by rfl) gR FR.kp bR .nil pass0 (pa_cons (pe_call GL hr (by rfl) gL FL.kp bL .nil pass0 (pa_cons (pv 0) pa_nil)) pa_nil)))), ?_⟩
    refine ⟨_, rfl, p, n, r, rfl, hp, hrow, hn, fun H1 s1 => ?_⟩
    refine ⟨_, rfl, p, n, r, rfl, tupK s1 hp, hrow, hn1, hn, fun H2 d s2 hd => ?_⟩
    refine ⟨d, n + 1, rho r, rfl, hd, rho_bj hrow, by omega, fun H3 t xs s3 ht hl => ?_⟩
    exact q H3 t xs ((s1.trans s2).trans s3) ht hl
end
end K8
/-! K8d: exchanged, least_blocks. -/
namespace K8
open PySem PySem.Spec PyProof.Rows L2
/-! ### slices and sums of tuples -/
theorem rv_take (r : List Nat) (i : Nat) : (rv r).take i = rv (r.take i) := by
  show ((ir r).map V.int).take i = (ir (r.take i)).map V.int
  unfold ir
  rw [List.map_take, List.map_take]
theorem rv_drop (r : List Nat) (i : Nat) : (rv r).drop i = rv (r.drop i) := by
  show ((ir r).map V.int).drop i = (ir (r.drop i)).map V.int
  unfold ir
  rw [List.map_drop, List.map_drop]
theorem cut_ab {r : List Nat} {a b : Nat} (h1 : a ≤ b) (h2 : b ≤ r.length) : cutV (rv r) (some (a : Int)) (some (b : Int)) = rv ((r.drop a).take (b - a)) := by
  unfold cutV
  rw [HT.sIx_nat, HT.sIx_nat, rv_len, show min a r.length = a by omega, show min b r.length = b by omega, rv_drop, rv_take]
theorem cut_b {r : List Nat} {b : Nat} (h2 : b ≤ r.length) : cutV (rv r) none (some (b : Int)) = rv (r.take b) := by
  unfold cutV
  rw [HT.sIx_none, HT.sIx_nat, rv_len, show min b r.length = b by omega, List.drop_zero, Nat.sub_zero, rv_take]
theorem cut_a {r : List Nat} {a : Nat} (h2 : a ≤ r.length) : cutV (rv r) (some (a : Int)) none = rv (r.drop a) := by
  unfold cutV
  rw [HT.sIx_none, HT.sIx_nat, rv_len, show min a r.length = a by omega, rv_drop, List.take_of_length_le]
  rw [rv_len, List.length_drop]
  exact Nat.le_refl _
section
variable {K : PySem.W.Frag} {H : Hp} {Q : VK}
theorem slice_ab {p : Addr} {r : List Nat} {a b : Nat} (hp : SqT K H p (rv r)) (h1 : a ≤ b) (h2 : b ≤ r.length) (nw : 0 < a ∨ b < r.length) (q : ∀ H' c, Same H H' → SqT K H' c (rv ((r.drop a).take (b - a))) → Q (.ref c) H') :
    rSlT K (.ref p) (some (a : Int)) (some (b : Int)) H Q := by
  refine ⟨p, rv r, rfl, hp, fun z => ?_, fun c hc => ?_⟩
  · rw [HT.sIx_nat, HT.sIx_nat, rv_len] at z
    omega
  · rw [cut_ab h1 h2]
    exact q _ c (sameU hc) (SqT.of upd_same)
theorem slice_b {p : Addr} {r : List Nat} {b : Nat} (hp : SqT K H p (rv r)) (h2 : b < r.length) (q : ∀ H' c, Same H H' → SqT K H' c (rv (r.take b)) → Q (.ref c) H') :
    rSlT K (.ref p) none (some (b : Int)) H Q := by
  refine ⟨p, rv r, rfl, hp, fun z => ?_, fun c hc => ?_⟩
  · rw [HT.sIx_nat, rv_len] at z
    omega
  · rw [cut_b (Nat.le_of_lt h2)]
    exact q _ c (sameU hc) (SqT.of upd_same)
theorem slice_a {p : Addr} {r : List Nat} {a : Nat} (hp : SqT K H p (rv r)) (h1 : 0 < a) (h2 : a ≤ r.length) (q : ∀ H' c, Same H H' → SqT K H' c (rv (r.drop a)) → Q (.ref c) H') :
    rSlT K (.ref p) (some (a : Int)) none H Q := by
  refine ⟨p, rv r, rfl, hp, fun z => ?_, fun c hc => ?_⟩
  · rw [HT.sIx_nat, rv_len] at z
    omega
  · rw [cut_a h2]
    exact q _ c (sameU hc) (SqT.of upd_same)
theorem catF_any {a b : Addr} {xs ys : List V} (ha : SqT K H a xs) (hb : SqT K H b ys) (hz : xs.length + ys.length ≤ 1000) (q : ∀ H' c, Same H H' → SqT K H' c (xs ++ ys) → Q (.ref c) H') : rCatF K (.ref a) (.ref b) H Q := by
  refine ⟨a, b, xs, ys, rfl, rfl, ha, hb, small40 hz, fun e => ?_, fun _ e => ?_, fun _ _ p ob _ hp => ?_⟩
  · subst e
    exact q H b (Same.refl H) hb
  · subst e
    exact q H a (Same.refl H) (by rw [List.append_nil]; exact ha)
  · exact q _ p (sameU hp) (.inl (.inr ⟨ob, upd_same⟩))
theorem catF_new {a b : Addr} {xs ys : List V} (ha : SqT K H a xs) (hb : SqT K H b ys) (hz : xs.length + ys.length ≤ 1000) (hx : xs ≠ []) (hy : ys ≠ []) (q : ∀ H' c, Same H H' → FzT H' c (xs ++ ys) → Q (.ref c) H') : rCatF K (.ref a) (.ref b) H Q :=
  ⟨a, b, xs, ys, rfl, rfl, ha, hb, small40 hz, fun e => absurd e hx, fun _ e => absurd e hy, fun _ _ p ob hd hp => q _ p (sameU hp) ⟨ob, hd, upd_same⟩⟩
theorem catF_end {a b : Addr} {xs ys : List V} (ha : FzT H a xs) (hb : SqT K H b ys) (hz : xs.length + ys.length ≤ 1000) (hx : xs ≠ []) (q : ∀ H' c, Same H H' → FzT H' c (xs ++ ys) → Q (.ref c) H') : rCatF K (.ref a) (.ref b) H Q := by
  refine ⟨a, b, xs, ys, rfl, rfl, ha.sq, hb, small40 hz, fun e => absurd e hx, fun _ e => ?_, fun _ _ p ob hd hp => q _ p (sameU hp) ⟨ob, hd, upd_same⟩⟩
  subst e
  exact q H a (Same.refl H) (by rw [List.append_nil]; exact ha)
end
section
variable {P : Program} {w : World} {K : PySem.W.Frag} {mg : Str → Option Value} {base : Heap}
theorem scExch : FnScope ["row", "i", "j", "k", "l"] ["row", "i", "j", "k", "l"] (defScope sExch) := ⟨rfl, rfl, rfl, by decide +kernel, rfl, by decide +kernel, by decide +kernel⟩
def spExch (K : PySem.W.Frag) : Sp := fun vs H Q _ => ∃ (p : Addr) (n : Nat) (r : List Nat) (i j k l : Nat), vs = [.ref p, .int (i : Int), .int (j : Int), .int (k : Int), .int (l : Int)] ∧ SqT K H p (rv r) ∧ IsRow n r ∧ n ≤ 40 ∧ Mv n i j k l ∧
  ∀ H' t, Same H H' → FzT H' t (rv (exch r i j k l)) → Q (.ref t) H'
theorem ok_exch {f : Addr} {fd : FuncData} (F : Fun K "exchanged" "exchanged" sExch f fd) : FnOk P w K mg base CX0 1 f fd ["row", "i", "j", "k", "l"] (spExch K) := by
  refine F.ok scExch (fun vs H Q E h => ?_) (fun cdv A outer s H vs Q E hr h => ?_)
  · obtain ⟨p, n, r, i, j, k, l, rfl, _⟩ := h
    rfl
  · obtain ⟨p, n, r, i, j, k, l, rfl, hp, hrow, hn, m, q⟩ := h
    have hl := hrow.len
    obtain ⟨m1, m2, m3, m4⟩ := m
    refine ⟨_, pss_one (ps_ret (pe_op op_catF (pe_op op_catF (pe_op op_catF (pe_op op_catF (pe_slice sl_tup (pv 0) po_none (po_some (pv 1))) (pe_slice sl_tup (pv 0) (po_some (pv 3)) (po_some (pv 4))))
      (pe_slice sl_tup (pv 0) (po_some (pv 2)) (po_some (pv 3)))) (pe_slice sl_tup (pv 0) (po_some (pv 1)) (po_some (pv 2)))) (pe_slice sl_tup (pv 0) (po_some (pv 4)) po_none))), ?_⟩
    refine ⟨_, rfl, _, rfl, _, rfl, slice_b hp (by omega) fun H1 a s1 hA => ?_⟩
    refine ⟨_, rfl, _, rfl, _, rfl, _, rfl, _, rfl, slice_ab (tupK s1 hp) (by omega) (by omega) (.inl (by omega)) fun H2 d s2 hD => ?_⟩
    have t2 := s1.trans s2
    have lA : (rv (r.take i)).length = i := by rw [rv_len, List.length_take]; omega
    have lD : (rv ((r.drop k).take (l - k))).length = l - k := by rw [rv_len, List.length_take, List.length_drop]; omega
    have lC : (rv ((r.drop j).take (k - j))).length = k - j := by rw [rv_len, List.length_take, List.length_drop]; omega
    have lB : (rv ((r.drop i).take (j - i))).length = j - i := by rw [rv_len, List.length_take, List.length_drop]; omega
    have lE : (rv (r.drop l)).length = n - l := by rw [rv_len, List.length_drop]; omega
    refine catF_any (tupK s2 hA) hD (by omega) fun H3 x1 s3 h1 => ?_
    have t3 := t2.trans s3
    refine ⟨_, rfl, _, rfl, _, rfl, _, rfl, _, rfl, slice_ab (tupK t3 hp) (by omega) (by omega) (.inl (by omega)) fun H4 c s4 hC => ?_⟩
    have t4 := t3.trans s4
    refine catF_any (tupK s4 h1) hC (by rw [List.length_append]; omega) fun H5 x2 s5 h2 => ?_
    have t5 := t4.trans s5
    refine ⟨_, rfl, _, rfl, _, rfl, _, rfl, _, rfl, slice_ab (tupK t5 hp) (by omega) (by omega) (.inr (by omega)) fun H6 b s6 hB => ?_⟩
    have t6 := t5.trans s6
    refine catF_new (tupK s6 h2) hB (by rw [List.length_append, List.length_append]; omega) (fun z => ?_) (fun z => ?_) fun H7 x3 s7 h3 => ?_
    · have := congrArg List.length z
      rw [List.length_append, List.length_append, lA, lD, lC] at this
      have : i + (l - k) + (k - j) = 0 := this
      omega
    · have := congrArg List.length z
      rw [lB] at this
      have : j - i = 0 := this
      omega
    have t7 := t6.trans s7
    refine ⟨_, rfl, _, rfl, _, rfl, ?_⟩
    unfold tNoPart
    refine slice_a (tupK t7 hp) (by omega) (by omega) fun H8 e s8 hE => ?_
    refine catF_end (h3.same s8) hE (by rw [List.length_append, List.length_append, List.length_append]; omega) (fun z => ?_) fun H9 t s9 h4 => ?_
    · have := congrArg List.length z
      rw [List.length_append, List.length_append, List.length_append, lA, lD, lC, lB] at this
      have : i + (l - k) + (k - j) + (j - i) = 0 := this
      omega
    refine q H9 t ((t7.trans s8).trans s9) ?_
    have ee : rv (exch r i j k l) = rv (r.take i) ++ rv ((r.drop k).take (l - k)) ++ rv ((r.drop j).take (k - j)) ++ rv ((r.drop i).take (j - i)) ++ rv (r.drop l) := by
      unfold exch
      rw [rv_app, rv_app, rv_app, rv_app]
      simp only [List.append_assoc]
    rw [ee]
    exact h4
/-! ### least_blocks -/
theorem scLeast : FnScope ["first", "second", "row"] ["first", "second"] (defScope sLeast) := ⟨rfl, rfl, rfl, by decide +kernel, rfl, by decide +kernel, by decide +kernel⟩
def spLeast (K : PySem.W.Frag) : Sp := fun vs H Q _ => ∃ (p o : Addr) (n : Nat) (a b : List Nat), vs = [.ref p, .ref o] ∧ SqT K H p (rv a) ∧ SqT K H o (rv b) ∧ IsRow n a ∧ IsRow n b ∧ 1 ≤ n ∧ n ≤ 40 ∧
  ∀ H', Same H H' → Q (.int ((lb n a b : Nat) : Int)) H'
theorem ok_least {f fR fB : Addr} {fd fdR fdB : FuncData} (F : Fun K "least_blocks" "least_blocks" sLeast f fd) (T : Txt mg)
    (GR : FnOk P w K mg base CX0 2 fR fdR ["first", "second"] (spRel K)) (kR : PySem.W.keepIn K (.ref fR) = true) (bR : Binds K fdR ["first", "second"] []) (gR : mg "relative_row" = some (.ref fR))
    (GB : FnOk P w K mg base CX0 2 fB fdB ["row"] (spBRings K)) (kB : PySem.W.keepIn K (.ref fB) = true) (bB : Binds K fdB ["row"] []) (gB : mg "block_rings" = some (.ref fB)) :
    FnOk P w K mg base CX0 3 f fd ["first", "second"] (spLeast K) := by
  refine F.ok scLeast (fun vs H Q E h => ?_) (fun cdv A outer s H vs Q E hr h => ?_)
  · obtain ⟨p, o, n, a, b, rfl, _⟩ := h
    rfl
  · obtain ⟨p, o, n, a, b, rfl, hp, ho, ha, hb, hn1, hn, q⟩ := h
    refine ⟨_, pss_cons (ps_set (i := 2) scLeast.nd rfl (.inl rfl) (pe_call GR hr (by rfl) gR kR bR .nil pass0 (pa_cons (pv 0) (pa_cons (pv 1) pa_nil))))
      (pss_one (ps_ret (pe_op op_fdiv (pe_op op_sub (pe_op op_add (pe_callB call_len_seq (by rfl) T.len PySem.boot_len (pa_cons (pv 2) pa_nil)) pe_int)
        (pe_callB call_len_seq (by rfl) T.len PySem.boot_len (pa_cons (pe_call GB hr (by rfl) gB kB bB .nil pass0 (pa_cons (pv 2) pa_nil)) pa_nil))) pe_int))), ?_⟩
    refine ⟨_, rfl, _, rfl, p, o, n, a, b, rfl, hp, ho, ha, hb, hn, fun H1 t s1 ht => ?_⟩
    have hrel := ha.rel hb
    refine ⟨_, rfl, t, _, rfl, .inr ht.sq, _, _, rfl, rfl, _, rfl, t, n, rel a b, rfl, ht.sq, hrel, hn1, hn, fun H2 u xs s2 hu hl => ?_⟩
    refine ⟨u, xs, rfl, .inr (SqT.of hu), _, _, rfl, rfl, _, _, rfl, rfl, ?_, ?_⟩
    · exact ⟨by decide, by decide⟩
    · rw [rv_len, hrel.len, hl]
      have e : ((n : Int) + 1 - ((cn n (rel a b) : Nat) : Int)) / 2 = ((lb n a b : Nat) : Int) := by
        have := cn_le n (rel a b)
        unfold lb
        omega
      have q2 := q H2 (s1.trans s2)
      rw [← e] at q2
      exact q2
end
end K8
/-! K8e: next_exchange. -/
namespace K8
open PySem PySem.Spec PyProof.Rows L2
/-- the places that hold another number -/
def offs (r : List Nat) (i : Nat) : List Nat := (List.range i).filter fun p => decide (r[p]? ≠ some (p + 1))
theorem offs_succ (r : List Nat) (i : Nat) : offs r (i + 1) = if r[i]? ≠ some (i + 1) then offs r i ++ [i] else offs r i := by
  unfold offs
  rw [List.range_succ, List.filter_append]
  by_cases h : r[i]? = some (i + 1)
  · rw [if_neg (by simpa using h)]
    simp [List.filter_cons, h]
  · rw [if_pos h]
    simp [List.filter_cons, h]
theorem offs_len (r : List Nat) (i : Nat) : (offs r i).length ≤ i := by
  have := List.length_filter_le (fun p => decide (r[p]? ≠ some (p + 1))) (List.range i)
  rw [List.length_range] at this
  exact this
theorem mem_offs {r : List Nat} {n p : Nat} : p ∈ offs r n ↔ p < n ∧ r[p]? ≠ some (p + 1) := by
  unfold offs
  rw [List.mem_filter, List.mem_range, decide_eq_true_eq]
theorem offs_some {n : Nat} {r : List Nat} (h : IsRow n r) (ne : r ≠ List.range' 1 n) : offs r n ≠ [] := fun z => ne (by
  refine List.ext_getElem? fun p => ?_
  by_cases hp : p < n
  · rw [List.getElem?_range' hp]
    by_cases c : r[p]? = some (p + 1)
    · rw [c]
      congr 1
      omega
    · have := mem_offs.mpr ⟨hp, c⟩
      rw [z] at this
      cases this
  · rw [List.getElem?_eq_none (by rw [h.len]; omega), List.getElem?_eq_none (by rw [List.length_range']; omega)])
section
variable {P : Program} {w : World} {K : PySem.W.Frag} {mg : Str → Option Value} {base : Heap}
theorem scNext : FnScope ["row", "n", "i", "k", "greatest", "j", "place"] ["row"] (defScope sNext) := ⟨rfl, rfl, rfl, by decide +kernel, rfl, by decide +kernel, by decide +kernel⟩
def spNext (K : PySem.W.Frag) : Sp := fun vs H Q _ => ∃ (p : Addr) (n : Nat) (r : List Nat), vs = [.ref p] ∧ FzT H p (rv r) ∧ IsRow n r ∧ n ≤ 40 ∧ r ≠ List.range' 1 n ∧
  ∀ H' t (i j k l : Nat), Same H H' → H' t = some (.tup [.int (i : Int), .int (j : Int), .int (k : Int), .int (l : Int)]) → Chosen n r i j k l → Q (.ref t) H'
theorem ok_next {f : Addr} {fd : FuncData} (F : Fun K "next_exchange" "next_exchange" sNext f fd) (T : Txt mg) : FnOk P w K mg base CX0 1 f fd ["row"] (spNext K) := by
  refine F.ok scNext (fun vs H Q E h => ?_) (fun cdv A outer s H vs Q E hr h => ?_)
  · obtain ⟨p, n, r, rfl, _⟩ := h
    rfl
  · obtain ⟨p, n, r, rfl, hp, hrow, hn, hne, q⟩ := h
    have hlen := hrow.len
    refine ⟨_, pss_cons (ps_set (i := 1) scNext.nd rfl (.inl rfl) (pe_callB call_len_seq (by rfl) T.len PySem.boot_len (pa_cons (pv 0) pa_nil)))
      (pss_cons (ps_set (i := 2) scNext.nd rfl (.inl rfl) (pe_callB (cr_min rfl) (by rfl) T.min boot_min (pa_cons (pe_lc (own := [("place", 6)]) (g := gName 6) rfl scNext.nd
          (pi_range1 (by rfl) T.range (pa_cons (pv 1) pa_nil))
          (blkOk_by (N := ["row", "n", "i", "k", "greatest", "j", "place"]) (sc := defScope sNext) (by decide +kernel))
          (fun _ _ _ _ _ => pg_name (i := 6) scNext.nd rfl (Or.inl rfl))
          (fun _ _ _ _ _ => pts_one (pt_cmpR op_ne (pe_ix (r := rIxT K) ix_tup (pv 0) (pv 6) (fun _ _ => rfl)) (pe_op op_add (pv 6) pe_int) (nomark _)))
          (fun _ _ _ _ _ => pv 6)) pa_nil)))
      (pss_cons (ps_set (i := 3) scNext.nd rfl (.inl rfl) (pe_tidx (pv 0) (pa_cons (pe_op op_add (pv 2) pe_int) pa_nil)))
      (pss_cons (ps_set (i := 4) scNext.nd rfl (.inl rfl) (pe_callB (cr_maxT rfl (hu_of hr)) (by rfl) T.max boot_max (pa_cons (pe_slice sl_tup (pv 0) (po_some (pv 2)) (po_some (pv 3))) pa_nil)))
      (pss_cons (ps_set (i := 5) scNext.nd rfl (.inl rfl) (pe_op op_add (pe_tidx (pv 0) (pa_cons (pv 4) pa_nil)) pe_int))
      (pss_cons (ps_if (pt_cmpR op_eq (pv 4) (pv 1) (nomark _)) (pss_one (ps_ret (pe_tup (pa_cons (pv 2) (pa_cons (pv 5) (pa_cons (pv 3) (pa_cons (pv 1) pa_nil))))))) pss_nil)
      (pss_one (ps_ret (pe_tup (pa_cons (pv 2) (pa_cons (pv 5) (pa_cons (pv 3) (pa_cons (pe_tidx (pv 0) (pa_cons (pe_op op_add (pv 4) pe_int) pa_nil)) pa_nil)))))))))))), ?_⟩
    -- the length
    refine ⟨.ref p, rfl, p, rv r, rfl, .inr hp.sq, ?_⟩
    rw [rv_len, hlen]
    -- the first place that is off
    refine ⟨_, rfl, n, rfl, by omega, by omega, fun D hD => ?_⟩
    refine lc_range (lo := 0) (n := n) (fun i H' => Same H H' ∧ H' D = some (.lst (rv (offs r i)))) ⟨sameU hD, upd_same⟩ (fun i H1 hi hP => ?_) (fun H1 hP => ?_)
    · obtain ⟨s1, hD1⟩ := hP
      have hir : i < r.length := by rw [hlen]; exact hi
      have er : r[i]? = some r[i] := List.getElem?_eq_getElem hir
      refine ⟨rfl, _, rfl, _, rfl, p, rv r, _, _, rfl, rfl, (hp.same s1).sq, at_of (Int.zero_add _) (rv_get er), _, rfl, _, _, rfl, rfl, rfl, _, rfl, ?_⟩
      rw [offs_succ]
      by_cases c : r[i] = i + 1
      · have cv : V.int ((r[i] : Nat) : Int) = V.int (0 + (i : Int) + 1) := by rw [c]; congr 1; omega
        rw [decide_eq_true cv, if_neg (by rw [er, c]; exact fun z => z rfl)]
        exact iteF ⟨s1, hD1⟩
      · have cv : ¬ V.int ((r[i] : Nat) : Int) = V.int (0 + (i : Int) + 1) := fun z => c (by have := V.int.inj z; omega)
        rw [decide_eq_false cv, if_pos (by rw [er]; exact fun z => c (Option.some.inj z))]
        refine iteT ⟨_, rfl, _, hD1, small1000 (by rw [rv_len]; have := offs_len r i; omega), sameU2 s1 hD, ?_⟩
        rw [upd_same, rv_app]
        show some (HO.lst (rv (offs r i) ++ [V.int (0 + (i : Int))])) = some (HO.lst (rv (offs r i) ++ [V.int (i : Int)]))
        rw [Int.zero_add]
    · obtain ⟨s1, hD1⟩ := hP
      have on := offs_some hrow hne
      refine ⟨D, ir (offs r n), rfl, SqL.of hD1, ?_, fun mi hmi hleast => ?_⟩
      · rw [ir_len]
        exact List.length_pos_iff.mpr on
      obtain ⟨i, hi, rfl⟩ := ir_mem.mp hmi
      obtain ⟨hin, hoff⟩ := mem_offs.mp hi
      have hfirst : ∀ p, p < i → r[p]? = some (p + 1) := fun p hpi => by
        by_cases c : r[p]? = some (p + 1)
        · exact c
        · have := hleast (p : Int) (ir_mem.mpr ⟨p, mem_offs.mpr ⟨by omega, c⟩, rfl⟩)
          omega
      obtain ⟨k1, k2⟩ := first_off hrow hin hfirst hoff
      -- where the missing number stands
      have ek : (ir r).idxOf ((i : Int) + 1) = r.idxOf (i + 1) := ir_idx r (i + 1)
      refine ⟨_, rfl, p, rv r, rfl, hp.same s1, _, rfl, _, _, rfl, rfl, p, ir r, (i : Int) + 1, rfl, rfl, (hp.same s1).sq, ir_mem.mpr ⟨i + 1, hrow.mem.mpr ⟨by omega, by omega⟩, rfl⟩, ?_⟩
      rw [ek]
      -- the greatest between
      refine ⟨_, rfl, _, rfl, _, rfl, _, rfl, _, rfl, slice_ab (hp.same s1).sq (by omega) (by omega) (.inr (by omega)) fun H2 c s2 hc => ?_⟩
      have t2 := s1.trans s2
      refine ⟨c, ir ((r.drop i).take (r.idxOf (i + 1) - i)), rfl, hc, fun z => ?_, fun mx hmx hgr => ?_⟩
      · have := congrArg List.length z
        rw [ir_len, List.length_take, List.length_drop] at this
        have : min (r.idxOf (i + 1) - i) (r.length - i) = 0 := this
        omega
      obtain ⟨g, hg, rfl⟩ := ir_mem.mp hmx
      have hmax : ∀ y, y ∈ (r.drop i).take (r.idxOf (i + 1) - i) → y ≤ g := fun y hy => by
        have := hgr (y : Int) (ir_mem.mpr ⟨y, hy, rfl⟩)
        omega
      have hgr2 : g ∈ r := List.mem_of_mem_drop (List.mem_of_mem_take hg)
      have hg12 := hrow.mem.mp hgr2
      -- behind it
      have eg : (ir r).idxOf (g : Int) = r.idxOf g := ir_idx r g
      refine ⟨_, rfl, p, rv r, rfl, hp.same t2, _, rfl, p, ir r, (g : Int), rfl, rfl, (hp.same t2).sq, ir_mem.mpr ⟨g, hgr2, rfl⟩, _, _, rfl, rfl, ?_⟩
      rw [eg]
      -- is it the last number of all
      refine ⟨_, rfl, _, rfl, rfl, _, rfl, ?_⟩
      by_cases c : g = n
      · rw [decide_eq_true (show V.int (g : Int) = V.int (n : Int) by rw [c])]
        refine iteT ⟨_, rfl, _, rfl, _, rfl, _, rfl, by show 4 ≤ sizeLine; decide, fun t ht => ?_⟩
        refine q _ t i (r.idxOf g + 1) (r.idxOf (i + 1)) n (sameU3 t2 ht) upd_same ⟨hin, hfirst, hoff, rfl, g, hg, hmax, rfl, ?_⟩
        rw [c, List.idxOf_eq_length fun z => by have := (hrow.mem.mp z).2; omega, hlen]
      · rw [decide_eq_false (show ¬ V.int (g : Int) = V.int (n : Int) from fun z => c (Int.ofNat.inj (V.int.inj z)))]
        refine iteF ?_
        have eg1 : (ir r).idxOf ((g : Int) + 1) = r.idxOf (g + 1) := ir_idx r (g + 1)
        refine ⟨_, rfl, _, rfl, _, rfl, _, rfl, p, rv r, rfl, hp.same t2, _, rfl, _, _, rfl, rfl, p, ir r, (g : Int) + 1, rfl, rfl, (hp.same t2).sq, ir_mem.mpr ⟨g + 1, hrow.mem.mpr ⟨by omega, by omega⟩, rfl⟩, by show 4 ≤ sizeLine; decide, fun t ht => ?_⟩
        rw [eg1]
        exact q _ t i (r.idxOf g + 1) (r.idxOf (i + 1)) (r.idxOf (g + 1)) (sameU3 t2 ht) upd_same ⟨hin, hfirst, hoff, rfl, g, hg, hmax, rfl, rfl⟩
end
end K8
/-! K8f: block_script. -/
namespace K8
open PySem PySem.Spec PyProof.Rows L2
/-- a move's tuple -/
def mvV (q : Quad) : List V := [.str "blocks", .int (q.1 : Int), .int (q.2.1 : Int), .int (q.2.2.1 : Int), .int (q.2.2.2 : Int)]
/-- the addresses ts hold the moves ms -/
structure Held (H : Hp) (ts : List Addr) (ms : List Quad) : Prop where
  len : ts.length = ms.length
  at_ : ∀ (i : Nat) (q : Quad), ms[i]? = some q → ∃ a, ts[i]? = some a ∧ H a = some (.tup (mvV q))
theorem Held.nil (H : Hp) : Held H [] [] := ⟨rfl, fun i q h => by simp at h⟩
theorem Held.same {H H' : Hp} {ts : List Addr} {ms : List Quad} (h : Held H ts ms) (s : Same H H') : Held H' ts ms :=
  ⟨h.len, fun i q e => by
    obtain ⟨a, h1, h2⟩ := h.at_ i q e
    exact ⟨a, h1, s _ _ h2⟩⟩
theorem Held.snoc {H : Hp} {ts : List Addr} {ms : List Quad} {t : Addr} {q : Quad} (h : Held H ts ms) (ht : H t = some (.tup (mvV q))) : Held H (ts ++ [t]) (ms ++ [q]) := by
  refine ⟨by rw [List.length_append, List.length_append, h.len]; rfl, fun i q' e => ?_⟩
  rw [List.getElem?_append] at e
  by_cases c : i < ms.length
  · rw [if_pos c] at e
    obtain ⟨a, h1, h2⟩ := h.at_ i q' e
    exact ⟨a, by rw [List.getElem?_append, if_pos (by rw [h.len]; exact c)]; exact h1, h2⟩
  · rw [if_neg c] at e
    refine ⟨t, ?_, ?_⟩
    · rw [List.getElem?_append, if_neg (by rw [h.len]; exact c), h.len]
      cases hi : i - ms.length with
      | zero => rfl
      | succ z => rw [hi] at e; simp at e
    · cases hi : i - ms.length with
      | zero =>
        rw [hi] at e
        have : q = q' := Option.some.inj e
        rw [← this]
        exact ht
      | succ z => rw [hi] at e; simp at e
section
variable {P : Program} {w : World} {K : PySem.W.Frag} {mg : Str → Option Value} {base : Heap}
theorem scScript : FnScope ["first", "second", "row", "moves", "i", "j", "k", "l"] ["first", "second"] (defScope sScript) := ⟨rfl, rfl, rfl, by decide +kernel, rfl, by decide +kernel, by decide +kernel⟩
def spScript (K : PySem.W.Frag) : Sp := fun vs H Q _ => ∃ (p o : Addr) (n : Nat) (a b : List Nat), vs = [.ref p, .ref o] ∧ SqT K H p (rv a) ∧ SqT K H o (rv b) ∧ IsRow n a ∧ IsRow n b ∧ n ≤ 40 ∧
  ∀ H' t ts ms, Same H H' → H' t = some (.tup (ts.map V.ref)) → Held H' ts ms → Mvs n ms → ms.length = lb n a b → exchs a ms = b → Q (.ref t) H'
theorem ok_script {f fR fS fN fE : Addr} {fd fdR fdS fdN fdE : FuncData} (F : Fun K "block_script" "block_script" sScript f fd) (T : Txt mg)
    (GR : FnOk P w K mg base CX0 2 fR fdR ["first", "second"] (spRel K)) (kR : PySem.W.keepIn K (.ref fR) = true) (bR : Binds K fdR ["first", "second"] []) (gR : mg "relative_row" = some (.ref fR))
    (GS : FnOk P w K mg base CX0 1 fS fdS ["n"] spSorted) (kS : PySem.W.keepIn K (.ref fS) = true) (bS : Binds K fdS ["n"] []) (gS : mg "sorted_row" = some (.ref fS))
    (GN : FnOk P w K mg base CX0 1 fN fdN ["row"] (spNext K)) (kN : PySem.W.keepIn K (.ref fN) = true) (bN : Binds K fdN ["row"] []) (gN : mg "next_exchange" = some (.ref fN))
    (GE : FnOk P w K mg base CX0 1 fE fdE ["row", "i", "j", "k", "l"] (spExch K)) (kE : PySem.W.keepIn K (.ref fE) = true) (bE : Binds K fdE ["row", "i", "j", "k", "l"] []) (gE : mg "exchanged" = some (.ref fE)) :
    FnOk P w K mg base CX0 3 f fd ["first", "second"] (spScript K) := by
  refine F.ok scScript (fun vs H Q E h => ?_) (fun cdv A outer s H vs Q E hr h => ?_)
  · obtain ⟨p, o, n, a, b, rfl, _⟩ := h
    rfl
  · obtain ⟨p, o, n, a, b, rfl, hp, ho, ha, hb, hn, q⟩ := h
    have hr1 : Room 1 _ := hr.mono (by decide)
    refine ⟨_, pss_cons (ps_set (i := 2) scScript.nd rfl (.inl rfl) (pe_call GR hr (by rfl) gR kR bR .nil pass0 (pa_cons (pv 0) (pa_cons (pv 1) pa_nil))))
      (pss_cons (ps_set (i := 3) scScript.nd rfl (.inl rfl) (pe_lst pa_nil))
      (pss_cons (ps_while PassesOwn.never (pt_cmpR (op_neD hr.units) (pv 2) (pe_call GS hr1 (by rfl) gS kS bS .nil pass0 (pa_cons (pe_callB call_len_seq (by rfl) T.len PySem.boot_len (pa_cons (pv 2) pa_nil)) pa_nil)) (nomark _))
        (pss_cons (ps_asg (pe_call GN hr1 (by rfl) gN kN bN .nil pass0 (pa_cons (pv 2) pa_nil))
            (pg_tup rfl (pgs_cons (pg_name (i := 4) scScript.nd rfl (.inl rfl)) (pgs_cons (pg_name (i := 5) scScript.nd rfl (.inl rfl)) (pgs_cons (pg_name (i := 6) scScript.nd rfl (.inl rfl)) (pgs_cons (pg_name (i := 7) scScript.nd rfl (.inl rfl)) pgs_nil))))))
        (pss_cons (ps_set (i := 2) scScript.nd rfl (.inl rfl) (pe_call GE hr1 (by rfl) gE kE bE .nil pass0 (pa_cons (pv 2) (pa_cons (pv 4) (pa_cons (pv 5) (pa_cons (pv 6) (pa_cons (pv 7) pa_nil)))))))
        (pss_one (ps_expr (pe_bm PySem.F.plainAttrs_list PySem.F.slot_list_append PySem.F.type_list_append mt_append (pv 3)
          (pa_cons (pe_tup (pa_cons pe_str (pa_cons (pv 4) (pa_cons (pv 5) (pa_cons (pv 6) (pa_cons (pv 7) pa_nil)))))) pa_nil)))))))
      (pss_one (ps_ret (pe_callTy call_tuple_of (by rfl) T.tuple PyProof.Rows.boot_tuple (pa_cons (pv 3) pa_nil)))))), ?_⟩
    -- the beginning
    refine ⟨_, rfl, _, rfl, p, o, n, a, b, rfl, hp, ho, ha, hb, hn, fun H1 rp s1 hrp => ?_⟩
    refine ⟨Nat.zero_le _, fun mo hmo => ?_⟩
    have hmo0 : H mo = none := s1.free hmo
    have hrel := ha.rel hb
    refine ⟨fun m σ H' => ∃ (rp : Addr) (r : List Nat) (ms : List Quad) (ts : List Addr) (v4 v5 v6 v7 : Option V), σ = [some (.ref p), some (.ref o), some (.ref rp), some (.ref mo), v4, v5, v6, v7] ∧ Same H H' ∧ FzT H' rp (rv r) ∧ IsRow n r ∧
        H' mo = some (.lst (ts.map V.ref)) ∧ Held H' ts ms ∧ Mvs n ms ∧ exchs (rel a b) ms = r ∧ cn n r = cn n (rel a b) + 2 * ms.length ∧ m = n + 1 - cn n r,
      ⟨_, rp, rel a b, [], [], none, none, none, none, rfl, sameU3 s1 hmo, hrp.same (sameU hmo), hrel, upd_same, Held.nil _, Mvs.nil n, rfl, rfl, rfl⟩, ?_⟩
    rintro m σ H2 ⟨rp, r, ms, ts, v4, v5, v6, v7, rfl, s2, hr2, hrow, hm2, held, mok, eex, ecn, rfl⟩
    -- the test
    refine ⟨_, rfl, .ref rp, rfl, rp, rv r, rfl, .inr hr2.sq, n, by rw [rv_len, hrow.len]; rfl, hn, fun H3 u s3 hu => ?_⟩
    have t3 := s2.trans s3
    refine ⟨.tuple ((ir r).map PyData.int), .tuple ((ir (List.range' 1 n)).map PyData.int), .tup (hr2.same s3).sq (dpInts _), .tup (SqT.of hu) (dpInts _), shapedT _, shapedT _, ?_⟩
    rw [eqvT]
    by_cases hs : r = List.range' 1 n
    · -- the end
      rw [decide_eq_true (show ir r = ir (List.range' 1 n) by rw [hs])]
      refine ⟨_, rfl, iteF ?_⟩
      refine ⟨_, rfl, mo, _, rfl, .inl ⟨SqL.of (s3 _ _ hm2), fun t ht => ?_⟩⟩
      rw [hs] at eex ecn
      rw [cn_sorted] at ecn
      refine q _ t ts ms (sameU3 t3 ht) upd_same ((held.same s3).same (sameU ht)) mok ?_ (leads_of_rel ha hb eex)
      unfold lb
      omega
    · rw [decide_eq_false (show ¬ ir r = ir (List.range' 1 n) from fun z => hs (ir_inj z))]
      refine ⟨_, rfl, iteT ?_⟩
      refine ⟨fun σ H' => ∃ m', m' < n + 1 - cn n r ∧ ∃ (rp : Addr) (r : List Nat) (ms : List Quad) (ts : List Addr) (v4 v5 v6 v7 : Option V), σ = [some (.ref p), some (.ref o), some (.ref rp), some (.ref mo), v4, v5, v6, v7] ∧ Same H H' ∧ FzT H' rp (rv r) ∧ IsRow n r ∧
        H' mo = some (.lst (ts.map V.ref)) ∧ Held H' ts ms ∧ Mvs n ms ∧ exchs (rel a b) ms = r ∧ cn n r = cn n (rel a b) + 2 * ms.length ∧ m' = n + 1 - cn n r, fun _ _ h => h, ?_⟩
      -- the chosen move
      refine ⟨_, rfl, rp, n, r, rfl, hr2.same s3, hrow, hn, hs, fun H4 t4 i j k l s4 ht4 ch => ?_⟩
      have t4s := t3.trans s4
      have hmv := (ch.mv hrow).1
      have two := ch.two hrow
      refine ⟨t4, _, rfl, SqT.of ht4, rfl, _, _, rfl, _, _, rfl, _, _, rfl, _, _, rfl, rfl, ?_⟩
      -- it is done
      refine ⟨_, rfl, _, rfl, _, rfl, _, rfl, _, rfl, rp, n, r, i, j, k, l, rfl, (hr2.same (s3.trans s4)).sq, hrow, hn, hmv, fun H5 rp2 s5 hrp2 => ?_⟩
      have t5s := t4s.trans s5
      have hm5 := s5 _ _ (s4 _ _ (s3 _ _ hm2))
      -- it is kept
      refine ⟨_, rfl, .inl ⟨rfl, _, SqL.of hm5⟩, _, rfl, _, rfl, _, rfl, _, rfl, by show 5 ≤ sizeLine; decide, fun mt hmt => ?_⟩
      have nmm : mo ≠ mt := ne_of_none hm5 hmt
      have cle := cn_le n (exch r i j k l)
      have hlen : ts.length ≤ 40 := by
        rw [held.len]
        have := cn_le n r
        omega
      refine ⟨mo, ts.map V.ref, _, rfl, rfl, by rw [upd_ne nmm]; exact hm5, small1000 (by rw [List.length_map]; omega), ?_⟩
      refine ⟨n + 1 - cn n (exch r i j k l), by omega, rp2, exch r i j k l, ms ++ [(i, j, k, l)], ts ++ [mt], _, _, _, _, rfl, sameU2 (sameU3 t5s hmt) hmo0, ?_, hrow.exch hmv, ?_, ?_, mok.snoc hmv, ?_, ?_, rfl⟩
      · -- the new row stands
        obtain ⟨ob, hd, e⟩ := hrp2
        refine ⟨ob, hd, ?_⟩
        rw [upd_ne (ne_of e hm5 (by intro z; cases z)), upd_ne (ne_of_none e hmt)]
        exact e
      · rw [upd_same, List.map_append]
        rfl
      · -- the moves stand
        have h5 : Held (upd H5 mt (.tup (mvV (i, j, k, l)))) (ts ++ [mt]) (ms ++ [(i, j, k, l)]) :=
          Held.snoc (((held.same s3).same (s4.trans s5)).same (sameU hmt)) upd_same
        refine ⟨h5.len, fun x qd e => ?_⟩
        obtain ⟨ad, h1, h2⟩ := h5.at_ x qd e
        refine ⟨ad, h1, ?_⟩
        have nad : ad ≠ mo := fun z => by
          rw [z, upd_ne nmm, hm5] at h2
          cases h2
        rw [← h2]
        exact upd_ne nad
      · rw [exchs_snoc, eex]
      · rw [two, ecn, List.length_append, List.length_singleton]
        omega
end
end K8
/-! K9a: the law's cells, digits, rows. -/
namespace K8
open PySem PySem.Spec PyProof.Rows L2
section
variable {P : Program} {w : World} {K : PySem.W.Frag} {mg : Str → Option Value} {base : Heap}
/-! ### a cell -/
theorem scCell : FnScope ["_law_script", "_law_k"] ["_law_script", "_law_k"] (defScope sCell) := ⟨rfl, rfl, rfl, by decide +kernel, rfl, by decide +kernel, by decide +kernel⟩
def spCellX (K : PySem.W.Frag) : Sp := fun vs H Q _ => ∃ (a : Addr) (ns : List Int) (k : Nat), vs = [.ref a, .int (k : Int)] ∧ SqL K H a (ns.map V.int) ∧ ∀ z : Int, Q (.int z) H
theorem ok_cell {f : Addr} {fd : FuncData} (F : Fun K "_law_cell" "_law_cell" sCell f fd) (T : Txt mg) : FnOk P w K mg base CX0 1 f fd ["_law_script", "_law_k"] (spCellX K) := by
  refine F.ok scCell (fun vs H Q E h => ?_) (fun cdv A outer s H vs Q E hr h => ?_)
  · obtain ⟨a, ns, k, rfl, _⟩ := h
    rfl
  · obtain ⟨a, ns, k, rfl, hS, q⟩ := h
    refine ⟨_, pss_cons (ps_if (pt_cmpR op_lt (pv 1) (pe_callB call_len_seq (by rfl) T.len PySem.boot_len (pa_cons (pv 0) pa_nil)) (nomark _)) (pss_one (ps_ret (pe_ix ix_list (pv 0) (pv 1) (fun _ _ => rfl)))) pss_nil)
      (pss_one (ps_ret pe_int)), ?_⟩
    refine ⟨_, rfl, .ref a, rfl, a, _, rfl, .inl hS, _, _, rfl, rfl, _, rfl, ?_⟩
    refine ite2 (fun c => ?_) (fun c => ?_)
    · have c1 : (k : Int) < ((ns.map V.int).length : Int) := of_decide_eq_true c
      rw [List.length_map] at c1
      have hk : k < ns.length := by omega
      refine ⟨_, rfl, _, rfl, a, _, _, .int ns[k], rfl, rfl, hS, atI_nat (by rw [List.getElem?_map, List.getElem?_eq_getElem hk]; rfl), ?_⟩
      exact q _
    · exact q _
/-! ### a richer cell -/
theorem scRich : FnScope ["_law_cell_here", "_law_low", "_law_high"] ["_law_cell_here"] (defScope sRich) := ⟨rfl, rfl, rfl, by decide +kernel, rfl, by decide +kernel, by decide +kernel⟩
def spRich : Sp := fun vs H Q _ => ∃ (z : Int), vs = [.int z] ∧ ∀ y : Int, Q (.int y) H
theorem ok_rich {f : Addr} {fd : FuncData} (F : Fun K "_law_rich" "_law_rich" sRich f fd) (T : Txt mg) : FnOk P w K mg base CX0 1 f fd ["_law_cell_here"] spRich := by
  refine F.ok scRich (fun vs H Q E h => ?_) (fun cdv A outer s H vs Q E hr h => ?_)
  · obtain ⟨z, rfl, _⟩ := h
    rfl
  · obtain ⟨z, rfl, q⟩ := h
    refine ⟨_, pss_cons (ps_if (pt_cmpR op_ge (pv 0) (pe_op op_pow pe_int pe_int) (nomark _)) (pss_one (ps_ret (pv 0))) pss_nil)
      (pss_cons (ps_set (i := 1) scRich.nd rfl (.inl rfl) (pe_op op_mod (pe_callTy call_int1 (by rfl) T.int PyProof.Rows.boot_int (pa_cons (pe_op op_add (pe_op op_mul (pv 0) pe_int) pe_int) pa_nil)) pe_int))
      (pss_cons (ps_set (i := 2) scRich.nd rfl (.inl rfl) (pe_op op_mod (pe_callTy call_int1 (by rfl) T.int PyProof.Rows.boot_int (pa_cons (pe_op op_add (pe_op op_add (pe_op op_mul (pv 1) pe_int) (pe_op op_fdiv (pv 0) pe_int)) pe_int) pa_nil)) pe_int))
      (pss_one (ps_ret (pe_op op_add (pe_op op_mul (pv 1) pe_int) (pv 2)))))), ?_⟩
    refine ⟨_, rfl, 10, 18, rfl, rfl, ⟨by decide, by decide, by decide⟩, _, _, rfl, rfl, _, rfl, ?_⟩
    refine ite2 (fun _ => ⟨_, rfl, q _⟩) (fun _ => ?_)
    refine ⟨_, rfl, _, _, rfl, rfl, .inr ⟨by decide, by decide⟩, _, _, rfl, rfl, .inl ⟨_, rfl, _, _, rfl, rfl, (by show (0 : Int) < 2147483647; decide), ?_⟩⟩
    refine ⟨_, rfl, _, _, rfl, rfl, .inr ⟨by decide, by decide⟩, _, rfl, _, _, rfl, rfl, ⟨by decide, by decide⟩, _, _, rfl, rfl, _, _, rfl, rfl, .inl ⟨_, rfl, _, _, rfl, rfl, (by show (0 : Int) < 2147483629; decide), ?_⟩⟩
    refine ⟨_, rfl, _, _, rfl, rfl, .inr ⟨by decide, by decide⟩, _, rfl, _, _, rfl, rfl, ?_⟩
    exact q _
/-! ### digits -/
theorem scDigits : FnScope ["_law_cell_here", "_law_sizes", "_law_row_here", "_law_size"] ["_law_cell_here", "_law_sizes"] (defScope sDigits) := ⟨rfl, rfl, rfl, by decide +kernel, rfl, by decide +kernel, by decide +kernel⟩
def spDigits : Sp := fun vs H Q _ => ∃ (z : Int) (l : Addr) (ms : List Nat), vs = [.int z, .ref l] ∧ H l = some (.lst (rv ms)) ∧ (∀ m, m ∈ ms → 1 ≤ m ∧ m ≤ 100) ∧ ms.length ≤ 10 ∧
  ∀ H' t (ds : List Nat), Same H H' → H' t = some (.lst (rv ds)) → ds.length = ms.length → (∀ (i : Nat) (d m : Nat), ds[i]? = some d → ms[i]? = some m → d < m) → Q (.ref t) H'
theorem ok_digits {f : Addr} {fd : FuncData} (F : Fun K "_law_digits" "_law_digits" sDigits f fd) (T : Txt mg) : FnOk P w K mg base CX0 1 f fd ["_law_cell_here", "_law_sizes"] spDigits := by
  refine F.ok scDigits (fun vs H Q E h => ?_) (fun cdv A outer s H vs Q E hr h => ?_)
  · obtain ⟨z, l, ms, rfl, _⟩ := h
    rfl
  · obtain ⟨z, l, ms, rfl, hl, hms, hlen, q⟩ := h
    refine ⟨_, pss_cons (ps_set (i := 2) scDigits.nd rfl (.inl rfl) (pe_lst pa_nil))
      (pss_cons (ps_for PassesOwn.never rfl (pi_list (pv 1)) (pg_name (i := 3) scDigits.nd rfl (Or.inl rfl))
        (pss_cons (ps_expr (pe_bm PySem.F.plainAttrs_list PySem.F.slot_list_append PySem.F.type_list_append mt_append (pv 2) (pa_cons (pe_op op_mod (pe_callTy call_int1 (by rfl) T.int PyProof.Rows.boot_int (pa_cons (pv 0) pa_nil)) (pv 3)) pa_nil)))
        (pss_one (ps_set (i := 0) scDigits.nd rfl (.inl rfl) (pe_op op_fdiv (pv 0) (pv 3))))))
      (pss_one (ps_ret (pv 2)))), ?_⟩
    refine ⟨Nat.zero_le _, fun o ho => ?_⟩
    have nlo : l ≠ o := ne_of_none hl ho
    refine ⟨_, rfl, l, rfl, ⟨_, SqL.of (by rw [upd_ne nlo]; exact hl)⟩, for_list (K := K) (a := l) (xs := rv ms)
      (fun i σ H' => ∃ (y : Int) (ds : List Nat) (v3 : Option V), σ = [some (.int y), some (.ref l), some (.ref o), v3] ∧ Same H H' ∧ H' o = some (.lst (rv ds)) ∧ ds.length = i ∧ ∀ (j d m : Nat), ds[j]? = some d → ms[j]? = some m → d < m)
      ⟨z, [], none, rfl, sameU ho, upd_same, rfl, fun j d m e => by simp at e⟩ (fun i σ H' _ ⟨_, _, _, _, s1, _⟩ => SqL.of (s1 _ _ hl)) ?_ ?_⟩
    · rintro i v σ H1 hv ⟨y, ds, v3, rfl, s1, ho1, hdl, hds⟩
      obtain ⟨m, em, rfl⟩ := rv_inv hv
      have hm := hms m (List.mem_iff_getElem?.mpr ⟨i, em⟩)
      have hi : i < ms.length := (List.getElem?_eq_some_iff.mp em).1
      obtain ⟨d, ed, hd⟩ : ∃ d : Nat, y % (m : Int) = (d : Int) ∧ d < m := by
        have h1 := Int.emod_nonneg y (show (m : Int) ≠ 0 by omega)
        have h2 := Int.emod_lt_of_pos y (show (0 : Int) < (m : Int) by omega)
        exact ⟨(y % (m : Int)).toNat, by omega, by omega⟩
      refine ⟨_, rfl, .inl ⟨rfl, _, SqL.of ho1⟩, _, rfl, .inl ⟨_, rfl, _, rfl, _, _, rfl, rfl, (by show (0 : Int) < (m : Int); omega), o, _, _, rfl, rfl, ho1, small1000 (by rw [rv_len]; omega), ?_⟩⟩
      refine ⟨_, rfl, _, rfl, _, _, rfl, rfl, ⟨(by show (0 : Int) < (m : Int); omega), (by show (m : Int) < 1073741824; omega)⟩, ?_⟩
      refine ⟨_, ds ++ [d], _, rfl, sameU2 s1 ho, ?_, ?_, fun j d' m' e1 e2 => ?_⟩
      · rw [upd_same, rv_app]
        show some (HO.lst (rv ds ++ [V.int (y % (m : Int))])) = _
        rw [ed]
        rfl
      · rw [List.length_append, hdl]
        rfl
      · rw [List.getElem?_append] at e1
        by_cases c : j < ds.length
        · rw [if_pos c] at e1
          exact hds j d' m' e1 e2
        · rw [if_neg c] at e1
          cases hz : j - ds.length with
          | zero =>
            rw [hz] at e1
            have e3 : d = d' := Option.some.inj e1
            have : j = i := by omega
            rw [this, em] at e2
            have := Option.some.inj e2
            omega
          | succ x =>
            rw [hz] at e1
            simp at e1
    · rintro σ H1 ⟨y, ds, v3, rfl, s1, ho1, hdl, hds⟩
      rw [rv_len] at hdl
      exact ⟨_, rfl, q H1 o ds s1 ho1 hdl hds⟩
/-! ### is it an int -/
theorem scIsInt : FnScope ["_law_actual"] ["_law_actual"] (defScope sIsInt) := ⟨rfl, rfl, rfl, by decide +kernel, rfl, by decide +kernel, by decide +kernel⟩
def spIsInt : Sp := fun vs H Q _ => ∃ (z : Int), vs = [.int z] ∧ Q (.bl true) H
theorem ok_isInt {f : Addr} {fd : FuncData} (F : Fun K "_law_is_integer" "_law_is_integer" sIsInt f fd) (T : Txt mg) : FnOk P w K mg base CX0 1 f fd ["_law_actual"] spIsInt := by
  refine F.ok scIsInt (fun vs H Q E h => ?_) (fun cdv A outer s H vs Q E hr h => ?_)
  · obtain ⟨z, rfl, _⟩ := h
    rfl
  · obtain ⟨z, rfl, q⟩ := h
    refine ⟨_, pss_one (ps_ret (pe_and (pe_callB call_isi (by rfl) T.isi boot_isinstance (pa_cons (pv 0) (pa_cons (pe_bltn (v := .ty "int") (by rfl) T.int PyProof.Rows.boot_int rfl) pa_nil)))
      (pe_one (pe_not (pe_callB call_isi (by rfl) T.isi boot_isinstance (pa_cons (pv 0) (pa_cons (pe_bltn (v := .ty "bool") (by rfl) T.bool PyProof.Rows.boot_bool rfl) pa_nil))))))), ?_⟩
    refine ⟨_, rfl, .int z, .ty "int", .type "int", .type "int", true, rfl, .ty _, .base (.int z), kit_ty (by decide +kernel), true, rfl, ?_⟩
    refine ⟨_, rfl, .int z, .ty "bool", .type "int", .type "bool", false, rfl, .ty _, .base (.int z), kit_ty (by decide +kernel), false, rfl, ?_⟩
    exact q
end
end K8
/-! K9b: the law's rows and moves. -/
namespace K8
open PySem PySem.Spec PyProof.Rows L2
theorem pop_perm {α : Type} : ∀ (l : List α) (j : Nat) (x : α), l[j]? = some x → (x :: l.eraseIdx j).Perm l
  | [], j, x, h => by simp at h
  | a :: l, 0, x, h => by
    have e : a = x := Option.some.inj h
    subst e
    exact List.Perm.refl _
  | a :: l, j + 1, x, h => by
    have ih := pop_perm l j x h
    exact (List.Perm.swap a x _).trans (ih.cons a)
theorem rv_erase (l : List Nat) (j : Nat) : (rv l).eraseIdx j = rv (l.eraseIdx j) := by
  rw [List.eraseIdx_eq_take_drop_succ, List.eraseIdx_eq_take_drop_succ, rv_take, rv_drop, ← rv_app]
section
variable {P : Program} {w : World} {K : PySem.W.Frag} {mg : Str → Option Value} {base : Heap}
/-! ### a drawn row -/
theorem scRow : FnScope ["_law_cell_here", "_law_n", "_law_k", "_law_left", "_law_rest", "_law_row_here"] ["_law_cell_here", "_law_n"] (defScope sRow) := ⟨rfl, rfl, rfl, by decide +kernel, rfl, by decide +kernel, by decide +kernel⟩
def spRow : Sp := fun vs H Q _ => ∃ (z : Int) (n : Nat), vs = [.int z, .int (n : Int)] ∧ n ≤ 40 ∧ ∀ H' t r, Same H H' → H' t = some (.tup (rv r)) → IsRow n r → Q (.ref t) H'
theorem ok_row {f fR : Addr} {fd fdR : FuncData} (F : Fun K "_law_row" "_law_row" sRow f fd) (T : Txt mg)
    (GR : FnOk P w K mg base CX0 1 fR fdR ["_law_cell_here"] spRich) (kR : PySem.W.keepIn K (.ref fR) = true) (bR : Binds K fdR ["_law_cell_here"] []) (gR : mg "_law_rich" = some (.ref fR)) :
    FnOk P w K mg base CX0 2 f fd ["_law_cell_here", "_law_n"] spRow := by
  refine F.ok scRow (fun vs H Q E h => ?_) (fun cdv A outer s H vs Q E hr h => ?_)
  · obtain ⟨z, n, rfl, _⟩ := h
    rfl
  · obtain ⟨z, n, rfl, hn, q⟩ := h
    refine ⟨_, pss_cons (ps_setLc (i := 3) (own := [("_law_k", 2)]) (g := gName 2) (tt := tYes) rfl scRow.nd rfl rfl (sw_true rfl rfl rfl (by decide +kernel)) (pi_range1 (by rfl) T.range (pa_cons (pv 1) pa_nil))
          (blkOk_by (N := ["_law_cell_here", "_law_n", "_law_k", "_law_left", "_law_rest", "_law_row_here"]) (sc := defScope sRow) (by decide +kernel))
          (fun _ _ _ _ _ => pg_name (i := 2) scRow.nd rfl (Or.inl rfl)) (fun _ _ _ _ _ => pts_nil) (fun _ _ _ _ _ => pe_op op_add (pv 2) pe_int))
      (pss_cons (ps_set (i := 4) scRow.nd rfl (.inl rfl) (pe_call GR hr (by rfl) gR kR bR .nil pass0 (pa_cons (pv 0) pa_nil)))
      (pss_cons (ps_set (i := 5) scRow.nd rfl (.inl rfl) (pe_lst pa_nil))
      (pss_cons (ps_for PassesOwn.never rfl (pi_range1 (by rfl) T.range (pa_cons (pv 1) pa_nil)) (pg_name (i := 2) scRow.nd rfl (Or.inl rfl))
        (pss_cons (ps_expr (pe_bm PySem.F.plainAttrs_list PySem.F.slot_list_append PySem.F.type_list_append mt_append (pv 5)
            (pa_cons (pe_bm PySem.F.plainAttrs_list PySem.F.slot_list_pop PySem.F.type_list_pop mt_popAt (pv 3)
              (pa_cons (pe_op op_mod (pe_callTy call_int1 (by rfl) T.int PyProof.Rows.boot_int (pa_cons (pv 4) pa_nil)) (pe_op op_sub (pv 1) (pv 2))) pa_nil)) pa_nil)))
        (pss_one (ps_set (i := 4) scRow.nd rfl (.inl rfl) (pe_op op_fdiv (pv 4) (pe_op op_sub (pv 1) (pv 2)))))))
      (pss_one (ps_ret (pe_callTy call_tuple_of (by rfl) T.tuple PyProof.Rows.boot_tuple (pa_cons (pv 5) pa_nil)))))))
      , ?_⟩
    -- what is left
    refine ⟨_, rfl, n, rfl, by omega, by omega, fun L hL => ?_⟩
    refine lc_range (lo := 0) (n := n) (fun i H' => Same H H' ∧ H' L = some (.lst (rv (List.range' 1 i)))) ⟨sameU hL, upd_same⟩ (fun i H1 hi hP => ?_) (fun H1 hP => ?_)
    · obtain ⟨s1, h1⟩ := hP
      refine ⟨rfl, _, rfl, _, _, rfl, rfl, _, h1, small1000 (by rw [rv_len, List.length_range']; omega), sameU2 s1 hL, ?_⟩
      rw [upd_same, List.range'_concat, rv_app]
      show some (HO.lst (rv (List.range' 1 i) ++ [V.int (0 + (i : Int) + 1)])) = some (HO.lst (rv (List.range' 1 i) ++ [V.int ((1 + 1 * i : Nat) : Int)]))
      rw [show (0 + (i : Int) + 1) = ((1 + 1 * i : Nat) : Int) by omega]
    · obtain ⟨s1, h1⟩ := hP
      -- rest, row
      refine ⟨_, rfl, z, rfl, fun rest => ⟨Nat.zero_le _, fun o ho => ?_⟩⟩
      have nLo : L ≠ o := ne_of_none h1 ho
      have ho0 : H o = none := s1.free ho
      refine ⟨_, rfl, n, rfl, by omega, by omega, for_range (lo := 0) (n := n)
        (fun i σ H' => ∃ (y : Int) (v2 : Option V) (left row : List Nat), σ = [some (.int z), some (.int (n : Int)), v2, some (.ref L), some (.int y), some (.ref o)] ∧ Same H H' ∧ H' L = some (.lst (rv left)) ∧ H' o = some (.lst (rv row)) ∧ left.length + i = n ∧ row.length = i ∧ (row ++ left).Perm (List.range' 1 n))
        ⟨rest, none, List.range' 1 n, [], rfl, sameU2 s1 ho0, by rw [upd_ne nLo]; exact h1, upd_same, by rw [List.length_range']; rfl, rfl, List.Perm.refl _⟩ ?_ ?_⟩
      · rintro i σ H2 hi ⟨y, v2, left, row, rfl, s2, hL2, ho2, e1, e2, perm⟩
        have pos : (0 : Int) < (n : Int) - (0 + (i : Int)) := by omega
        obtain ⟨d, ed, hd⟩ : ∃ d : Nat, y % ((n : Int) - (0 + (i : Int))) = (d : Int) ∧ d < left.length := by
          have h1 := Int.emod_nonneg y (show ((n : Int) - (0 + (i : Int))) ≠ 0 by omega)
          have h2 := Int.emod_lt_of_pos y pos
          exact ⟨(y % ((n : Int) - (0 + (i : Int)))).toNat, by omega, by omega⟩
        have eg : left[d]? = some left[d] := List.getElem?_eq_getElem hd
        -- one is drawn
        refine ⟨_, rfl, .inl ⟨rfl, _, SqL.of ho2⟩, _, rfl, .inl ⟨rfl, _, SqL.of hL2⟩, _, rfl, .inl ⟨_, rfl, _, rfl, _, rfl, _, _, rfl, rfl, _, _, rfl, rfl, pos, ?_⟩⟩
        show rPopAt _ [V.int (y % ((n : Int) - (0 + (i : Int))))] _ _
        rw [ed]
        refine ⟨L, rv left, (d : Int), d, .int (left[d] : Int), rfl, rfl, hL2, by omega, by omega, ?_, rv_get eg, ?_⟩
        · rw [rv_len]
          exact (ixN_seq (n := left.length) (i := (d : Int)) (j := d) (by unfold ixN; rw [if_pos (by omega), if_pos (by omega)]; rfl)).1
        have nLo2 : L ≠ o := nLo
        refine ⟨o, rv row, _, rfl, rfl, by rw [upd_ne nLo.symm]; exact ho2, small1000 (by rw [rv_len]; omega), ?_⟩
        -- the rest
        refine ⟨_, rfl, _, rfl, _, rfl, _, _, rfl, rfl, _, _, rfl, rfl, ⟨pos, (by show (n : Int) - (0 + (i : Int)) < 1073741824; omega)⟩, ?_⟩
        refine ⟨_, _, left.eraseIdx d, row ++ [left[d]], rfl, sameU2 (sameU2 s2 hL) ho0, ?_, ?_, ?_, ?_, ?_⟩
        · rw [upd_ne nLo, upd_same, rv_erase]
        · rw [upd_same, rv_app]
          rfl
        · rw [List.length_eraseIdx_of_lt hd]
          omega
        · rw [List.length_append, e2]
          rfl
        · rw [List.append_assoc]
          refine List.Perm.trans (List.Perm.append_left row ?_) perm
          exact pop_perm left d _ eg
      · rintro σ H2 ⟨y, v2, left, row, rfl, s2, hL2, ho2, e1, e2, perm⟩
        refine ⟨_, rfl, o, rv row, rfl, .inl ⟨SqL.of ho2, fun t ht => ?_⟩⟩
        have el : left = [] := List.eq_nil_of_length_eq_zero (by omega)
        rw [el, List.append_nil] at perm
        exact q _ t row (sameU3 s2 ht) upd_same perm
end
end K8
/-! K9c: the law's moves: drawn, done. -/
namespace K8
open PySem PySem.Spec PyProof.Rows L2
theorem six {α : Type} : ∀ {l : List α}, l.length = 6 → ∃ a b c d e f, l = [a, b, c, d, e, f]
  | [a, b, c, d, e, f], _ => ⟨a, b, c, d, e, f, rfl⟩
theorem four {α : Type} : ∀ {l : List α}, l.length = 4 → ∃ a b c d, l = [a, b, c, d]
  | [a, b, c, d], _ => ⟨a, b, c, d, rfl⟩
theorem kind_next : ¬ V.str ("blocks" : Str) = V.str ("next" : Str) := by decide +kernel
theorem kind_take : ¬ V.str ("blocks" : Str) = V.str ("take" : Str) := by decide +kernel
theorem kind_swap : ¬ V.str ("blocks" : Str) = V.str ("swap" : Str) := by decide +kernel
theorem kind_flip : ¬ V.str ("blocks" : Str) = V.str ("flip" : Str) := by decide +kernel
section
variable {P : Program} {w : World} {K : PySem.W.Frag} {mg : Str → Option Value} {base : Heap}
/-! ### a drawn move -/
theorem scPMove : FnScope ["_law_kind", "_law_cell_here", "_law_n", "_law_d", "_law_i", "_law_j", "_law_a", "_law_b", "_law_c", "_law_e"] ["_law_kind", "_law_cell_here", "_law_n"] (defScope sPMove) := ⟨rfl, rfl, rfl, by decide +kernel, rfl, by decide +kernel, by decide +kernel⟩
def spPMove : Sp := fun vs H Q _ => ∃ (z : Int) (n : Nat), vs = [.str "blocks", .int z, .int (n : Int)] ∧ 2 ≤ n ∧ n ≤ 40 ∧ ∀ H' t i j k l, Same H H' → H' t = some (.tup (mvV (i, j, k, l))) → Mv n i j k l → Q (.ref t) H'
theorem ok_pmove {f fR fD : Addr} {fd fdR fdD : FuncData} (F : Fun K "_law_plain_move" "_law_plain_move" sPMove f fd) (T : Txt mg)
    (GR : FnOk P w K mg base CX0 1 fR fdR ["_law_cell_here"] spRich) (kR : PySem.W.keepIn K (.ref fR) = true) (bR : Binds K fdR ["_law_cell_here"] []) (gR : mg "_law_rich" = some (.ref fR))
    (GD : FnOk P w K mg base CX0 1 fD fdD ["_law_cell_here", "_law_sizes"] spDigits) (kD : PySem.W.keepIn K (.ref fD) = true) (bD : Binds K fdD ["_law_cell_here", "_law_sizes"] []) (gD : mg "_law_digits" = some (.ref fD)) :
    FnOk P w K mg base CX0 2 f fd ["_law_kind", "_law_cell_here", "_law_n"] spPMove := by
  refine F.ok scPMove (fun vs H Q E h => ?_) (fun cdv A outer s H vs Q E hr h => ?_)
  · obtain ⟨z, n, rfl, _⟩ := h
    rfl
  · obtain ⟨z, n, rfl, hn2, hn, q⟩ := h
    refine ⟨_, pss_cons (ps_set (i := 3) scPMove.nd rfl (.inl rfl) (pe_call GD hr (by rfl) gD kD bD .nil pass0 (pa_cons (pe_call GR hr (by rfl) gR kR bR .nil pass0 (pa_cons (pv 1) pa_nil))
          (pa_cons (pe_lst (pa_cons (pv 2) (pa_cons (pe_op op_sub (pv 2) pe_int) (pa_cons (pe_op op_add (pv 2) pe_int) (pa_cons (pe_op op_add (pv 2) pe_int) (pa_cons (pe_op op_add (pv 2) pe_int) (pa_cons (pe_op op_add (pv 2) pe_int) pa_nil))))))) pa_nil))))
      (pss_cons (ps_set (i := 4) scPMove.nd rfl (.inl rfl) (pe_ix ix_list (pv 3) pe_int (fun _ _ => rfl)))
      (pss_cons (ps_set (i := 5) scPMove.nd rfl (.inl rfl) (pe_op op_add (pe_ix ix_list (pv 3) pe_int (fun _ _ => rfl)) (pe_callTy call_int1 (by rfl) T.int PyProof.Rows.boot_int (pa_cons (pe_cmpR op_ge (pe_ix ix_list (pv 3) pe_int (fun _ _ => rfl)) (pe_ix ix_list (pv 3) pe_int (fun _ _ => rfl)) (nomark _)) pa_nil))))
      (pss_cons (ps_if (pt_cmpR op_eq (pv 0) pe_str (nomark _)) (pss_one ps_never) pss_nil)
      (pss_cons (ps_if (pt_cmpR op_eq (pv 0) pe_str (nomark _)) (pss_one ps_never) pss_nil)
      (pss_cons (ps_if (pt_cmpR op_eq (pv 0) pe_str (nomark _))
        (pss_cons (ps_asg (pe_callB cr_sorted (by rfl) T.sorted boot_sorted (pa_cons (pe_lst (pa_cons (pe_ix ix_list (pv 3) pe_int (fun _ _ => rfl)) (pa_cons (pe_ix ix_list (pv 3) pe_int (fun _ _ => rfl)) (pa_cons (pe_ix ix_list (pv 3) pe_int (fun _ _ => rfl)) (pa_cons (pe_ix ix_list (pv 3) pe_int (fun _ _ => rfl)) pa_nil))))) pa_nil))
            (pg_unl rfl (pgs_cons (pg_name (i := 6) scPMove.nd rfl (.inl rfl)) (pgs_cons (pg_name (i := 7) scPMove.nd rfl (.inl rfl)) (pgs_cons (pg_name (i := 8) scPMove.nd rfl (.inl rfl)) (pgs_cons (pg_name (i := 9) scPMove.nd rfl (.inl rfl)) pgs_nil))))))
        (pss_cons (ps_if (pt_cmpR op_eq (pv 6) (pv 7) (nomark _)) (pss_one (ps_ret (pe_tup (pa_cons pe_str (pa_cons pe_int (pa_cons pe_int (pa_cons pe_int (pa_cons (pv 2) pa_nil)))))))) pss_nil)
        (pss_cons (ps_if (pt_cmpR op_eq (pv 8) (pv 9) (nomark _)) (pss_one (ps_ret (pe_tup (pa_cons pe_str (pa_cons pe_int (pa_cons pe_int (pa_cons (pe_op op_sub (pv 2) pe_int) (pa_cons (pv 2) pa_nil)))))))) pss_nil)
        (pss_one (ps_ret (pe_tup (pa_cons pe_str (pa_cons (pv 6) (pa_cons (pv 7) (pa_cons (pv 8) (pa_cons (pv 9) pa_nil))))))))))) pss_nil)
      (pss_one ps_never)))))), ?_⟩
    -- the digits
    refine ⟨_, rfl, z, rfl, fun y => ⟨_, rfl, _, rfl, _, _, rfl, rfl, _, rfl, _, _, rfl, rfl, _, rfl, _, _, rfl, rfl, _, rfl, _, _, rfl, rfl, _, rfl, _, _, rfl, rfl, by show 6 ≤ sizeLine; decide, fun l hl => ?_⟩⟩
    refine ⟨y, l, [n, n - 1, n + 1, n + 1, n + 1, n + 1], rfl, ?_, fun m hm => ?_, by show 6 ≤ 10; decide, fun H1 t ds s1 ht hdl hds => ?_⟩
    · rw [upd_same]
      show some (HO.lst [V.int (n : Int), V.int ((n : Int) - 1), V.int ((n : Int) + 1), V.int ((n : Int) + 1), V.int ((n : Int) + 1), V.int ((n : Int) + 1)]) = some (HO.lst [V.int (n : Int), V.int ((n - 1 : Nat) : Int), V.int ((n : Int) + 1), V.int ((n : Int) + 1), V.int ((n : Int) + 1), V.int ((n : Int) + 1)])
      rw [show ((n : Int) - 1) = ((n - 1 : Nat) : Int) by omega]
    · have hm : m ∈ [n, n - 1, n + 1, n + 1, n + 1, n + 1] := hm
      simp only [List.mem_cons, List.not_mem_nil, or_false] at hm
      omega
    have s1 : Same H H1 := (sameU hl).trans s1
    obtain ⟨d0, d1, d2, d3, d4, d5, rfl⟩ := six hdl
    have b2 : d2 < n + 1 := hds 2 d2 (n + 1) rfl rfl
    have b3 : d3 < n + 1 := hds 3 d3 (n + 1) rfl rfl
    have b4 : d4 < n + 1 := hds 4 d4 (n + 1) rfl rfl
    have b5 : d5 < n + 1 := hds 5 d5 (n + 1) rfl rfl
    have hT : SqL K H1 t (rv [d0, d1, d2, d3, d4, d5]) := SqL.of ht
    refine ⟨_, rfl, t, _, 0, _, rfl, rfl, hT, atI_nat (j := 0) (rv_get (x := d0) rfl), ?_⟩
    refine ⟨_, rfl, t, _, 1, _, rfl, rfl, hT, atI_nat (j := 1) (rv_get (x := d1) rfl), _, rfl, t, _, 1, _, rfl, rfl, hT, atI_nat (j := 1) (rv_get (x := d1) rfl), _, rfl, t, _, 0, _, rfl, rfl, hT, atI_nat (j := 0) (rv_get (x := d0) rfl), _, _, rfl, rfl, .inr ⟨_, rfl, _, _, rfl, rfl, ?_⟩⟩
    refine ⟨_, rfl, rfl, _, rfl, ?_⟩
    rw [decide_eq_false kind_next]
    refine iteF ⟨_, rfl, rfl, _, rfl, ?_⟩
    rw [decide_eq_false kind_take]
    refine iteF ⟨_, rfl, rfl, _, rfl, ?_⟩
    rw [decide_eq_true rfl]
    refine iteT ?_
    -- sorted
    refine ⟨_, rfl, t, _, 2, _, rfl, rfl, hT, atI_nat (j := 2) (rv_get (x := d2) rfl), _, rfl, t, _, 3, _, rfl, rfl, hT, atI_nat (j := 3) (rv_get (x := d3) rfl), _, rfl, t, _, 4, _, rfl, rfl, hT, atI_nat (j := 4) (rv_get (x := d4) rfl),
      _, rfl, t, _, 5, _, rfl, rfl, hT, atI_nat (j := 5) (rv_get (x := d5) rfl), by show 4 ≤ sizeLine; decide, fun u hu => ?_⟩
    refine ⟨u, ir [d2, d3, d4, d5], rfl, SqL.of upd_same, by show 4 < 64; decide, fun ys v perm up hv => ?_⟩
    have s3 : Same H (upd (upd H1 u (.lst (rv [d2, d3, d4, d5]))) v (.lst (ys.map V.int))) := sameU3 (sameU3 s1 hu) hv
    have hlen : ys.length = 4 := perm.length_eq
    obtain ⟨a, b, c, e, rfl⟩ := four hlen
    have mem : ∀ x, x ∈ [a, b, c, e] → ∃ m : Nat, x = (m : Int) ∧ m ≤ n := fun x hx => by
      obtain ⟨m, hm, rfl⟩ := ir_mem.mp (perm.mem_iff.mp hx)
      refine ⟨m, rfl, ?_⟩
      simp only [List.mem_cons, List.not_mem_nil, or_false] at hm
      omega
    obtain ⟨a, rfl, ha⟩ := mem a (by simp)
    obtain ⟨b, rfl, hb⟩ := mem b (by simp)
    obtain ⟨c, rfl, hc⟩ := mem c (by simp)
    obtain ⟨e, rfl, he⟩ := mem e (by simp)
    simp only [List.pairwise_cons, List.mem_cons, List.not_mem_nil, or_false, forall_eq_or_imp, forall_eq] at up
    obtain ⟨⟨u1, u2, u3⟩, ⟨u4, u5⟩, u6, _⟩ := up
    refine ⟨v, _, rfl, SqL.of upd_same, rfl, _, _, rfl, _, _, rfl, _, _, rfl, _, _, rfl, rfl, ?_⟩
    -- are the first two alike
    refine ⟨_, rfl, _, rfl, rfl, _, rfl, ?_⟩
    by_cases c1 : a = b
    · rw [decide_eq_true (show V.int (a : Int) = V.int (b : Int) by rw [c1])]
      refine iteT ⟨_, rfl, by show 5 ≤ sizeLine; decide, fun m hm => ?_⟩
      exact q _ m 0 1 1 n (sameU3 s3 hm) upd_same ⟨by omega, by omega, by omega, by omega⟩
    · rw [decide_eq_false (show ¬ V.int (a : Int) = V.int (b : Int) from fun z => c1 (Int.ofNat.inj (V.int.inj z)))]
      refine iteF ⟨_, rfl, _, rfl, rfl, _, rfl, ?_⟩
      by_cases c2 : c = e
      · rw [decide_eq_true (show V.int (c : Int) = V.int (e : Int) by rw [c2])]
        refine iteT ⟨_, rfl, _, _, rfl, rfl, _, rfl, by show 5 ≤ sizeLine; decide, fun m hm => ?_⟩
        refine q _ m 0 1 (n - 1) n (sameU3 s3 hm) ?_ ⟨by omega, by omega, by omega, by omega⟩
        rw [upd_same]
        show some (HO.tup [V.str "blocks", V.int 0, V.int 1, V.int ((n : Int) - 1), V.int (n : Int)]) = some (HO.tup [V.str "blocks", V.int 0, V.int 1, V.int ((n - 1 : Nat) : Int), V.int (n : Int)])
        rw [show ((n : Int) - 1) = ((n - 1 : Nat) : Int) by omega]
      · rw [decide_eq_false (show ¬ V.int (c : Int) = V.int (e : Int) from fun z => c2 (Int.ofNat.inj (V.int.inj z)))]
        refine iteF ⟨_, rfl, _, rfl, _, rfl, _, rfl, by show 5 ≤ sizeLine; decide, fun m hm => ?_⟩
        exact q _ m a b c e (sameU3 s3 hm) upd_same ⟨by omega, by omega, by omega, by omega⟩
/-! ### a move done -/
theorem scMoved : FnScope ["_law_row_here", "_law_move", "_law_cells", "_law_k", "_law_i", "_law_j", "_law_m"] ["_law_row_here", "_law_move"] (defScope sMoved) := ⟨rfl, rfl, rfl, by decide +kernel, rfl, by decide +kernel, by decide +kernel⟩
def spMoved (K : PySem.W.Frag) : Sp := fun vs H Q _ => ∃ (p t : Addr) (n : Nat) (r : List Nat) (i j k l : Nat), vs = [.ref p, .ref t] ∧ SqT K H p (rv r) ∧ H t = some (.tup (mvV (i, j, k, l))) ∧ IsRow n r ∧ n ≤ 40 ∧ Mv n i j k l ∧
  ∀ H' u, Same H H' → H' u = some (.tup (rv (exch r i j k l))) → Q (.ref u) H'
theorem ok_moved {f : Addr} {fd : FuncData} (F : Fun K "_law_moved" "_law_moved" sMoved f fd) (T : Txt mg) : FnOk P w K mg base CX0 1 f fd ["_law_row_here", "_law_move"] (spMoved K) := by
  refine F.ok scMoved (fun vs H Q E h => ?_) (fun cdv A outer s H vs Q E hr h => ?_)
  · obtain ⟨p, t, n, r, i, j, k, l, rfl, _⟩ := h
    rfl
  · obtain ⟨p, t, n, r, i, j, k, l, rfl, hp, ht, hrow, hn, m, q⟩ := h
    have hl := hrow.len
    obtain ⟨m1, m2, m3, m4⟩ := m
    have never : ∀ {c : Expr} {b : List Stmt} {pos : Pos} {X : Cx} {tc : TT}, PT X c tc → PS X (.If c b [] pos) (tIfS tc tNever tNext) := fun h => ps_if h pss_never pss_nil
    refine ⟨_, pss_cons (ps_set (i := 2) scMoved.nd rfl (.inl rfl) (pe_callTy call_list_of (by rfl) T.list PyProof.Rows.boot_list (pa_cons (pv 0) pa_nil)))
      (pss_cons (never (pt_cmpR op_eq (pe_ix ix_tup (pv 1) pe_int (fun _ _ => rfl)) pe_str (nomark _)))
      (pss_cons (never (pt_cmpR op_eq (pe_ix ix_tup (pv 1) pe_int (fun _ _ => rfl)) pe_str (nomark _)))
      (pss_cons (never (pt_cmpR op_eq (pe_ix ix_tup (pv 1) pe_int (fun _ _ => rfl)) pe_str (nomark _)))
      (pss_cons (never (pt_cmpR op_eq (pe_ix ix_tup (pv 1) pe_int (fun _ _ => rfl)) pe_str (nomark _)))
      (pss_cons (ps_if (pt_cmpR op_eq (pe_ix ix_tup (pv 1) pe_int (fun _ _ => rfl)) pe_str (nomark _))
        (pss_cons (ps_asg (pe_slice sl_tup (pv 1) (po_some pe_int) po_none)
            (pg_tup rfl (pgs_cons (pg_name (i := 4) scMoved.nd rfl (.inl rfl)) (pgs_cons (pg_name (i := 5) scMoved.nd rfl (.inl rfl)) (pgs_cons (pg_name (i := 3) scMoved.nd rfl (.inl rfl)) (pgs_cons (pg_name (i := 6) scMoved.nd rfl (.inl rfl)) pgs_nil))))))
        (pss_one (ps_set (i := 2) scMoved.nd rfl (.inl rfl) (pe_callTy call_list_of (by rfl) T.list PyProof.Rows.boot_list (pa_cons
          (pe_op op_catF (pe_op op_catF (pe_op op_catF (pe_op op_catF (pe_slice sl_tup (pv 0) po_none (po_some (pv 4))) (pe_slice sl_tup (pv 0) (po_some (pv 3)) (po_some (pv 6))))
            (pe_slice sl_tup (pv 0) (po_some (pv 5)) (po_some (pv 3)))) (pe_slice sl_tup (pv 0) (po_some (pv 4)) (po_some (pv 5)))) (pe_slice sl_tup (pv 0) (po_some (pv 6)) po_none)) pa_nil))))) pss_nil)
      (pss_one (ps_ret (pe_callTy call_tuple_of (by rfl) T.tuple PyProof.Rows.boot_tuple (pa_cons (pv 2) pa_nil))))))))), ?_⟩
    -- a copy
    refine ⟨_, rfl, p, rv r, rfl, .inr hp, fun c hc => ?_⟩
    have s1 : Same H (upd H c (.lst (rv r))) := sameU hc
    generalize upd H c (.lst (rv r)) = H1 at s1
    have ht1 : H1 t = some (.tup (mvV (i, j, k, l))) := s1 _ _ ht
    have hw : atI (mvV (i, j, k, l)) (0 : Int) = some (V.str "blocks") := rfl
    refine ⟨_, rfl, t, _, 0, _, rfl, rfl, SqT.of ht1, hw, rfl, _, rfl, ?_⟩
    rw [decide_eq_false kind_swap]
    refine iteF ⟨_, rfl, t, _, 0, _, rfl, rfl, SqT.of ht1, hw, rfl, _, rfl, ?_⟩
    rw [decide_eq_false kind_next]
    refine iteF ⟨_, rfl, t, _, 0, _, rfl, rfl, SqT.of ht1, hw, rfl, _, rfl, ?_⟩
    rw [decide_eq_false kind_take]
    refine iteF ⟨_, rfl, t, _, 0, _, rfl, rfl, SqT.of ht1, hw, rfl, _, rfl, ?_⟩
    rw [decide_eq_false kind_flip]
    refine iteF ⟨_, rfl, t, _, 0, _, rfl, rfl, SqT.of ht1, hw, rfl, _, rfl, ?_⟩
    rw [decide_eq_true rfl]
    refine iteT ?_
    -- the four places
    refine ⟨_, rfl, 1, rfl, ?_⟩
    unfold tNoPart
    refine ⟨t, _, rfl, SqT.of ht1, fun z => ?_, fun u hu => ?_⟩
    · have : (1 : Nat) = 0 := z.1
      omega
    refine ⟨u, [.int (i : Int), .int (j : Int), .int (k : Int), .int (l : Int)], rfl, SqT.of upd_same, rfl, _, _, rfl, _, _, rfl, _, _, rfl, _, _, rfl, rfl, ?_⟩
    have s2 : Same H (upd H1 u (.tup (cutV (mvV (i, j, k, l)) (some 1) none))) := sameU3 s1 hu
    generalize upd H1 u (.tup (cutV (mvV (i, j, k, l)) (some 1) none)) = H2 at s2
    have lA : (rv (r.take i)).length = i := by rw [rv_len, List.length_take]; omega
    have lD : (rv ((r.drop k).take (l - k))).length = l - k := by rw [rv_len, List.length_take, List.length_drop]; omega
    have lC : (rv ((r.drop j).take (k - j))).length = k - j := by rw [rv_len, List.length_take, List.length_drop]; omega
    have lB : (rv ((r.drop i).take (j - i))).length = j - i := by rw [rv_len, List.length_take, List.length_drop]; omega
    have lE : (rv (r.drop l)).length = n - l := by rw [rv_len, List.length_drop]; omega
    refine ⟨_, rfl, _, rfl, _, rfl, slice_b (tupK s2 hp) (by omega) fun H3 a s3 hA => ?_⟩
    have t3 := s2.trans s3
    refine ⟨_, rfl, _, rfl, _, rfl, _, rfl, _, rfl, slice_ab (tupK t3 hp) (by omega) (by omega) (.inl (by omega)) fun H4 d s4 hD => ?_⟩
    have t4 := t3.trans s4
    refine catF_any (tupK s4 hA) hD (by omega) fun H5 x1 s5 h1 => ?_
    have t5 := t4.trans s5
    refine ⟨_, rfl, _, rfl, _, rfl, _, rfl, _, rfl, slice_ab (tupK t5 hp) (by omega) (by omega) (.inl (by omega)) fun H6 c6 s6 hC => ?_⟩
    have t6 := t5.trans s6
    refine catF_any (tupK s6 h1) hC (by rw [List.length_append]; omega) fun H7 x2 s7 h2 => ?_
    have t7 := t6.trans s7
    refine ⟨_, rfl, _, rfl, _, rfl, _, rfl, _, rfl, slice_ab (tupK t7 hp) (by omega) (by omega) (.inr (by omega)) fun H8 b s8 hB => ?_⟩
    have t8 := t7.trans s8
    refine catF_any (tupK s8 h2) hB (by rw [List.length_append, List.length_append]; omega) fun H9 x3 s9 h3 => ?_
    have t9 := t8.trans s9
    refine ⟨_, rfl, _, rfl, _, rfl, ?_⟩
    dsimp only
    refine slice_a (tupK t9 hp) (by omega) (by omega) fun H10 e s10 hE => ?_
    have t10 := t9.trans s10
    refine catF_any (tupK s10 h3) hE (by rw [List.length_append, List.length_append, List.length_append]; omega) fun H11 x4 s11 h4 => ?_
    have t11 := t10.trans s11
    have ee : rv (exch r i j k l) = rv (r.take i) ++ rv ((r.drop k).take (l - k)) ++ rv ((r.drop j).take (k - j)) ++ rv ((r.drop i).take (j - i)) ++ rv (r.drop l) := by
      unfold exch
      rw [rv_app, rv_app, rv_app, rv_app]
      simp only [List.append_assoc]
    rw [← ee] at h4
    refine ⟨x4, _, rfl, .inr h4, fun o ho => ?_⟩
    refine ⟨_, rfl, o, _, rfl, .inl ⟨SqL.of upd_same, fun g hg => ?_⟩⟩
    exact q _ g (sameU3 (sameU3 t11 ho) hg) upd_same
end
end K8
/-! K9d: the law's look at a script of moves. -/
namespace K8
open PySem PySem.Spec PyProof.Rows L2
theorem exchs_take {α : Type} (r : List α) (ms : List Quad) (x : Nat) (i j k l : Nat) (h : ms[x]? = some (i, j, k, l)) : exchs r (ms.take (x + 1)) = exch (exchs r (ms.take x)) i j k l := by
  rw [List.take_add_one, h]
  exact exchs_snoc (ms.take x) r i j k l
theorem Mvs.take {n : Nat} {ms : List Quad} (h : Mvs n ms) (x : Nat) : Mvs n (ms.take x) := fun i j k l hm => h i j k l (List.mem_of_mem_take hm)
def rLenS (K : PySem.W.Frag) : List V → Hp → VK → Prop := fun xs H Q => ∃ p ys, xs = [.ref p] ∧ (SqL K H p ys ∨ SqT K H p ys) ∧ Q (.int ys.length) H
section
variable {P : Program} {w : World} {K : PySem.W.Frag} {mg : Str → Option Value} {base : Heap}
theorem scLeadsTo : FnScope ["_law_first", "_law_second", "_law_moves", "_law_row_here", "_law_move", "_law_place"] ["_law_first", "_law_second", "_law_moves"] (defScope sLeadsTo) := ⟨rfl, rfl, rfl, by decide +kernel, rfl, by decide +kernel, by decide +kernel⟩
def spLeadsTo (K : PySem.W.Frag) : Sp := fun vs H Q _ => ∃ (p o t : Addr) (n : Nat) (a b : List Nat) (ts : List Addr) (ms : List Quad), vs = [.ref p, .ref o, .ref t] ∧ SqT K H p (rv a) ∧ SqT K H o (rv b) ∧ IsRow n a ∧ n ≤ 40 ∧
  H t = some (.tup (ts.map V.ref)) ∧ Held H ts ms ∧ Mvs n ms ∧ exchs a ms = b ∧ ∀ H', Same H H' → Q (.bl true) H'
theorem ok_leadsTo {f fI fM : Addr} {fd fdI fdM : FuncData} (F : Fun K "_law_leads" "_law_leads" sLeadsTo f fd) (T : Txt mg)
    (GI : FnOk P w K mg base CX0 1 fI fdI ["_law_actual"] spIsInt) (kI : PySem.W.keepIn K (.ref fI) = true) (bI : Binds K fdI ["_law_actual"] []) (gI : mg "_law_is_integer" = some (.ref fI))
    (GM : FnOk P w K mg base CX0 1 fM fdM ["_law_row_here", "_law_move"] (spMoved K)) (kM : PySem.W.keepIn K (.ref fM) = true) (bM : Binds K fdM ["_law_row_here", "_law_move"] []) (gM : mg "_law_moved" = some (.ref fM)) :
    FnOk P w K mg base CX0 2 f fd ["_law_first", "_law_second", "_law_moves"] (spLeadsTo K) := by
  refine F.ok scLeadsTo (fun vs H Q E h => ?_) (fun cdv A outer s H vs Q E hr h => ?_)
  · obtain ⟨p, o, t, n, a, b, ts, ms, rfl, _⟩ := h
    rfl
  · obtain ⟨p, o, t, n, a, b, ts, ms, rfl, hp, ho, ha, hn, ht, held, mok, eex, q⟩ := h
    refine ⟨_, pss_cons (ps_set (i := 3) scLeadsTo.nd rfl (.inr rfl) (pv 0))
      (pss_cons (ps_for PassesOwn.never rfl (pi_tup (pv 2)) (pg_name (i := 4) scLeadsTo.nd rfl (Or.inl rfl))
        (pss_cons (ps_if (PW.pt (pw_or (pt_not (pt_val (pe_callB call_isi (by rfl) T.isi boot_isinstance (pa_cons (pv 4) (pa_cons (pe_bltn (v := .ty "tuple") (by rfl) T.tuple PyProof.Rows.boot_tuple rfl) pa_nil)))))
            (pw_or (pt_cmpR op_lt (pe_callB call_len_seq (by rfl) T.len PySem.boot_len (pa_cons (pv 4) pa_nil)) pe_int (nomark _))
            (pw_or1 (pt_cmpR op_ne (pe_ix ix_tup (pv 4) pe_int (fun _ _ => rfl)) pe_str (nomark _)))))) pss_never pss_nil)
        (pss_cons (ps_if (pt_cmpR (op_neD hr.units) (pe_lc (own := [("_law_place", 5)]) (g := gName 5) rfl scLeadsTo.nd (pi_tup (pe_slice sl_tup (pv 4) (po_some pe_int) po_none))
            (blkOk_by (N := ["_law_first", "_law_second", "_law_moves", "_law_row_here", "_law_move", "_law_place"]) (sc := defScope sLeadsTo) (by decide +kernel))
            (fun _ _ _ _ _ => pg_name (i := 5) scLeadsTo.nd rfl (Or.inl rfl))
            (fun _ _ _ _ _ => pts_one (PW.pt (pw_or (pt_not (pt_val (pe_call GI hr (by rfl) gI kI bI .nil pass0 (pa_cons (pv 5) pa_nil))))
              (pw_or (pt_cmpR op_lt (pv 5) pe_int (nomark _))
              (pw_or1 (pt_cmpR op_gt (pv 5) (pe_callB (r := rLenS K) call_len_seq (by rfl) T.len PySem.boot_len (pa_cons (pv 3) pa_nil)) (nomark _)))))))
            (fun _ _ _ _ _ => pv 5)) (pe_lst pa_nil) (nomark _)) pss_never pss_nil)
        (pss_cons (ps_if (pt_not (PW.pt (pw_and (pt_cmpR op_lt (pe_ix ix_tup (pv 4) pe_int (fun _ _ => rfl)) (pe_ix ix_tup (pv 4) pe_int (fun _ _ => rfl)) (nomark _))
            (pw_and (pt_cmpR op_le (pe_ix ix_tup (pv 4) pe_int (fun _ _ => rfl)) (pe_ix ix_tup (pv 4) pe_int (fun _ _ => rfl)) (nomark _))
            (pw_and1 (pt_cmpR op_lt (pe_ix ix_tup (pv 4) pe_int (fun _ _ => rfl)) (pe_ix ix_tup (pv 4) pe_int (fun _ _ => rfl)) (nomark _))))))) pss_never pss_nil)
        (pss_one (ps_set (i := 3) scLeadsTo.nd rfl (.inr rfl) (pe_call GM hr (by rfl) gM kM bM .nil pass0 (pa_cons (pv 3) (pa_cons (pv 4) pa_nil)))))))))
      (pss_one (ps_ret (pe_cmpR (op_eqD hr.units) (pv 3) (pv 1) (nomark _))))), ?_⟩
    refine ⟨_, rfl, _, rfl, t, rfl, ⟨_, SqT.of ht⟩, for_tup (K := K) (a := t) (xs := ts.map V.ref)
      (fun x σ H' => ∃ (rp : Addr) (v4 v5 : Option V), σ = [some (.ref p), some (.ref o), some (.ref t), some (.ref rp), v4, v5] ∧ Same H H' ∧ SqT K H' rp (rv (exchs a (ms.take x))))
      ⟨p, none, none, rfl, Same.refl H, hp⟩ (fun x σ H' _ ⟨_, _, _, _, s1, _⟩ => SqT.of (s1 _ _ ht)) ?_ ?_⟩
    · rintro x v σ H1 hv ⟨rp, v4, v5, rfl, s1, hrp⟩
      -- the move
      have hx : x < ms.length := by
        have := (List.getElem?_eq_some_iff.mp hv).1
        rw [List.length_map, held.len] at this
        exact this
      obtain ⟨i, j, k, l⟩ : Quad := ms[x]
      obtain ⟨⟨i, j, k, l⟩, eq⟩ : ∃ qd : Quad, ms[x]? = some qd := ⟨ms[x], List.getElem?_eq_getElem hx⟩
      obtain ⟨ad, h1, h2⟩ := held.at_ x _ eq
      have ev : v = V.ref ad := by
        rw [List.getElem?_map, h1] at hv
        exact (Option.some.inj hv).symm
      subst ev
      have hmv : Mv n i j k l := mok i j k l (List.mem_iff_getElem?.mpr ⟨x, eq⟩)
      obtain ⟨m1, m2, m3, m4⟩ := id hmv
      have hA : H1 ad = some (.tup (mvV (i, j, k, l))) := s1 _ _ h2
      have hT : SqT K H1 ad (mvV (i, j, k, l)) := SqT.of hA
      have hrow : IsRow n (exchs a (ms.take x)) := ha.exchs (mok.take x)
      -- a tuple, long enough, of the kind
      refine ⟨_, rfl, V.ref ad, .ty "tuple", .type "tuple", .type "tuple", true, rfl, .ty _, .base (.tup hA), kit_ty (by decide +kernel), true, rfl, iteF ?_⟩
      refine ⟨_, rfl, ad, _, rfl, .inr hT, _, _, rfl, rfl, _, rfl, ?_⟩
      rw [decide_eq_false (show ¬ (((mvV (i, j, k, l)).length : Nat) : Int) < 2 from by show ¬ (5 : Int) < 2; decide)]
      refine iteF ⟨_, rfl, ad, _, 0, V.str "blocks", rfl, rfl, hT, rfl, rfl, _, rfl, ?_⟩
      rw [decide_eq_true rfl]
      refine iteF ?_
      -- the places lie in the row
      refine ⟨_, rfl, 1, rfl, ?_⟩
      unfold tNoPart
      refine ⟨ad, _, rfl, hT, fun z => ?_, fun u hu => ⟨u, rfl, ⟨_, SqT.of upd_same⟩, fun D hD => ?_⟩⟩
      · have : (1 : Nat) = 0 := z.1
        omega
      have s2 : Same H1 (upd H1 u (.tup (cutV (mvV (i, j, k, l)) (some 1) none))) := sameU hu
      have huD : u ≠ D := fun z => by
        rw [← z, upd_same] at hD
        cases hD
      have hD1 : H1 D = none := s2.free hD
      refine lc_tup (K := K) (a := u) (xs := cutV (mvV (i, j, k, l)) (some 1) none) (fun y H' => Same H1 H' ∧ H' u = some (.tup (cutV (mvV (i, j, k, l)) (some 1) none)) ∧ H' D = some (.lst []))
        ⟨sameU2 s2 hD1, by rw [upd_ne huD, upd_same], upd_same⟩ (fun y H' _ hP => SqT.of hP.2.1) (fun y v H2 hy hP => ?_) (fun H2 hP => ?_)
      · obtain ⟨s3, hu3, hD3⟩ := hP
        obtain ⟨m, rfl, hm⟩ : ∃ m : Nat, v = .int (m : Int) ∧ m ≤ n := by
          have hy : [V.int (i : Int), V.int (j : Int), V.int (k : Int), V.int (l : Int)][y]? = some v := hy
          have := List.mem_iff_getElem?.mpr ⟨y, hy⟩
          simp only [List.mem_cons, List.not_mem_nil, or_false] at this
          rcases this with e | e | e | e
          · exact ⟨i, e, by omega⟩
          · exact ⟨j, e, by omega⟩
          · exact ⟨k, e, by omega⟩
          · exact ⟨l, e, m4⟩
        refine ⟨rfl, _, rfl, (m : Int), rfl, true, rfl, iteF ?_⟩
        refine ⟨_, rfl, _, _, rfl, rfl, _, rfl, ?_⟩
        rw [decide_eq_false (show ¬ (m : Int) < 0 by omega)]
        refine iteF ⟨_, rfl, _, rfl, rp, rv (exchs a (ms.take x)), rfl, .inr (tupK s3 hrp), _, _, rfl, rfl, _, rfl, ?_⟩
        rw [rv_len, hrow.len, decide_eq_false (show ¬ (n : Int) < (m : Int) by omega)]
        exact iteF ⟨s3, hu3, hD3⟩
      · obtain ⟨s3, hu3, hD3⟩ := hP
        refine ⟨Nat.zero_le _, fun e he => ?_⟩
        have nDe : D ≠ e := ne_of_none hD3 he
        refine ⟨.list (([] : List Int).map PyData.int), .list (([] : List Int).map PyData.int), .lst (SqL.of (by rw [upd_ne nDe]; exact hD3)) (dpInts []), .lst (SqL.of upd_same) (dpInts []), shapedL [], shapedL [], ?_⟩
        rw [eqvL, decide_eq_true rfl]
        refine ⟨_, rfl, iteF ?_⟩
        have s4 : Same H1 (upd H2 e (.lst [])) := sameU3 s3 he
        generalize upd H2 e (.lst []) = H3 at s4
        have hT3 : SqT K H3 ad (mvV (i, j, k, l)) := tupK s4 hT
        -- the places ascend
        have g1 : atI (mvV (i, j, k, l)) (1 : Int) = some (V.int (i : Int)) := rfl
        have g2 : atI (mvV (i, j, k, l)) (2 : Int) = some (V.int (j : Int)) := rfl
        have g3 : atI (mvV (i, j, k, l)) (3 : Int) = some (V.int (k : Int)) := rfl
        have g4 : atI (mvV (i, j, k, l)) (4 : Int) = some (V.int (l : Int)) := rfl
        refine ⟨_, rfl, ad, _, _, _, rfl, rfl, hT3, g1, _, rfl, ad, _, _, _, rfl, rfl, hT3, g2, _, _, rfl, rfl, _, rfl, ?_⟩
        rw [decide_eq_true (show (i : Int) < (j : Int) by omega)]
        refine iteT ⟨_, rfl, ad, _, _, _, rfl, rfl, hT3, g2, _, rfl, ad, _, _, _, rfl, rfl, hT3, g3, _, _, rfl, rfl, _, rfl, ?_⟩
        rw [decide_eq_true (show (j : Int) ≤ (k : Int) by omega)]
        refine iteT ⟨_, rfl, ad, _, _, _, rfl, rfl, hT3, g3, _, rfl, ad, _, _, _, rfl, rfl, hT3, g4, _, _, rfl, rfl, _, rfl, ?_⟩
        rw [decide_eq_true (show (k : Int) < (l : Int) by omega)]
        refine iteF ?_
        -- the move is done
        refine ⟨_, rfl, _, rfl, rp, ad, n, exchs a (ms.take x), i, j, k, l, rfl, tupK s4 hrp, s4 _ _ hA, hrow, hn, hmv, fun H4 g s5 hg => ?_⟩
        refine ⟨g, _, _, rfl, (s1.trans s4).trans s5, ?_⟩
        rw [exchs_take a ms x i j k l eq]
        exact SqT.of hg
    · rintro σ H1 ⟨rp, v4, v5, rfl, s1, hrp⟩
      rw [List.length_map, held.len, List.take_length, eex] at hrp
      refine ⟨_, rfl, _, rfl, .tuple ((ir b).map PyData.int), .tuple ((ir b).map PyData.int), .tup hrp (dpInts _), .tup (tupK s1 ho) (dpInts _), shapedT _, shapedT _, ?_⟩
      rw [eqvT, decide_eq_true rfl]
      exact q _ s1
end
end K8
/-! K9e: the law. -/
namespace K8
open PySem PySem.Spec PyProof.Rows L2
theorem three {α : Type} : ∀ {l : List α}, l.length = 3 → ∃ a b c, l = [a, b, c]
  | [a, b, c], _ => ⟨a, b, c, rfl⟩
section
variable {P : Program} {w : World} {K : PySem.W.Frag} {mg : Str → Option Value} {base : Heap}
theorem scLaw : FnScope ["_law_script", "_law_d", "_law_n", "_law_first", "_law_second", "_law_many", "_law_k", "_law_one", "_law_other", "_law_told", "_law_moves"] ["_law_script"] (defScope sLaw) := ⟨rfl, rfl, rfl, by decide +kernel, rfl, by decide +kernel, by decide +kernel⟩
def spLaw (K : PySem.W.Frag) : Sp := fun vs H Q _ => ∃ (a : Addr) (ns : List Int), vs = [.ref a] ∧ SqL K H a (ns.map V.int) ∧ ns.length ≤ 63 ∧ ∀ H', Q (.bl true) H'
/-- a def that is called: where it stands, how its arguments bind -/
structure At (P : Program) (w : World) (K : PySem.W.Frag) (mg : Str → Option Value) (base : Heap) (x : Str) (k : Nat) (f : Addr) (fd : FuncData) (ps : List Str) (sp : Sp) : Prop where
  G : FnOk P w K mg base CX0 k f fd ps sp
  k : PySem.W.keepIn K (.ref f) = true
  b : Binds K fd ps []
  g : mg x = some (.ref f)
theorem ok_law {f fC fR fD fW fP fM fI fL fS fT : Addr} {fd dC dR dD dW dP dM dI dL dS dT : FuncData} (F : Fun K "law" "law" sLaw f fd) (T : Txt mg)
    (aC : At P w K mg base "_law_cell" 1 fC dC ["_law_script", "_law_k"] (spCellX K))
    (aR : At P w K mg base "_law_rich" 1 fR dR ["_law_cell_here"] spRich)
    (aD : At P w K mg base "_law_digits" 1 fD dD ["_law_cell_here", "_law_sizes"] spDigits)
    (aW : At P w K mg base "_law_row" 2 fW dW ["_law_cell_here", "_law_n"] spRow)
    (aP : At P w K mg base "_law_plain_move" 2 fP dP ["_law_kind", "_law_cell_here", "_law_n"] spPMove)
    (aM : At P w K mg base "_law_moved" 1 fM dM ["_law_row_here", "_law_move"] (spMoved K))
    (aI : At P w K mg base "_law_is_integer" 1 fI dI ["_law_actual"] spIsInt)
    (aL : At P w K mg base "least_blocks" 3 fL dL ["first", "second"] (spLeast K))
    (aS : At P w K mg base "block_script" 3 fS dS ["first", "second"] (spScript K))
    (aT : At P w K mg base "_law_leads" 2 fT dT ["_law_first", "_law_second", "_law_moves"] (spLeadsTo K)) :
    FnOk P w K mg base CX0 4 f fd ["_law_script"] (spLaw K) := by
  refine F.ok scLaw (fun vs H Q E h => ?_) (fun cdv A outer s H vs Q E hr h => ?_)
  · obtain ⟨a, ns, rfl, _⟩ := h
    rfl
  · obtain ⟨a, ns, rfl, hS, hlen, q⟩ := h
    have hr2 : Room 2 _ := hr.mono (by decide)
    have hr1 : Room 1 _ := hr.mono (by decide)
    refine ⟨_, pss_cons (ps_set (i := 1) scLaw.nd rfl (.inl rfl) (pe_call aD.G hr1 (by rfl) aD.g aD.k aD.b .nil pass0 (pa_cons (pe_call aR.G hr1 (by rfl) aR.g aR.k aR.b .nil pass0
          (pa_cons (pe_call aC.G hr1 (by rfl) aC.g aC.k aC.b .nil pass0 (pa_cons (pv 0) (pa_cons pe_int pa_nil))) pa_nil)) (pa_cons (pe_lst (pa_cons pe_int (pa_cons pe_int (pa_cons pe_int pa_nil)))) pa_nil))))
      (pss_cons (ps_set (i := 2) scLaw.nd rfl (.inl rfl) (pe_ix ix_list (pe_lst (pa_cons (pe_op op_add pe_int (pe_ix ix_list (pv 1) pe_int (fun _ _ => rfl))) (pa_cons pe_int pa_nil)))
          (pe_callTy call_int1 (by rfl) T.int PyProof.Rows.boot_int (pa_cons (pe_cmpR op_eq (pe_ix ix_list (pv 1) pe_int (fun _ _ => rfl)) pe_int (nomark _)) pa_nil)) (fun _ _ => rfl)))
      (pss_cons (ps_set (i := 3) scLaw.nd rfl (.inl rfl) (pe_call aW.G hr2 (by rfl) aW.g aW.k aW.b .nil pass0 (pa_cons (pe_call aC.G hr1 (by rfl) aC.g aC.k aC.b .nil pass0 (pa_cons (pv 0) (pa_cons pe_int pa_nil))) (pa_cons (pv 2) pa_nil))))
      (pss_cons (ps_set (i := 4) scLaw.nd rfl (.inl rfl) (pv 3))
      (pss_cons (ps_set (i := 5) scLaw.nd rfl (.inl rfl) pe_int)
      (C8.pss_cut (ps_for PassesOwn.never rfl (pi_range1 (by rfl) T.range (pa_cons pe_int pa_nil)) (pg_name (i := 6) scLaw.nd rfl (Or.inl rfl))
        (pss_cons (ps_if (pt_cmpR op_ge (pe_op op_add pe_int (pv 6)) (pe_callB call_len_seq (by rfl) T.len PySem.boot_len (pa_cons (pv 0) pa_nil)) (nomark _)) (pss_one ps_break) pss_nil)
        (pss_cons (ps_set (i := 4) scLaw.nd rfl (.inl rfl) (pe_call aM.G hr1 (by rfl) aM.g aM.k aM.b .nil pass0 (pa_cons (pv 4) (pa_cons (pe_call aP.G hr2 (by rfl) aP.g aP.k aP.b .nil pass0
            (pa_cons pe_str (pa_cons (pe_op op_add (pe_call aC.G hr1 (by rfl) aC.g aC.k aC.b .nil pass0 (pa_cons (pv 0) (pa_cons (pe_op op_add pe_int (pv 6)) pa_nil))) (pv 6)) (pa_cons (pv 2) pa_nil)))) pa_nil))))
        (pss_one (ps_set (i := 5) scLaw.nd rfl (.inl rfl) (pe_op op_add (pv 5) pe_int))))))
      (C8.pss_cut (ps_if (pt_cmpR op_eq (pe_ix ix_list (pv 1) pe_int (fun _ _ => rfl)) pe_int (nomark _))
          (pss_cons (ps_set (i := 4) scLaw.nd rfl (.inl rfl) (pe_call aW.G hr2 (by rfl) aW.g aW.k aW.b .nil pass0 (pa_cons (pe_op op_add (pe_call aC.G hr1 (by rfl) aC.g aC.k aC.b .nil pass0 (pa_cons (pv 0) (pa_cons pe_int pa_nil))) pe_int) (pa_cons (pv 2) pa_nil))))
          (pss_one (ps_set (i := 5) scLaw.nd rfl (.inl rfl) (pe_op op_mul (pv 2) (pv 2))))) pss_nil)
      (pss_cons (ps_for PassesOwn.never rfl (pi_list (pe_lst (pa_cons (pe_tup (pa_cons (pv 3) (pa_cons (pv 4) pa_nil))) (pa_cons (pe_tup (pa_cons (pv 4) (pa_cons (pv 3) pa_nil))) pa_nil))))
          (pg_tup rfl (pgs_cons (pg_name (i := 7) scLaw.nd rfl (Or.inl rfl)) (pgs_cons (pg_name (i := 8) scLaw.nd rfl (Or.inl rfl)) pgs_nil)))
        (pss_cons (ps_set (i := 9) scLaw.nd rfl (.inl rfl) (pe_call aL.G hr (by rfl) aL.g aL.k aL.b .nil pass0 (pa_cons (pv 7) (pa_cons (pv 8) pa_nil))))
        (pss_cons (ps_if (PW.pt (pw_or (pt_not (pt_val (pe_call aI.G hr1 (by rfl) aI.g aI.k aI.b .nil pass0 (pa_cons (pv 9) pa_nil)))) (pw_or (pt_cmpR op_lt (pv 9) pe_int (nomark _)) (pw_or1 (pt_cmpR op_gt (pv 9) (pv 5) (nomark _)))))) pss_never pss_nil)
        (pss_cons (ps_set (i := 10) scLaw.nd rfl (.inl rfl) (pe_call aS.G hr (by rfl) aS.g aS.k aS.b .nil pass0 (pa_cons (pv 7) (pa_cons (pv 8) pa_nil))))
        (pss_one (ps_if (PW.pt (pw_or (pt_not (pt_val (pe_callB call_isi (by rfl) T.isi boot_isinstance (pa_cons (pv 10) (pa_cons (pe_bltn (v := .ty "tuple") (by rfl) T.tuple PyProof.Rows.boot_tuple rfl) pa_nil)))))
            (pw_or (pt_cmpR op_ne (pe_callB call_len_seq (by rfl) T.len PySem.boot_len (pa_cons (pv 10) pa_nil)) (pv 9) (nomark _))
            (pw_or1 (pt_not (pt_val (pe_call aT.G hr2 (by rfl) aT.g aT.k aT.b .nil pass0 (pa_cons (pv 7) (pa_cons (pv 8) (pa_cons (pv 10) pa_nil)))))))))) pss_never pss_nil))))))
      (pss_one (ps_ret (pe_cmpR op_eq (pe_call aL.G hr (by rfl) aL.g aL.k aL.b .nil pass0 (pa_cons (pv 3) (pa_cons (pv 3) pa_nil))) pe_int (nomark _)))))))))))
      , ?_⟩
    -- the digits
    refine ⟨_, rfl, a, ns, 0, rfl, hS, fun z0 => ⟨z0, rfl, fun y0 => ⟨by show 3 ≤ sizeLine; decide, fun l hl => ?_⟩⟩⟩
    refine ⟨y0, l, [11, 5, 8], rfl, upd_same, fun m hm => ?_, by show 3 ≤ 10; decide, fun H1 td ds s1 hd hdl hds => ?_⟩
    · have hm : m ∈ [11, 5, 8] := hm
      simp only [List.mem_cons, List.not_mem_nil, or_false] at hm
      omega
    have s1 : Same H H1 := (sameU hl).trans s1
    obtain ⟨d0, d1, d2, rfl⟩ := three hdl
    have b0 : d0 < 11 := hds 0 d0 11 rfl rfl
    have hD : SqL K H1 td (rv [d0, d1, d2]) := SqL.of hd
    -- n
    refine ⟨_, rfl, td, _, 0, _, rfl, rfl, hD, atI_nat (j := 0) (rv_get (x := d0) rfl), _, _, rfl, rfl, by show 2 ≤ sizeLine; decide, fun L hL => ?_⟩
    have sL : Same H1 (upd H1 L (.lst [.int (2 + (d0 : Int)), .int 40])) := sameU hL
    refine ⟨_, rfl, td, _, 2, _, rfl, rfl, sL.seq hD, atI_nat (j := 2) (rv_get (x := d2) rfl), rfl, .inr ⟨_, rfl, ?_⟩⟩
    obtain ⟨n, en, hn2, hn⟩ : ∃ n : Nat, atI [V.int (2 + (d0 : Int)), V.int 40] (if decide (V.int (d2 : Int) = V.int 0) = true then 1 else 0) = some (V.int (n : Int)) ∧ 2 ≤ n ∧ n ≤ 40 := by
      by_cases c : d2 = 0
      · refine ⟨40, ?_, by omega, by omega⟩
        rw [if_pos (decide_eq_true (by rw [c]; rfl))]
        rfl
      · refine ⟨2 + d0, ?_, by omega, by omega⟩
        have cz : ¬ decide (V.int (d2 : Int) = V.int 0) = true := fun z => c (by
          have := V.int.inj (of_decide_eq_true z)
          omega)
        rw [if_neg cz]
        rfl
    refine ⟨L, _, _, _, rfl, rfl, SqL.of upd_same, en, ?_⟩
    have s2 : Same H (upd H1 L (.lst [.int (2 + (d0 : Int)), .int 40])) := s1.trans sL
    have hd2 : (upd H1 L (.lst [.int (2 + (d0 : Int)), .int 40])) td = some (.lst (rv [d0, d1, d2])) := sL _ _ hd
    generalize upd H1 L (.lst [.int (2 + (d0 : Int)), .int 40]) = H2 at s2 hd2
    -- first
    refine ⟨_, rfl, a, ns, 1, rfl, s2.seq hS, fun z1 => ⟨_, rfl, z1, n, rfl, hn, fun H3 p r s3 hp hr3 => ?_⟩⟩
    have t3 := s2.trans s3
    have hd3 := s3 _ _ hd2
    have hP : SqT K H3 p (rv r) := SqT.of hp
    refine ⟨_, rfl, ?_⟩
    -- the loop of the drawn moves
    refine ⟨fun σ H' => ∃ (sp : Addr) (sr : List Nat) (ms : List Quad) (v6 : Option V), σ = [some (.ref a), some (.ref td), some (.int (n : Int)), some (.ref p), some (.ref sp), some (.int (ms.length : Int)), v6, none, none, none, none] ∧
        Same H3 H' ∧ SqT K H' sp (rv sr) ∧ IsRow n sr ∧ Mvs n ms ∧ exchs r ms = sr,
      ⟨_, rfl, by decide, by decide, for_range (lo := 0) (n := 10) (fun i σ H' => ∃ (sp : Addr) (sr : List Nat) (ms : List Quad) (v6 : Option V), σ = [some (.ref a), some (.ref td), some (.int (n : Int)), some (.ref p), some (.ref sp), some (.int (ms.length : Int)), v6, none, none, none, none] ∧
          Same H3 H' ∧ SqT K H' sp (rv sr) ∧ IsRow n sr ∧ Mvs n ms ∧ exchs r ms = sr)
        ⟨p, r, [], none, rfl, Same.refl _, hP, hr3, Mvs.nil n, rfl⟩ ?_ (fun σ H' hP => hP)⟩, ?_⟩
    · rintro i σ H4 hi ⟨sp, sr, ms, v6, rfl, s4, hsp, hsr, mok, eex⟩
      have t4 := t3.trans s4
      refine ⟨_, rfl, _, _, rfl, rfl, _, rfl, a, _, rfl, .inl (t4.seq hS), _, _, rfl, rfl, _, rfl, ?_⟩
      refine ite2 (fun _ => ?_) (fun _ => ?_)
      · exact ⟨sp, sr, ms, _, rfl, s4, hsp, hsr, mok, eex⟩
      · refine ⟨_, rfl, _, rfl, _, rfl, _, _, rfl, rfl, a, ns, 2 + i, ?_, t4.seq hS, fun z2 => ⟨_, rfl, _, _, rfl, rfl, _, rfl, _, n, rfl, hn2, hn, fun H5 mt j1 j2 j3 j4 s5 hmt hmv => ?_⟩⟩
        · show [V.ref a, V.int (2 + (0 + (i : Int)))] = [V.ref a, V.int ((2 + i : Nat) : Int)]
          rw [show (2 + (0 + (i : Int))) = ((2 + i : Nat) : Int) by omega]
        refine ⟨sp, mt, n, sr, j1, j2, j3, j4, rfl, tupK s5 hsp, hmt, hsr, hn, hmv, fun H6 u s6 hu => ?_⟩
        refine ⟨_, rfl, _, _, rfl, rfl, u, exch sr j1 j2 j3 j4, ms ++ [(j1, j2, j3, j4)], some (.int (0 + (i : Int))), ?_, (s4.trans s5).trans s6, SqT.of hu, hsr.exch hmv, mok.snoc hmv, by rw [exchs_snoc, eex]⟩
        rw [List.length_append]
        rfl
    · -- behind the loop
      rintro σ H4 ⟨sp, sr, ms, v6, rfl, s4, hsp, hsr, mok, eex⟩
      have t4 := t3.trans s4
      have l1 := lb_le hr3 hsr mok eex
      have l2 := lb_back hr3 hsr mok eex
      refine ⟨fun σ H' => ∃ (sp : Addr) (sr : List Nat) (M : Nat) (v6 : Option V), σ = [some (.ref a), some (.ref td), some (.int (n : Int)), some (.ref p), some (.ref sp), some (.int (M : Int)), v6, none, none, none, none] ∧
          Same H3 H' ∧ SqT K H' sp (rv sr) ∧ IsRow n sr ∧ lb n r sr ≤ M ∧ lb n sr r ≤ M,
        ⟨_, rfl, td, _, 1, _, rfl, rfl, SqL.of (s4 _ _ hd3), atI_nat (j := 1) (rv_get (x := d1) rfl), rfl, _, rfl, ite2 (fun _ => ?_) (fun _ => ?_)⟩, ?_⟩
      · refine ⟨_, rfl, a, ns, 2, rfl, t4.seq hS, fun z3 => ⟨_, _, rfl, rfl, _, rfl, z3 + 1, n, rfl, hn, fun H5 sp2 sr2 s5 hsp2 hsr2 => ?_⟩⟩
        refine ⟨_, rfl, _, rfl, _, _, rfl, rfl, .inl ⟨by omega, by omega⟩, ?_⟩
        refine ⟨sp2, sr2, n * n, v6, ?_, s4.trans s5, SqT.of hsp2, hsr2, lb_any hn2 r sr2, lb_any hn2 sr2 r⟩
        rw [Int.natCast_mul]
        rfl
      · exact ⟨sp, sr, ms.length, _, rfl, s4, hsp, hsr, l1, l2⟩
      · -- the two ways
        rintro σ H5 ⟨sp, sr, M, v6, rfl, s5, hsp, hsr, m1, m2⟩
        refine ⟨_, rfl, _, rfl, by show 2 ≤ sizeLine; decide, fun ta hta => ⟨_, rfl, _, rfl, by show 2 ≤ sizeLine; decide, fun tb htb => ⟨by show 2 ≤ sizeLine; decide, fun l2 hl2 => ?_⟩⟩⟩
        have nab : ta ≠ tb := fun z => by
          rw [← z, upd_same] at htb
          cases htb
        have eA : (upd (upd H5 ta (.tup [.ref p, .ref sp])) tb (.tup [.ref sp, .ref p])) ta = some (.tup [.ref p, .ref sp]) := by rw [upd_ne nab, upd_same]
        have eB : (upd (upd H5 ta (.tup [.ref p, .ref sp])) tb (.tup [.ref sp, .ref p])) tb = some (.tup [.ref sp, .ref p]) := upd_same
        have s6 : Same H5 (upd (upd H5 ta (.tup [.ref p, .ref sp])) tb (.tup [.ref sp, .ref p])) := sameU3 (sameU hta) htb
        generalize upd (upd H5 ta (.tup [.ref p, .ref sp])) tb (.tup [.ref sp, .ref p]) = H6 at eA eB s6 hl2
        have s7 : Same H6 (upd H6 l2 (.lst [.ref ta, .ref tb])) := sameU hl2
        have hP5 : SqT K H5 p (rv r) := tupK s5 hP
        refine ⟨l2, rfl, ⟨_, SqL.of upd_same⟩, for_list (K := K) (a := l2) (xs := [.ref ta, .ref tb])
          (fun x σ H' => ∃ (v6 v7 v8 v9 v10 : Option V), σ = [some (.ref a), some (.ref td), some (.int (n : Int)), some (.ref p), some (.ref sp), some (.int (M : Int)), v6, v7, v8, v9, v10] ∧ Same (upd H6 l2 (.lst [.ref ta, .ref tb])) H')
          ⟨_, none, none, none, none, rfl, Same.refl _⟩ (fun x σ H' _ ⟨_, _, _, _, _, _, s8⟩ => SqL.of (s8 _ _ upd_same)) ?_ ?_⟩
        · rintro x v σ H7 hv ⟨v6, v7, v8, v9, v10, rfl, s8⟩
          have t7 : Same H6 H7 := s7.trans s8
          have t57 : Same H5 H7 := s6.trans t7
          -- one of the two pairs
          obtain ⟨tx, pa, pb, ra, rb, rfl, hx, ha, hb, hra, hrb, hlm⟩ : ∃ (tx pa pb : Addr) (ra rb : List Nat), v = .ref tx ∧ H7 tx = some (.tup [.ref pa, .ref pb]) ∧ SqT K H7 pa (rv ra) ∧ SqT K H7 pb (rv rb) ∧ IsRow n ra ∧ IsRow n rb ∧ lb n ra rb ≤ M := by
            match x, hv with
            | 0, hv => exact ⟨ta, p, sp, r, sr, (Option.some.inj hv).symm, t7 _ _ eA, tupK t57 hP5, tupK t57 hsp, hr3, hsr, m1⟩
            | 1, hv => exact ⟨tb, sp, p, sr, r, (Option.some.inj hv).symm, t7 _ _ eB, tupK t57 hsp, tupK t57 hP5, hsr, hr3, m2⟩
            | x + 2, hv => simp at hv
          refine ⟨tx, _, rfl, SqT.of hx, rfl, _, _, rfl, _, _, rfl, rfl, ?_⟩
          -- told
          refine ⟨_, rfl, _, rfl, pa, pb, n, ra, rb, rfl, ha, hb, hra, hrb, by omega, hn, fun H8 u8 => ?_⟩
          refine ⟨_, rfl, _, rfl, true, rfl, iteF ⟨_, rfl, _, _, rfl, rfl, _, rfl, ?_⟩⟩
          rw [decide_eq_false (show ¬ ((lb n ra rb : Nat) : Int) < 0 by omega)]
          refine iteF ⟨_, rfl, _, rfl, _, _, rfl, rfl, _, rfl, ?_⟩
          rw [decide_eq_false (show ¬ (M : Int) < ((lb n ra rb : Nat) : Int) by omega)]
          refine iteF ?_
          -- moves
          refine ⟨_, rfl, _, rfl, pa, pb, n, ra, rb, rfl, tupK u8 ha, tupK u8 hb, hra, hrb, hn, fun H9 mt ts mq u9 hmt held mok2 hml hex => ?_⟩
          refine ⟨_, rfl, V.ref mt, .ty "tuple", .type "tuple", .type "tuple", true, rfl, .ty _, .base (.tup hmt), kit_ty (by decide +kernel), true, rfl, iteF ?_⟩
          refine ⟨_, rfl, mt, _, rfl, .inr (SqT.of hmt), _, rfl, rfl, _, rfl, ?_⟩
          rw [decide_eq_true (show V.int (((ts.map V.ref).length : Nat) : Int) = V.int ((lb n ra rb : Nat) : Int) by rw [List.length_map, held.len, hml])]
          refine iteF ⟨_, rfl, _, rfl, _, rfl, pa, pb, mt, n, ra, rb, ts, mq, rfl, tupK (u8.trans u9) ha, tupK (u8.trans u9) hb, hra, hn, hmt, held, mok2, hex, fun H10 u10 => ⟨true, rfl, iteF ?_⟩⟩
          exact ⟨_, _, _, _, _, rfl, ((s8.trans u8).trans u9).trans u10⟩
        · rintro σ H7 ⟨v6, v7, v8, v9, v10, rfl, s8⟩
          have t57 : Same H5 H7 := s6.trans (s7.trans s8)
          refine ⟨_, rfl, _, rfl, p, p, n, r, r, rfl, tupK t57 hP5, tupK t57 hP5, hr3, hr3, by omega, hn, fun H8 u8 => ⟨rfl, ?_⟩⟩
          rw [lb_self hr3]
          exact q _
end
end K8
namespace K8
open PySem PySem.Spec PyProof.Rows L2
/-- what the top has written -/
theorem all_mk {l : PySem.W.OpenLaw} {w : World} {K : PySem.W.Frag} {h : Heap} {mg : Str → Option Value} {fa f1 f2 f3 f4 f5 f6 f7 f8 f9 f10 f11 f12 f13 f14 f15 f16 f17 f18 f19 f20 : Addr} (X : K.In h) (G : h.Ns mainGlobals mg) (hfa : mg "law" = some (.ref fa))
    {od1 an1 od2 an2 od3 an3 od4 an4 od5 an5 od6 an6 od7 an7 od8 an8 od9 an9 od10 an10 od11 an11 od12 an12 od13 an13 od14 an14 od15 an15 od16 an16 od17 an17 od18 an18 od19 an19 od20 an20 : Option Addr} {sl1 sl2 sl3 sl4 sl5 sl6 sl7 sl8 sl9 sl10 sl11 sl12 sl13 sl14 sl15 sl16 sl17 sl18 sl19 sl20 : Array (Option Value)}
    {oc1 kV1 dc1 pm1 cd1 ct1 oc2 kV2 dc2 pm2 cd2 ct2 oc3 kV3 dc3 pm3 cd3 ct3 oc4 kV4 dc4 pm4 cd4 ct4 oc5 kV5 dc5 pm5 cd5 ct5 oc6 kV6 dc6 pm6 cd6 ct6 oc7 kV7 dc7 pm7 cd7 ct7 oc8 kV8 dc8 pm8 cd8 ct8 oc9 kV9 dc9 pm9 cd9 ct9 oc10 kV10 dc10 pm10 cd10 ct10 oc11 kV11 dc11 pm11 cd11 ct11 oc12 kV12 dc12 pm12 cd12 ct12 oc13 kV13 dc13 pm13 cd13 ct13 oc14 kV14 dc14 pm14 cd14 ct14 oc15 kV15 dc15 pm15 cd15 ct15 oc16 kV16 dc16 pm16 cd16 ct16 oc17 kV17 dc17 pm17 cd17 ct17 oc18 kV18 dc18 pm18 cd18 ct18 oc19 kV19 dc19 pm19 cd19 ct19 oc20 kV20 dc20 pm20 cd20 ct20 : Value} {tM : Tok}
    (a1 : PySem.W.nsIn K mainGlobals "check_row" = some (some (.ref f1)))
    (l1 : K.lookup f1 = some ⟨oc1, od1, .func (PySem.W.fnOf "check_row" "check_row" (defArgs sCheck) (defBody sCheck) (defScope sCheck) .none kV1 dc1 pm1 an1 cd1 ct1), sl1⟩)
    (c1 : PySem.W.codeIn K cd1 "check_row" = true) (k1 : PySem.W.keepIn K (.ref f1) = true)
    (a2 : PySem.W.nsIn K mainGlobals "sorted_row" = some (some (.ref f2)))
    (l2 : K.lookup f2 = some ⟨oc2, od2, .func (PySem.W.fnOf "sorted_row" "sorted_row" (defArgs sSorted) (defBody sSorted) (defScope sSorted) .none kV2 dc2 pm2 an2 cd2 ct2), sl2⟩)
    (c2 : PySem.W.codeIn K cd2 "sorted_row" = true) (k2 : PySem.W.keepIn K (.ref f2) = true)
    (a3 : PySem.W.nsIn K mainGlobals "need_same_length" = some (some (.ref f3)))
    (l3 : K.lookup f3 = some ⟨oc3, od3, .func (PySem.W.fnOf "need_same_length" "need_same_length" (defArgs sNeed) (defBody sNeed) (defScope sNeed) .none kV3 dc3 pm3 an3 cd3 ct3), sl3⟩)
    (c3 : PySem.W.codeIn K cd3 "need_same_length" = true) (k3 : PySem.W.keepIn K (.ref f3) = true)
    (a4 : PySem.W.nsIn K mainGlobals "relative_row" = some (some (.ref f4)))
    (l4 : K.lookup f4 = some ⟨oc4, od4, .func (PySem.W.fnOf "relative_row" "relative_row" (defArgs sRel) (defBody sRel) (defScope sRel) .none kV4 dc4 pm4 an4 cd4 ct4), sl4⟩)
    (c4 : PySem.W.codeIn K cd4 "relative_row" = true) (k4 : PySem.W.keepIn K (.ref f4) = true)
    (a5 : PySem.W.nsIn K mainGlobals "rings_of" = some (some (.ref f5)))
    (l5 : K.lookup f5 = some ⟨oc5, od5, .func (PySem.W.fnOf "rings_of" "rings_of" (defArgs sRings) (defBody sRings) (defScope sRings) .none kV5 dc5 pm5 an5 cd5 ct5), sl5⟩)
    (c5 : PySem.W.codeIn K cd5 "rings_of" = true) (k5 : PySem.W.keepIn K (.ref f5) = true)
    (a6 : PySem.W.nsIn K mainGlobals "block_leads" = some (some (.ref f6)))
    (l6 : K.lookup f6 = some ⟨oc6, od6, .func (PySem.W.fnOf "block_leads" "block_leads" (defArgs sLeads) (defBody sLeads) (defScope sLeads) .none kV6 dc6 pm6 an6 cd6 ct6), sl6⟩)
    (c6 : PySem.W.codeIn K cd6 "block_leads" = true) (k6 : PySem.W.keepIn K (.ref f6) = true)
    (a7 : PySem.W.nsIn K mainGlobals "block_rings" = some (some (.ref f7)))
    (l7 : K.lookup f7 = some ⟨oc7, od7, .func (PySem.W.fnOf "block_rings" "block_rings" (defArgs sBRings) (defBody sBRings) (defScope sBRings) .none kV7 dc7 pm7 an7 cd7 ct7), sl7⟩)
    (c7 : PySem.W.codeIn K cd7 "block_rings" = true) (k7 : PySem.W.keepIn K (.ref f7) = true)
    (a8 : PySem.W.nsIn K mainGlobals "exchanged" = some (some (.ref f8)))
    (l8 : K.lookup f8 = some ⟨oc8, od8, .func (PySem.W.fnOf "exchanged" "exchanged" (defArgs sExch) (defBody sExch) (defScope sExch) .none kV8 dc8 pm8 an8 cd8 ct8), sl8⟩)
    (c8 : PySem.W.codeIn K cd8 "exchanged" = true) (k8 : PySem.W.keepIn K (.ref f8) = true)
    (a9 : PySem.W.nsIn K mainGlobals "least_blocks" = some (some (.ref f9)))
    (l9 : K.lookup f9 = some ⟨oc9, od9, .func (PySem.W.fnOf "least_blocks" "least_blocks" (defArgs sLeast) (defBody sLeast) (defScope sLeast) .none kV9 dc9 pm9 an9 cd9 ct9), sl9⟩)
    (c9 : PySem.W.codeIn K cd9 "least_blocks" = true) (k9 : PySem.W.keepIn K (.ref f9) = true)
    (a10 : PySem.W.nsIn K mainGlobals "next_exchange" = some (some (.ref f10)))
    (l10 : K.lookup f10 = some ⟨oc10, od10, .func (PySem.W.fnOf "next_exchange" "next_exchange" (defArgs sNext) (defBody sNext) (defScope sNext) .none kV10 dc10 pm10 an10 cd10 ct10), sl10⟩)
    (c10 : PySem.W.codeIn K cd10 "next_exchange" = true) (k10 : PySem.W.keepIn K (.ref f10) = true)
    (a11 : PySem.W.nsIn K mainGlobals "block_script" = some (some (.ref f11)))
    (l11 : K.lookup f11 = some ⟨oc11, od11, .func (PySem.W.fnOf "block_script" "block_script" (defArgs sScript) (defBody sScript) (defScope sScript) .none kV11 dc11 pm11 an11 cd11 ct11), sl11⟩)
    (c11 : PySem.W.codeIn K cd11 "block_script" = true) (k11 : PySem.W.keepIn K (.ref f11) = true)
    (a12 : PySem.W.nsIn K mainGlobals "_law_cell" = some (some (.ref f12)))
    (l12 : K.lookup f12 = some ⟨oc12, od12, .func (PySem.W.fnOf "_law_cell" "_law_cell" (defArgs sCell) (defBody sCell) (defScope sCell) .none kV12 dc12 pm12 an12 cd12 ct12), sl12⟩)
    (c12 : PySem.W.codeIn K cd12 "_law_cell" = true) (k12 : PySem.W.keepIn K (.ref f12) = true)
    (a13 : PySem.W.nsIn K mainGlobals "_law_digits" = some (some (.ref f13)))
    (l13 : K.lookup f13 = some ⟨oc13, od13, .func (PySem.W.fnOf "_law_digits" "_law_digits" (defArgs sDigits) (defBody sDigits) (defScope sDigits) .none kV13 dc13 pm13 an13 cd13 ct13), sl13⟩)
    (c13 : PySem.W.codeIn K cd13 "_law_digits" = true) (k13 : PySem.W.keepIn K (.ref f13) = true)
    (a14 : PySem.W.nsIn K mainGlobals "_law_rich" = some (some (.ref f14)))
    (l14 : K.lookup f14 = some ⟨oc14, od14, .func (PySem.W.fnOf "_law_rich" "_law_rich" (defArgs sRich) (defBody sRich) (defScope sRich) .none kV14 dc14 pm14 an14 cd14 ct14), sl14⟩)
    (c14 : PySem.W.codeIn K cd14 "_law_rich" = true) (k14 : PySem.W.keepIn K (.ref f14) = true)
    (a15 : PySem.W.nsIn K mainGlobals "_law_row" = some (some (.ref f15)))
    (l15 : K.lookup f15 = some ⟨oc15, od15, .func (PySem.W.fnOf "_law_row" "_law_row" (defArgs sRow) (defBody sRow) (defScope sRow) .none kV15 dc15 pm15 an15 cd15 ct15), sl15⟩)
    (c15 : PySem.W.codeIn K cd15 "_law_row" = true) (k15 : PySem.W.keepIn K (.ref f15) = true)
    (a16 : PySem.W.nsIn K mainGlobals "_law_plain_move" = some (some (.ref f16)))
    (l16 : K.lookup f16 = some ⟨oc16, od16, .func (PySem.W.fnOf "_law_plain_move" "_law_plain_move" (defArgs sPMove) (defBody sPMove) (defScope sPMove) .none kV16 dc16 pm16 an16 cd16 ct16), sl16⟩)
    (c16 : PySem.W.codeIn K cd16 "_law_plain_move" = true) (k16 : PySem.W.keepIn K (.ref f16) = true)
    (a17 : PySem.W.nsIn K mainGlobals "_law_moved" = some (some (.ref f17)))
    (l17 : K.lookup f17 = some ⟨oc17, od17, .func (PySem.W.fnOf "_law_moved" "_law_moved" (defArgs sMoved) (defBody sMoved) (defScope sMoved) .none kV17 dc17 pm17 an17 cd17 ct17), sl17⟩)
    (c17 : PySem.W.codeIn K cd17 "_law_moved" = true) (k17 : PySem.W.keepIn K (.ref f17) = true)
    (a18 : PySem.W.nsIn K mainGlobals "_law_is_integer" = some (some (.ref f18)))
    (l18 : K.lookup f18 = some ⟨oc18, od18, .func (PySem.W.fnOf "_law_is_integer" "_law_is_integer" (defArgs sIsInt) (defBody sIsInt) (defScope sIsInt) .none kV18 dc18 pm18 an18 cd18 ct18), sl18⟩)
    (c18 : PySem.W.codeIn K cd18 "_law_is_integer" = true) (k18 : PySem.W.keepIn K (.ref f18) = true)
    (a19 : PySem.W.nsIn K mainGlobals "_law_leads" = some (some (.ref f19)))
    (l19 : K.lookup f19 = some ⟨oc19, od19, .func (PySem.W.fnOf "_law_leads" "_law_leads" (defArgs sLeadsTo) (defBody sLeadsTo) (defScope sLeadsTo) .none kV19 dc19 pm19 an19 cd19 ct19), sl19⟩)
    (c19 : PySem.W.codeIn K cd19 "_law_leads" = true) (k19 : PySem.W.keepIn K (.ref f19) = true)
    (a20 : PySem.W.nsIn K mainGlobals "law" = some (some (.ref f20)))
    (l20 : K.lookup f20 = some ⟨oc20, od20, .func (PySem.W.fnOf "law" "law" (defArgs sLaw) (defBody sLaw) (defScope sLaw) .none kV20 dc20 pm20 an20 cd20 ct20), sl20⟩)
    (c20 : PySem.W.codeIn K cd20 "law" = true) (k20 : PySem.W.keepIn K (.ref f20) = true)
    (z_len : PySem.W.nsIn K mainGlobals "len" = some none)
    (z_sorted : PySem.W.nsIn K mainGlobals "sorted" = some none)
    (z_list : PySem.W.nsIn K mainGlobals "list" = some none)
    (z_range : PySem.W.nsIn K mainGlobals "range" = some none)
    (z_tuple : PySem.W.nsIn K mainGlobals "tuple" = some none)
    (z_min : PySem.W.nsIn K mainGlobals "min" = some none)
    (z_max : PySem.W.nsIn K mainGlobals "max" = some none)
    (z_int : PySem.W.nsIn K mainGlobals "int" = some none)
    (z_isi : PySem.W.nsIn K mainGlobals "isinstance" = some none)
    (z_bool : PySem.W.nsIn K mainGlobals "bool" = some none)
    (aM : PySem.W.nsIn K mainGlobals "MOST_PIECES" = some (some (.int 40 tM))) :
    ∃ fd : FuncData, (∀ (s : Shared) (v : Value), BindsTo s fd ⟨[v], []⟩ [("_law_script", v)]) ∧ ∀ base : Heap, K.In base → base.Ns mainGlobals mg → FnOk l.prog w K mg base CX0 4 fa fd ["_law_script"] (spLaw K) := by
  have e := hfa.symm.trans (PySem.W.mg_of X G a20)
  cases e
  have T : Txt mg := ⟨PySem.W.mg_none_of X G z_len, PySem.W.mg_none_of X G z_sorted, PySem.W.mg_none_of X G z_list, PySem.W.mg_none_of X G z_range, PySem.W.mg_none_of X G z_tuple, PySem.W.mg_none_of X G z_min, PySem.W.mg_none_of X G z_max, PySem.W.mg_none_of X G z_int, PySem.W.mg_none_of X G z_isi, PySem.W.mg_none_of X G z_bool, ⟨_, PySem.W.mg_of X G aM⟩⟩
  have F1 := fun_mk (st := sCheck) l1 c1 k1
  have F2 := fun_mk (st := sSorted) l2 c2 k2
  have F3 := fun_mk (st := sNeed) l3 c3 k3
  have F4 := fun_mk (st := sRel) l4 c4 k4
  have F5 := fun_mk (st := sRings) l5 c5 k5
  have F6 := fun_mk (st := sLeads) l6 c6 k6
  have F7 := fun_mk (st := sBRings) l7 c7 k7
  have F8 := fun_mk (st := sExch) l8 c8 k8
  have F9 := fun_mk (st := sLeast) l9 c9 k9
  have F10 := fun_mk (st := sNext) l10 c10 k10
  have F11 := fun_mk (st := sScript) l11 c11 k11
  have F12 := fun_mk (st := sCell) l12 c12 k12
  have F13 := fun_mk (st := sDigits) l13 c13 k13
  have F14 := fun_mk (st := sRich) l14 c14 k14
  have F15 := fun_mk (st := sRow) l15 c15 k15
  have F16 := fun_mk (st := sPMove) l16 c16 k16
  have F17 := fun_mk (st := sMoved) l17 c17 k17
  have F18 := fun_mk (st := sIsInt) l18 c18 k18
  have F19 := fun_mk (st := sLeadsTo) l19 c19 k19
  have F20 := fun_mk (st := sLaw) l20 c20 k20
  have b1 := F1.binds (ps := ["row"]) fun _ _ _ _ _ _ us hl => match us, hl with | [_], _ => rfl
  have g1 := PySem.W.mg_of X G a1
  have b2 := F2.binds (ps := ["n"]) fun _ _ _ _ _ _ us hl => match us, hl with | [_], _ => rfl
  have g2 := PySem.W.mg_of X G a2
  have b3 := F3.binds (ps := ["first", "second"]) fun _ _ _ _ _ _ us hl => match us, hl with | [_, _], _ => rfl
  have g3 := PySem.W.mg_of X G a3
  have b4 := F4.binds (ps := ["first", "second"]) fun _ _ _ _ _ _ us hl => match us, hl with | [_, _], _ => rfl
  have g4 := PySem.W.mg_of X G a4
  have b5 := F5.binds (ps := ["leads"]) fun _ _ _ _ _ _ us hl => match us, hl with | [_], _ => rfl
  have g5 := PySem.W.mg_of X G a5
  have b6 := F6.binds (ps := ["row"]) fun _ _ _ _ _ _ us hl => match us, hl with | [_], _ => rfl
  have g6 := PySem.W.mg_of X G a6
  have b7 := F7.binds (ps := ["row"]) fun _ _ _ _ _ _ us hl => match us, hl with | [_], _ => rfl
  have g7 := PySem.W.mg_of X G a7
  have b8 := F8.binds (ps := ["row", "i", "j", "k", "l"]) fun _ _ _ _ _ _ us hl => match us, hl with | [_, _, _, _, _], _ => rfl
  have g8 := PySem.W.mg_of X G a8
  have b9 := F9.binds (ps := ["first", "second"]) fun _ _ _ _ _ _ us hl => match us, hl with | [_, _], _ => rfl
  have g9 := PySem.W.mg_of X G a9
  have b10 := F10.binds (ps := ["row"]) fun _ _ _ _ _ _ us hl => match us, hl with | [_], _ => rfl
  have g10 := PySem.W.mg_of X G a10
  have b11 := F11.binds (ps := ["first", "second"]) fun _ _ _ _ _ _ us hl => match us, hl with | [_, _], _ => rfl
  have g11 := PySem.W.mg_of X G a11
  have b12 := F12.binds (ps := ["_law_script", "_law_k"]) fun _ _ _ _ _ _ us hl => match us, hl with | [_, _], _ => rfl
  have g12 := PySem.W.mg_of X G a12
  have b13 := F13.binds (ps := ["_law_cell_here", "_law_sizes"]) fun _ _ _ _ _ _ us hl => match us, hl with | [_, _], _ => rfl
  have g13 := PySem.W.mg_of X G a13
  have b14 := F14.binds (ps := ["_law_cell_here"]) fun _ _ _ _ _ _ us hl => match us, hl with | [_], _ => rfl
  have g14 := PySem.W.mg_of X G a14
  have b15 := F15.binds (ps := ["_law_cell_here", "_law_n"]) fun _ _ _ _ _ _ us hl => match us, hl with | [_, _], _ => rfl
  have g15 := PySem.W.mg_of X G a15
  have b16 := F16.binds (ps := ["_law_kind", "_law_cell_here", "_law_n"]) fun _ _ _ _ _ _ us hl => match us, hl with | [_, _, _], _ => rfl
  have g16 := PySem.W.mg_of X G a16
  have b17 := F17.binds (ps := ["_law_row_here", "_law_move"]) fun _ _ _ _ _ _ us hl => match us, hl with | [_, _], _ => rfl
  have g17 := PySem.W.mg_of X G a17
  have b18 := F18.binds (ps := ["_law_actual"]) fun _ _ _ _ _ _ us hl => match us, hl with | [_], _ => rfl
  have g18 := PySem.W.mg_of X G a18
  have b19 := F19.binds (ps := ["_law_first", "_law_second", "_law_moves"]) fun _ _ _ _ _ _ us hl => match us, hl with | [_, _, _], _ => rfl
  have g19 := PySem.W.mg_of X G a19
  refine ⟨PySem.W.fnOf "law" "law" (defArgs sLaw) (defBody sLaw) (defScope sLaw) .none kV20 dc20 pm20 an20 cd20 ct20, fun s v => .of_eq rfl, fun base _ _ => ?_⟩
  have GRel : FnOk l.prog w K mg base CX0 2 f4 _ ["first", "second"] (spRel K) := ok_rel F4 T F1 b1 g1 F3 b3 g3
  have GBR : FnOk l.prog w K mg base CX0 2 f7 _ ["row"] (spBRings K) := ok_brings F7 T F1 b1 g1 F5 b5 g5 F6 b6 g6
  have GLe : FnOk l.prog w K mg base CX0 3 f9 _ ["first", "second"] (spLeast K) := ok_least F9 T GRel k4 b4 g4 GBR k7 b7 g7
  have GSo : FnOk l.prog w K mg base CX0 1 f2 _ ["n"] spSorted := ok_sorted F2 T
  have GNe : FnOk l.prog w K mg base CX0 1 f10 _ ["row"] (spNext K) := ok_next F10 T
  have GEx : FnOk l.prog w K mg base CX0 1 f8 _ ["row", "i", "j", "k", "l"] (spExch K) := ok_exch F8
  have GSc : FnOk l.prog w K mg base CX0 3 f11 _ ["first", "second"] (spScript K) := ok_script F11 T GRel k4 b4 g4 GSo k2 b2 g2 GNe k10 b10 g10 GEx k8 b8 g8
  have GCe : FnOk l.prog w K mg base CX0 1 f12 _ ["_law_script", "_law_k"] (spCellX K) := ok_cell F12 T
  have GDi : FnOk l.prog w K mg base CX0 1 f13 _ ["_law_cell_here", "_law_sizes"] spDigits := ok_digits F13 T
  have GRi : FnOk l.prog w K mg base CX0 1 f14 _ ["_law_cell_here"] spRich := ok_rich F14 T
  have GRo : FnOk l.prog w K mg base CX0 2 f15 _ ["_law_cell_here", "_law_n"] spRow := ok_row F15 T GRi k14 b14 g14
  have GPm : FnOk l.prog w K mg base CX0 2 f16 _ ["_law_kind", "_law_cell_here", "_law_n"] spPMove := ok_pmove F16 T GRi k14 b14 g14 GDi k13 b13 g13
  have GMo : FnOk l.prog w K mg base CX0 1 f17 _ ["_law_row_here", "_law_move"] (spMoved K) := ok_moved F17 T
  have GIs : FnOk l.prog w K mg base CX0 1 f18 _ ["_law_actual"] spIsInt := ok_isInt F18 T
  have GLt : FnOk l.prog w K mg base CX0 2 f19 _ ["_law_first", "_law_second", "_law_moves"] (spLeadsTo K) := ok_leadsTo F19 T GIs k18 b18 g18 GMo k17 b17 g17
  exact ok_law F20 T ⟨GCe, k12, b12, g12⟩ ⟨GRi, k14, b14, g14⟩ ⟨GDi, k13, b13, g13⟩ ⟨GRo, k15, b15, g15⟩ ⟨GPm, k16, b16, g16⟩ ⟨GMo, k17, b17, g17⟩ ⟨GIs, k18, b18, g18⟩ ⟨GLe, k9, b9, g9⟩ ⟨GSc, k11, b11, g11⟩ ⟨GLt, k19, b19, g19⟩
end K8
open PySem PySem.W PyProof.Rows
set_option maxRecDepth 100000 in
set_option maxHeartbeats 0 in
theorem PySem.Challenge.cw_turnedrows_k08_whole_blocks_none_fewer_holds : PySem.Challenge.rw_turnedrows_k08_whole_blocks_none_fewer.Holds := by
  w_on; o_law; k_head; (case hw => w_witness2)
  k_fill
  refine L2.walk_of (l := PySem.Challenge.rw_turnedrows_k08_whole_blocks_none_fewer) (n := 63) (k := 4) (x := "_law_script") (CX := fun _ => L2.CX0) (sp := fun w => K8.spLaw _) rfl (by decide) rfl ⟨rfl, by decide, by decide⟩ (fun w h Y => PySem.W.kIn_of Y) ?F (fun _ _ a ns hl _ hS => ⟨a, ns, rfl, hS, hl, fun _ => rfl⟩) (fun _ _ _ _ _ h => h)
  case F =>
    intro w mg fa h KX G hmg
    refine' K8.all_mk KX G hmg ?a1 ?l1 ?c1 ?k1 ?a2 ?l2 ?c2 ?k2 ?a3 ?l3 ?c3 ?k3 ?a4 ?l4 ?c4 ?k4 ?a5 ?l5 ?c5 ?k5 ?a6 ?l6 ?c6 ?k6 ?a7 ?l7 ?c7 ?k7 ?a8 ?l8 ?c8 ?k8 ?a9 ?l9 ?c9 ?k9 ?a10 ?l10 ?c10 ?k10 ?a11 ?l11 ?c11 ?k11 ?a12 ?l12 ?c12 ?k12 ?a13 ?l13 ?c13 ?k13 ?a14 ?l14 ?c14 ?k14 ?a15 ?l15 ?c15 ?k15 ?a16 ?l16 ?c16 ?k16 ?a17 ?l17 ?c17 ?k17 ?a18 ?l18 ?c18 ?k18 ?a19 ?l19 ?c19 ?k19 ?a20 ?l20 ?c20 ?k20 ?z_len ?z_sorted ?z_list ?z_range ?z_tuple ?z_min ?z_max ?z_int ?z_isi ?z_bool ?aM
    (case a1 => k_is)
    (case l1 => k_is)
    (case c1 => k_is)
    (case k1 => k_is)
    (case a2 => k_is)
    (case l2 => k_is)
    (case c2 => k_is)
    (case k2 => k_is)
    (case a3 => k_is)
    (case l3 => k_is)
    (case c3 => k_is)
    (case k3 => k_is)
    (case a4 => k_is)
    (case l4 => k_is)
    (case c4 => k_is)
    (case k4 => k_is)
    (case a5 => k_is)
    (case l5 => k_is)
    (case c5 => k_is)
    (case k5 => k_is)
    (case a6 => k_is)
    (case l6 => k_is)
    (case c6 => k_is)
    (case k6 => k_is)
    (case a7 => k_is)
    (case l7 => k_is)
    (case c7 => k_is)
    (case k7 => k_is)
    (case a8 => k_is)
    (case l8 => k_is)
    (case c8 => k_is)
    (case k8 => k_is)
    (case a9 => k_is)
    (case l9 => k_is)
    (case c9 => k_is)
    (case k9 => k_is)
    (case a10 => k_is)
    (case l10 => k_is)
    (case c10 => k_is)
    (case k10 => k_is)
    (case a11 => k_is)
    (case l11 => k_is)
    (case c11 => k_is)
    (case k11 => k_is)
    (case a12 => k_is)
    (case l12 => k_is)
    (case c12 => k_is)
    (case k12 => k_is)
    (case a13 => k_is)
    (case l13 => k_is)
    (case c13 => k_is)
    (case k13 => k_is)
    (case a14 => k_is)
    (case l14 => k_is)
    (case c14 => k_is)
    (case k14 => k_is)
    (case a15 => k_is)
    (case l15 => k_is)
    (case c15 => k_is)
    (case k15 => k_is)
    (case a16 => k_is)
    (case l16 => k_is)
    (case c16 => k_is)
    (case k16 => k_is)
    (case a17 => k_is)
    (case l17 => k_is)
    (case c17 => k_is)
    (case k17 => k_is)
    (case a18 => k_is)
    (case l18 => k_is)
    (case c18 => k_is)
    (case k18 => k_is)
    (case a19 => k_is)
    (case l19 => k_is)
    (case c19 => k_is)
    (case k19 => k_is)
    (case a20 => k_is)
    (case l20 => k_is)
    (case c20 => k_is)
    (case k20 => k_is)
    (case z_len => k_is)
    (case z_sorted => k_is)
    (case z_list => k_is)
    (case z_range => k_is)
    (case z_tuple => k_is)
    (case z_min => k_is)
    (case z_max => k_is)
    (case z_int => k_is)
    (case z_isi => k_is)
    (case z_bool => k_is)
    (case aM => k_is)
